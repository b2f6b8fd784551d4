import PyProof.Rows.All
import Wide.All
import OpenK.AllK
import Wide.FinOn
import HandS.ForMost
import HandS.Walk
import HandS.WideBits
import HandS.Flow
import HandS.Style
import HandS.Lambda
import HandS.Deep
import HandS.StrMore
import HandS.IsInst
import PyProof.ListStr
import PyProof.Rows.SortShellAny
import KE.GoesMore
import PyProof.EnumMake
import HandS.Strs
import KE.KRevSl
import KE.SortKeyHeap
import PyProof.Rows.CallKwBuiltin
import PyProof.SliceStr2
import PyProof.StrLawsFirst
import HandS.CallLocal
import HandS.Dict
import HandS.ExcOwn
import HandS.EndBits
import KE.IntBitsLaws
import KE.BitLaws
import HandS.WordsExc
import HandS.ExcCtx
import HandS.HotCalls
import HandS.ExcIs
import HandS.EndTab
import KE.KNest
import PySem.Challenge.RW_bracketchains_k10_handed_stays
set_option Elab.async false
set_option linter.all false
set_option maxRecDepth 100000
namespace Mc
open PySem PySem.Spec PyProof.Rows L2
open LamX (TabS Tabs CodeO)

/-! ### data -/
inductive D where
  | non | bl (b : Bool) | int (i : Int) | str (l : List Nat) | lst (ds : List D) | tup (ds : List D) | ins (c : Nat) (fs : List D)
  | dic | fn (f : Nat) | lam (j : Nat)

/-- the written part, the classes' addresses and their fields -/
structure Wd where
  K : PySem.W.Frag
  cls : Nat → Addr
  fld : Nat → List Str
  fn : Nat → Addr
  ex : Nat → Addr
  /-- which text the j-th lambda may have -/
  lam : Nat → Str → Arguments → Expr → Scope → Prop
  /-- the tables of the makers' code objects -/
  T : List (Addr × Str)

/-- a list that nobody writes any more -/
def SqF (K : PySem.W.Frag) (H : Hp) (a : Addr) (xs : List V) : Prop :=
  (∃ o, H a = some (.frz o (.lst xs))) ∨
    ∃ (o : Obj) (its : Array Value) (n : Nat), K.lookup a = some o ∧ o.cls = .type "list" ∧ o.dict = none ∧ o.data = .seq its n ∧ its.size ≤ sizeLine ∧ Vals xs its.toList
theorem SqF.sq {K : PySem.W.Frag} {H : Hp} {a : Addr} {xs : List V} (h : SqF K H a xs) : SqL K H a xs := by
  rcases h with ⟨o, h⟩ | h
  · exact .inl (.inr ⟨o, h⟩)
  · exact .inr h

/-- a lambda that holds nothing -/
def LamO (q : Str) (params : Arguments) (body : Expr) (scope : Scope) (a c : Addr) : HO := .ext fun h => ∃ pm ctv : Value, h.get? a = some (PySem.W.kla_obj "<lambda>" q params body scope [] pm c ctv)

mutual
def Rep (W : Wd) (H : Hp) : D → V → Prop
  | .non, v => v = .non
  | .bl b, v => v = .bl b
  | .int i, v => v = .int i
  | .str l, v => v = .str ⟨⟨l⟩⟩
  | .lst ds, v => ∃ a vs, v = .ref a ∧ SqF W.K H a vs ∧ RepL W H ds vs
  | .tup ds, v => ∃ a vs, v = .ref a ∧ SqT W.K H a vs ∧ RepL W H ds vs
  | .ins c fs, v => ∃ a dx vs, v = .ref a ∧ H a = some (.ins (W.cls c) dx ((W.fld c).zip vs)) ∧ (W.fld c).length = vs.length ∧ RepL W H fs vs
  | .dic, v => ∃ a kvs, v = .ref a ∧ H a = some (.dK kvs)
  | .fn f, v => v = .ref (W.fn f)
  | .lam j, v => ∃ a c q params body scope, v = .ref a ∧ W.lam j q params body scope ∧ H a = some (LamO q params body scope a c) ∧ H c = some (CodeO c q)
def RepL (W : Wd) (H : Hp) : List D → List V → Prop
  | [], vs => vs = []
  | d :: ds, vs => ∃ v r, vs = v :: r ∧ Rep W H d v ∧ RepL W H ds r
end

/-- what stands and isn't changed by a write to a free list -/
structure FX (H H' : Hp) : Prop where
  frz : ∀ a o u, H a = some (.frz o u) → H' a = some (.frz o u)
  tup : ∀ a xs, H a = some (.tup xs) → H' a = some (.tup xs)
  ins : ∀ a c dx fs, H a = some (.ins c dx fs) → H' a = some (.ins c dx fs)
  dK : ∀ a kvs, H a = some (.dK kvs) → H' a = some (.dK kvs)
  ext : ∀ a φ, H a = some (.ext φ) → H' a = some (.ext φ)
theorem FX.refl (H : Hp) : FX H H := ⟨fun _ _ _ h => h, fun _ _ h => h, fun _ _ _ _ h => h, fun _ _ h => h, fun _ _ h => h⟩
theorem FX.trans {H H1 H2 : Hp} (a : FX H H1) (b : FX H1 H2) : FX H H2 :=
  ⟨fun c o u h => b.frz c o u (a.frz c o u h), fun c xs h => b.tup c xs (a.tup c xs h), fun c C dx fs h => b.ins c C dx fs (a.ins c C dx fs h), fun c kvs h => b.dK c kvs (a.dK c kvs h), fun c φ h => b.ext c φ (a.ext c φ h)⟩
/-- all stays, but that tables of code objects may grow -/
structure Same (W : Wd) (H H' : Hp) : Prop where
  keep : ∀ b o, H b = some o → (∀ ps, o ≠ .tbl ps) → H' b = some o
  tbl : ∀ b ps, H b = some (.tbl ps) → ∃ qs, H' b = some (.tbl qs)
  tab : Tabs W.T H → Tabs W.T H'
section
variable {W : Wd}
theorem Same.at {H H' : Hp} (s : Same W H H') (b : Addr) (o : HO) (h : H b = some o) (n : ∀ ps, o ≠ .tbl ps := by intro ps z; cases z) : H' b = some o := s.keep b o h n
theorem Same.of {H H' : Hp} (h : ∀ b o, H b = some o → H' b = some o) : Same W H H' := ⟨fun b o e _ => h b o e, fun b ps e => ⟨ps, h _ _ e⟩, fun t => t.ext h⟩
theorem Same.refl (H : Hp) : Same W H H := .of fun _ _ h => h
theorem Same.trans {H H1 H2 : Hp} (a : Same W H H1) (b : Same W H1 H2) : Same W H H2 :=
  ⟨fun c o h n => b.keep c o (a.keep c o h n) n, fun c ps h => let ⟨_, e⟩ := a.tbl c ps h; b.tbl c _ e, fun t => b.tab (a.tab t)⟩
theorem Same.free {H H' : Hp} (e : Same W H H') {l : Addr} (h : H' l = Option.none) : H l = Option.none := by
  cases q : H l with
  | none => rfl
  | some o =>
    by_cases z : ∃ ps, o = .tbl ps
    · obtain ⟨ps, rfl⟩ := z
      obtain ⟨qs, e2⟩ := e.tbl l ps q
      rw [h] at e2; cases e2
    · have := e.keep l o q fun ps e => z ⟨ps, e⟩
      rw [h] at this; cases this
theorem Same.seq {K : PySem.W.Frag} {H H' : Hp} {a : Addr} {xs : List V} (e : Same W H H') (h : SqL K H a xs) : SqL K H' a xs := by
  rcases h with (h | ⟨o, h⟩) | h
  · exact .inl (.inl (e.at _ _ h))
  · exact .inl (.inr ⟨o, e.at _ _ h⟩)
  · exact .inr h
theorem Tabs.same {H H' : Hp} (s : Same W H H') (t : Tabs W.T H) : Tabs W.T H' := s.tab t
/-- a new thing, or a list made another one: no table and no code object -/
theorem tab_upd {H : Hp} {a : Addr} {o : HO} {P : Addr} {q : Str} (t : TabS H P q) (h : H a = none ∨ ∃ xs, H a = some (.lst xs)) : TabS (upd H a o) P q := by
  obtain ⟨ps, h1, h2, h3⟩ := t
  have ne : ∀ b u, H b = some u → (∀ xs, u ≠ .lst xs) → b ≠ a := fun b u e n z => by
    subst z
    rcases h with h | ⟨xs, h⟩
    · rw [h] at e; cases e
    · rw [h] at e; cases e; exact n xs rfl
  refine ⟨ps, by rw [upd_ne (ne _ _ h1 (by intro xs z; cases z))]; exact h1, h2, fun pos cv hc => ?_⟩
  obtain ⟨c, e1, e2⟩ := h3 pos cv hc
  exact ⟨c, e1, by rw [upd_ne (ne _ _ e2 (by intro xs z; unfold CodeO at z; cases z))]; exact e2⟩
theorem Same.updN {H H1 : Hp} {a : Addr} {o : HO} (s : Same W H H1) (n : H a = none) (h : H1 a = none ∨ ∃ xs, H1 a = some (.lst xs)) : Same W H (upd H1 a o) :=
  ⟨fun b u e m => by rw [upd_ne (ne_of_none e n)]; exact s.keep b u e m, fun b ps e => by rw [upd_ne (ne_of_none e n)]; exact s.tbl b ps e, fun t p hp => tab_upd (s.tab t p hp) h⟩
theorem FX.of_same {H H' : Hp} (s : Same W H H') : FX H H' := ⟨fun a _ _ h => s.at a _ h, fun a _ h => s.at a _ h, fun a _ _ _ h => s.at a _ h, fun a _ h => s.at a _ h, fun a _ h => s.at a _ h⟩
theorem FX.upd {H : Hp} {a : Addr} {o : HO} {xs : List V} (h : H a = some (.lst xs)) : FX H (upd H a o) :=
  ⟨fun b _ _ e => by rw [upd_ne (ne_of e h (by intro z; cases z))]; exact e, fun b _ e => by rw [upd_ne (ne_of e h (by intro z; cases z))]; exact e, fun b _ _ _ e => by rw [upd_ne (ne_of e h (by intro z; cases z))]; exact e, fun b _ e => by rw [upd_ne (ne_of e h (by intro z; cases z))]; exact e, fun b _ e => by rw [upd_ne (ne_of e h (by intro z; cases z))]; exact e⟩
theorem same_new {H : Hp} {a : Addr} {o : HO} (h : H a = none) : Same W H (upd H a o) := .of fun b x e => by
  rw [upd_ne (ne_of_none e h)]
  exact e
end

theorem SqF.fx {K : PySem.W.Frag} {H H' : Hp} {a : Addr} {xs : List V} (x : FX H H') (h : SqF K H a xs) : SqF K H' a xs := by
  rcases h with ⟨o, h⟩ | h
  · exact .inl ⟨o, x.frz _ _ _ h⟩
  · exact .inr h
theorem SqT.fx {K : PySem.W.Frag} {H H' : Hp} {a : Addr} {xs : List V} (x : FX H H') (h : SqT K H a xs) : SqT K H' a xs := by
  rcases h with (h | ⟨o, h⟩) | h
  · exact .inl (.inl (x.tup _ _ h))
  · exact .inl (.inr ⟨o, x.frz _ _ _ h⟩)
  · exact .inr h

mutual
theorem Rep.fx {W : Wd} {H H' : Hp} (x : FX H H') : ∀ (d : D) (v : V), Rep W H d v → Rep W H' d v
  | .non, _, h => by simp only [Rep] at h ⊢; exact h
  | .bl _, _, h => by simp only [Rep] at h ⊢; exact h
  | .int _, _, h => by simp only [Rep] at h ⊢; exact h
  | .str _, _, h => by simp only [Rep] at h ⊢; exact h
  | .lst ds, _, h => by
    simp only [Rep] at h ⊢
    obtain ⟨a, vs, e, q, r⟩ := h
    exact ⟨a, vs, e, q.fx x, RepL.fx x ds vs r⟩
  | .tup ds, _, h => by
    simp only [Rep] at h ⊢
    obtain ⟨a, vs, e, q, r⟩ := h
    exact ⟨a, vs, e, SqT.fx x q, RepL.fx x ds vs r⟩
  | .ins c fs, _, h => by
    simp only [Rep] at h ⊢
    obtain ⟨a, dx, vs, e, q, l, r⟩ := h
    exact ⟨a, dx, vs, e, x.ins _ _ _ _ q, l, RepL.fx x fs vs r⟩
  | .dic, _, h => by
    simp only [Rep] at h ⊢
    obtain ⟨a, kvs, e, q⟩ := h
    exact ⟨a, kvs, e, x.dK _ _ q⟩
  | .fn _, _, h => by simp only [Rep] at h ⊢; exact h
  | .lam j, _, h => by
    simp only [Rep] at h ⊢
    obtain ⟨a, c, q, params, body, scope, e, w, h1, h2⟩ := h
    exact ⟨a, c, q, params, body, scope, e, w, x.ext _ _ h1, x.ext _ _ h2⟩
theorem RepL.fx {W : Wd} {H H' : Hp} (x : FX H H') : ∀ (ds : List D) (vs : List V), RepL W H ds vs → RepL W H' ds vs
  | [], _, h => by simp only [RepL] at h ⊢; exact h
  | d :: ds, _, h => by
    simp only [RepL] at h ⊢
    obtain ⟨v, r, e, q, t⟩ := h
    exact ⟨v, r, e, Rep.fx x d v q, RepL.fx x ds r t⟩
end
theorem RepL.length {W : Wd} {H : Hp} : ∀ {ds : List D} {vs : List V}, RepL W H ds vs → ds.length = vs.length
  | [], _, h => by simp only [RepL] at h; subst h; rfl
  | d :: ds, _, h => by
    simp only [RepL] at h
    obtain ⟨v, r, rfl, q, t⟩ := h
    simp [t.length]
theorem RepL.get {W : Wd} {H : Hp} : ∀ {ds : List D} {vs : List V} {i : Nat} {d : D}, RepL W H ds vs → ds[i]? = some d → ∃ v, vs[i]? = some v ∧ Rep W H d v
  | [], _, _, _, _, e => by simp at e
  | d :: ds, _, i, d', h, e => by
    simp only [RepL] at h
    obtain ⟨v, r, rfl, q, t⟩ := h
    cases i with
    | zero => simp at e; subst e; exact ⟨v, rfl, q⟩
    | succ i => simpa using t.get (i := i) (by simpa using e)
theorem RepL.get' {W : Wd} {H : Hp} : ∀ {ds : List D} {vs : List V} {i : Nat} {v : V}, RepL W H ds vs → vs[i]? = some v → ∃ d, ds[i]? = some d ∧ Rep W H d v
  | [], _, _, _, h, e => by simp only [RepL] at h; subst h; simp at e
  | d :: ds, _, i, v', h, e => by
    simp only [RepL] at h
    obtain ⟨v, r, rfl, q, t⟩ := h
    cases i with
    | zero => simp at e; subst e; exact ⟨d, rfl, q⟩
    | succ i => simpa using t.get' (i := i) (by simpa using e)
theorem RepL.append {W : Wd} {H : Hp} : ∀ {ds es : List D} {vs ws : List V}, RepL W H ds vs → RepL W H es ws → RepL W H (ds ++ es) (vs ++ ws)
  | [], _, _, _, h, g => by simp only [RepL] at h; subst h; exact g
  | d :: ds, es, _, ws, h, g => by
    simp only [RepL] at h
    obtain ⟨v, r, rfl, q, t⟩ := h
    show RepL W H (d :: (ds ++ es)) (v :: (r ++ ws))
    simp only [RepL]
    exact ⟨v, r ++ ws, rfl, q, t.append g⟩
theorem RepL.one {W : Wd} {H : Hp} {d : D} {v : V} (h : Rep W H d v) : RepL W H [d] [v] := by
  simp only [RepL]; exact ⟨v, [], rfl, h, rfl⟩
theorem RepL.nil {W : Wd} {H : Hp} : RepL W H [] [] := by simp only [RepL]
theorem RepL.cons {W : Wd} {H : Hp} {d : D} {v : V} {ds : List D} {vs : List V} (h : Rep W H d v) (t : RepL W H ds vs) : RepL W H (d :: ds) (v :: vs) := by
  simp only [RepL]; exact ⟨v, vs, rfl, h, t⟩
theorem RepL.drop {W : Wd} {H : Hp} : ∀ (n : Nat) {ds : List D} {vs : List V}, RepL W H ds vs → RepL W H (ds.drop n) (vs.drop n)
  | 0, _, _, h => h
  | n + 1, [], _, h => by simp only [RepL] at h; subst h; exact .nil
  | n + 1, d :: ds, _, h => by
    simp only [RepL] at h
    obtain ⟨v, r, rfl, q, t⟩ := h
    exact RepL.drop n t
theorem RepL.take {W : Wd} {H : Hp} : ∀ (n : Nat) {ds : List D} {vs : List V}, RepL W H ds vs → RepL W H (ds.take n) (vs.take n)
  | 0, _, _, h => .nil
  | n + 1, [], _, h => by simp only [RepL] at h; subst h; exact .nil
  | n + 1, d :: ds, _, h => by
    simp only [RepL] at h
    obtain ⟨v, r, rfl, q, t⟩ := h
    exact .cons q (RepL.take n t)
theorem RepL.set {W : Wd} {H : Hp} {d' : D} {v' : V} (g : Rep W H d' v') : ∀ (n : Nat) {ds : List D} {vs : List V}, RepL W H ds vs → RepL W H (ds.set n d') (vs.set n v')
  | _, [], _, h => by simp only [RepL] at h; subst h; exact .nil
  | 0, d :: ds, _, h => by
    simp only [RepL] at h
    obtain ⟨v, r, rfl, q, t⟩ := h
    exact .cons g t
  | n + 1, d :: ds, _, h => by
    simp only [RepL] at h
    obtain ⟨v, r, rfl, q, t⟩ := h
    exact .cons q (RepL.set g n t)
theorem RepL.reverse {W : Wd} {H : Hp} : ∀ {ds : List D} {vs : List V}, RepL W H ds vs → RepL W H ds.reverse vs.reverse
  | [], _, h => by simp only [RepL] at h; subst h; exact .nil
  | d :: ds, _, h => by
    simp only [RepL] at h
    obtain ⟨v, r, rfl, q, t⟩ := h
    rw [List.reverse_cons, List.reverse_cons]
    exact t.reverse.append (.one q)

/-! ### freezing a list (a step of the description alone) -/
section
variable {X : Cx} {pins : List (Addr × Obj)} {σ : L2.St} {H : Hp} {s : Shared}
theorem Inv.freeze {a : Addr} {xs : List V} (I : Inv X pins σ H s) (h : H a = some (.lst xs)) : ∃ o, Inv X pins σ (upd H a (.frz o (.lst xs))) s := by
  obtain ⟨z, its, n, r, e⟩ := I.hok a _ h
  refine ⟨{ cls := .type "list", data := .seq its.toArray n }, I.ok, I.os, I.bare, ?_, I.loc, I.cell, ?_, ?_, ?_, ?_, I.len⟩
  · refine ⟨I.base.keep, I.base.slot, fun b o q n hx => ?_, I.base.there, fun b ys q => ?_, fun b o u q => ?_, fun b ps q => ?_⟩
    · rw [upd_ne]
      · exact I.base.free b o q n hx
      · intro z; subst z; rw [I.base.free b o q n hx] at h; cases h
    · have q' := I.base.tups b ys q
      rw [upd_ne (ne_of q' h (by intro z; cases z))]; exact q'
    · have q' := I.base.frzs b o u q
      rw [upd_ne (ne_of q' h (by intro z; cases z))]; exact q'
    · obtain ⟨m, q'⟩ := I.base.tbls b ps q
      exact ⟨m, by rw [upd_ne (ne_of q' h (by intro z; cases z))]; exact q'⟩
  · rw [upd_ne]
    · exact I.free
    · intro z; have := I.free; rw [z, h] at this; cases this
  · intro x c q
    rw [upd_ne]
    · exact I.freeC x c q
    · intro z; have := I.freeC x c q; rw [z, h] at this; cases this
  · intro p hp
    obtain ⟨h1, h2, h3⟩ := I.pin p hp
    refine ⟨h1, ?_, h3⟩
    rw [upd_ne]
    · exact h2
    · intro z; rw [z, h] at h2; cases h2
  · intro b u q
    by_cases hb : b = a
    · subst hb
      rw [upd_same] at q; cases q
      exact ⟨e, z, its, n, r, e⟩
    · rw [upd_ne hb] at q
      refine (I.hok b u q).stay (fun _ _ _ w => w) (fun c w => ?_) fun c ys w => ?_
      · rw [upd_ne (ne_of w h (by intro z; cases z))]; exact w
      · rw [upd_ne (ne_of w h (by intro z; cases z))]; exact w
theorem PE.freeze {e : Expr} {t : TE} (he : PE X e t) : PE X e (fun σ H Q => t σ H fun v H1 => Q v H1 ∨ ∃ a xs, v = .ref a ∧ H1 a = some (.lst xs) ∧ ∀ o, Q v (upd H1 a (.frz o (.lst xs)))) := by
  refine ⟨fun pins s σ H Q I h => thn (he.run pins s σ H _ I h) fun u s1 ⟨v, H1, I1, r1, q1⟩ => ?_⟩
  rcases q1 with q | ⟨a, xs, rfl, h1, q⟩
  · exact ⟨v, H1, I1, r1, q⟩
  · obtain ⟨o, I2⟩ := Inv.freeze I1 h1
    exact ⟨_, _, I2, r1, q o⟩
theorem PE.mono {e : Expr} {t t' : TE} (he : PE X e t) (h : ∀ σ H Q, t' σ H Q → t σ H Q) : PE X e t' :=
  ⟨fun pins s σ H Q I w => he.run pins s σ H Q I (h σ H Q w)⟩
theorem PT.mono {e : Expr} {t t' : TT} (he : PT X e t) (h : ∀ σ H Q, t' σ H Q → t σ H Q) : PT X e t' :=
  ⟨fun pins s σ H Q I w => he.run pins s σ H Q I (h σ H Q w)⟩
theorem PW.mono {e : Expr} {t t' : TT} (he : PW X e t) (h : ∀ σ H Q, t' σ H Q → t σ H Q) : PW X e t' :=
  ⟨fun wh pins s σ H Q I w => he.run wh pins s σ H Q I (h σ H Q w)⟩
theorem PA.mono {e : List Expr} {t t' : TA} (he : PA X e t) (h : ∀ σ H Q, t' σ H Q → t σ H Q) : PA X e t' :=
  ⟨fun pos pins s σ H Q I w => he.run pos pins s σ H Q I (h σ H Q w)⟩
theorem PS.mono {e : Stmt} {t t' : TS} (he : PS X e t) (h : ∀ D σ H, t' D σ H → t D σ H) : PS X e t' :=
  ⟨fun pins s σ H D I w => he.run pins s σ H D I (h D σ H w)⟩
theorem PSs.mono {e : List Stmt} {t t' : TS} (he : PSs X e t) (h : ∀ D σ H, t' D σ H → t D σ H) : PSs X e t' :=
  ⟨fun pins s σ H D I w => he.run pins s σ H D I (h D σ H w)⟩
theorem PI.mono {tg e : Expr} {t t' : TI} (he : PI X tg e t) (h : ∀ σ H R, t' σ H R → t σ H R) : PI X tg e t' :=
  ⟨fun pins s σ H R I w => he.run pins s σ H R I (h σ H R w)⟩
end
end Mc
namespace Mc
open PySem PySem.Spec PyProof.Rows L2

/-! ### the small language -/
inductive Bop where | add | sub | mul | fdiv | mod | pow | shl | shr | and
  deriving DecidableEq
inductive Cop where | eq | ne | lt | le | gt | ge | isin | notin | is | isnot
  deriving DecidableEq
inductive Bi where | len | all | any | sum | abs | min | list | sorted
  deriving DecidableEq
inductive Mt where | join | count | strip | index
  deriving DecidableEq
inductive Ty where | int | bool | str | list | tuple | own (c : Nat)
  deriving DecidableEq
inductive Tg where | nm (i : Nat) | tp (is : List Nat)
  deriving DecidableEq
mutual
inductive E where
  | slot (i : Nat) | int (i : Int) | str (l : List Nat) | bl (b : Bool) | non
  | gint (x : Str) (i : Int)
  | bin (op : Bop) (a b : E) | neg (a : E)
  | cmp (op : Cop) (a b : E) | chain (o1 o2 : Cop) (a b c : E)
  | and (es : Es) | or (es : Es) | not (a : E)
  | ite (c a b : E)
  | lst (es : Es) | tup (es : Es)
  | sub (a i : E) | slice (a : E) (lo hi : Oe) | rev (a : E)
  | call (f : Nat) (es : Es) | bi (b : Bi) (es : Es) | meth (m : Mt) (a : E) (es : Es)
  | lc (elt : E) (tg : Tg) (src : Src) (cond : Oe)
  | isi (a : E) (t : Ty)
  | lset (a : E) | step (a lo : E) (k : Nat) | sortl (a : E)
  | new (c : Nat) (es : Es) | fld (a : E) (c i : Nat) | mcall (m : Str) (tb : List (Nat × Nat)) (a : E) (es : Es)
  | isic (a : E) (c : Nat) (tb : List (Nat × Bool)) | repl (s k a x y : Nat) | revs (a : E)
  | fnv (x : Str) (f : Nat) | callv (i : Nat) (tb : List Nat) (es : Es) | dict0
  | call0 (f : Nat) | lam (j : Nat) | calll (i : Nat) (tl : List Nat) (es : Es) | dict1 (k : List Nat) (i : Int) | rep (a k : E)
inductive Es where | nil | cons (e : E) (es : Es)
inductive Oe where | non | one (e : E)
inductive Src where | seq (e : E) | rng1 (a : E) | rng2 (a b : E) | rng3 (a b c : E) | enum (e : E) | zip (a b : E)
end

/-! ### its values -/
inductive Sl where | fz (d : D) | own (ds : List D) | vw (ds : List D)
inductive R where | val (d : D) | fresh (ds : List D) | vown (ds : List D) | vpar (ds : List D)
abbrev Env := List (Option Sl)
/-- what may be read of it -/
def R.data : R → D
  | .val d => d
  | .fresh ds => .lst ds
  | .vown ds => .lst ds
  | .vpar ds => .lst ds
/-- as a value that stays -/
def R.fz : R → Option D
  | .val d => some d
  | .fresh ds => some (.lst ds)
  | _ => none
def R.plain : R → Bool
  | .val _ => true
  | .fresh _ => true
  | _ => false
/-- as an argument -/
def R.arg : R → Sl
  | .val d => .fz d
  | .fresh ds => .fz (.lst ds)
  | .vown ds => .vw ds
  | .vpar ds => .vw ds

def LINE : Nat := 16777216
def Sl.isFz : Sl → Bool
  | .fz _ => true
  | _ => false

mutual
def toPy : D → PyData
  | .non => .none
  | .bl b => .bool b
  | .int i => .int i
  | .str l => .str ⟨⟨l⟩⟩
  | .lst ds => .list (toPyL ds)
  | .tup ds => .tuple (toPyL ds)
  | .ins _ _ => .dict []
  | .dic => .dict []
  | .fn _ => .dict []
  | .lam _ => .dict []
def toPyL : List D → List PyData
  | [] => []
  | d :: ds => toPy d :: toPyL ds
end
/-- data that may be compared -/
def eqable (d : D) : Bool := SeqAt.shaped (toPy d)
def eqD (a b : D) : Option Bool := match a, b with
  | .int i, .int j => some (decide (i = j))
  | .str x, .str y => some (decide (x = y))
  | .bl x, .bl y => some (decide (x = y))
  | a, b => if eqable a && eqable b then some (PyData.eqv (toPy a) (toPy b)) else none
def inD (x : D) : List D → Option Bool
  | [] => some false
  | y :: r => match eqD y x with
    | some true => some true
    | some false => inD x r
    | none => none
def bits (i : Int) : Nat := Builtin.Int.intBits i

def subList : List Nat → List Nat → Bool
  | _, [] => false
  | p, (c :: r) => p.isPrefixOf (c :: r) || subList p r

def binD (op : Bop) (a b : D) : Option R := match op, a, b with
  | .add, .int i, .int j => some (.val (.int (i + j)))
  | .add, .str x, .str y => if x.length + y.length ≤ LINE then some (.val (.str (x ++ y))) else none
  | .add, .lst x, .lst y => if x.length + y.length ≤ LINE then some (.fresh (x ++ y)) else none
  | .sub, .int i, .int j => some (.val (.int (i - j)))
  | .mul, .int i, .int j => if bits i + bits j ≤ 134217728 then some (.val (.int (i * j))) else none
  | .mul, .str x, .int j => if 0 ≤ j ∧ j ≤ 1000 ∧ x.length ≤ 1000 then some (.val (.str (List.replicate j.toNat x).flatten)) else none
  | .fdiv, .int i, .int j => if 0 < j ∧ j.natAbs.log2 < 9000 then some (.val (.int (i / j))) else none
  | .mod, .int i, .int j => if 0 < j then some (.val (.int (i % j))) else none
  | .pow, .int i, .int j => if 0 ≤ j ∧ j ≤ 1000000 ∧ i.natAbs < 2 ^ 64 then some (.val (.int (i ^ j.toNat))) else none
  | .shl, .int i, .int j => if 0 ≤ j ∧ (bits i : Int) + j ≤ 134217728 then some (.val (.int (i * 2 ^ j.toNat))) else none
  | .shr, .int i, .int j => if 0 ≤ j then some (.val (.int (i / 2 ^ j.toNat))) else none
  | .and, .int i, .int j => some (.val (.int (Builtin.bitAnd i j)))
  | _, _, _ => none

def isNon : D → Bool
  | .non => true
  | _ => false
def blsD : List D → Option (List Bool)
  | [] => some []
  | .bl b :: r => (blsD r).map (b :: ·)
  | _ :: _ => none
def intsD : List D → Option (List Int)
  | [] => some []
  | .int b :: r => (intsD r).map (b :: ·)
  | _ :: _ => none
def strsD : List D → Option (List (List Nat))
  | [] => some []
  | .str b :: r => (strsD r).map (b :: ·)
  | _ :: _ => none

def cmpD (op : Cop) (a b : D) : Option Bool := match op with
  | .eq => eqD a b
  | .ne => (eqD a b).map (!·)
  | .lt => match a, b with | .int i, .int j => some (decide (i < j)) | _, _ => none
  | .le => match a, b with | .int i, .int j => some (decide (i ≤ j)) | _, _ => none
  | .gt => match a, b with | .int i, .int j => some (decide (j < i)) | _, _ => none
  | .ge => match a, b with | .int i, .int j => some (decide (j ≤ i)) | _, _ => none
  | .isin => match b with
    | .lst ds => if eqable a && eqable (.lst ds) then some ((toPyL ds).any fun z => PyData.eqv z (toPy a)) else none
    | .str y => (match a with | .str [c] => some (decide (c ∈ y)) | _ => none)
    | .tup ds => (match a with | .int i => (intsD ds).map fun ns => decide (i ∈ ns) | _ => none)
    | _ => none
  | .notin => match b with
    | .lst ds => if eqable a && eqable (.lst ds) then some (!(toPyL ds).any fun z => PyData.eqv z (toPy a)) else none
    | _ => none
  | .is => match b with
    | .non => some (isNon a)
    | .bl y => (match a with | .bl x => some (decide (x = y)) | _ => none)
    | _ => none
  | .isnot => match b with
    | .non => some (!isNon a)
    | .bl y => (match a with | .bl x => some (!decide (x = y)) | _ => none)
    | _ => none

def subD (a i : D) : Option D := match a, i with
  | .lst ds, .int k => atI ds k
  | .tup ds, .int k => atI ds k
  | .str x, .int k => if x.length ≤ LINE then (atI x k).map fun c => .str [c] else none
  | _, _ => none
def cutL {α : Type} (xs : List α) (lo hi : Option Int) : List α := (xs.drop (HT.sIx xs.length 0 lo)).take (HT.sIx xs.length xs.length hi - HT.sIx xs.length 0 lo)

/-- numbers in order -/
def insI (x : Int) : List Int → List Int
  | [] => [x]
  | y :: r => if y < x then y :: insI x r else x :: y :: r
def sortI : List Int → List Int
  | [] => []
  | x :: r => insI x (sortI r)
/-- texts in order -/
def ltL : List Nat → List Nat → Bool
  | _, [] => false
  | [], _ :: _ => true
  | a :: r, b :: t => if a = b then ltL r t else decide (a < b)
def insS (x : List Nat) : List (List Nat) → List (List Nat)
  | [] => [x]
  | y :: r => if ltL y x then y :: insS x r else x :: y :: r
def sortS : List (List Nat) → List (List Nat)
  | [] => []
  | x :: r => insS x (sortS r)

def biD (b : Bi) (as : List D) : Option R := match b, as with
  | .len, [.lst ds] => some (.val (.int ds.length))
  | .len, [.tup ds] => some (.val (.int ds.length))
  | .len, [.str x] => if x.length ≤ LINE then some (.val (.int x.length)) else none
  | .all, [.lst ds] => (blsD ds).map fun bs => .val (.bl (bs.all id))
  | .any, [.lst ds] => (blsD ds).map fun bs => .val (.bl (bs.any id))
  | .sum, [.lst ds] => (intsD ds).map fun is => .val (.int is.sum)
  | .abs, [.int i] => some (.val (.int (if i < 0 then -i else i)))
  | .min, [.int i, .int j] => some (.val (.int (if j < i then j else i)))
  | .list, [.lst ds] => some (.fresh ds)
  | .list, [.tup ds] => some (.fresh ds)
  | .list, [.str x] => if x.length ≤ LINE then some (.fresh (x.map fun c => .str [c])) else none
  | .sorted, [.lst ds] => (match strsD ds with
    | some xs => some (.fresh ((sortS xs).map .str))
    | none => (match intsD ds with
      | some ns => if ns.length < 64 then some (.fresh ((sortI ns).map .int)) else none
      | none => none))
  | _, _ => none

def stripL (s : List Nat) (l : List Nat) : List Nat := (Txt.stripChars ⟨⟨l⟩⟩ ⟨⟨s⟩⟩).cps.toList
def findD (x : D) : List D → Nat → Option Nat
  | [], _ => none
  | y :: r, n => match eqD y x with
    | some true => some n
    | some false => findD x r (n + 1)
    | none => none

def mtD (m : Mt) (a : D) (as : List D) : Option R := match m, a, as with
  | .join, .str [], [.lst ds] => match strsD ds with
    | some xs => if xs.flatten.length ≤ LINE then some (.val (.str xs.flatten)) else none
    | none => none
  | .count, .str x, [.str [c]] => some (.val (.int (x.count c)))
  | .strip, .str x, [.str s] => if x.length ≤ LINE then some (.val (.str (stripL s x))) else none
  | .index, .lst ds, [x] => if eqable x && eqable (.lst ds) then (findD x ds 0).map fun (n : Nat) => R.val (.int (n : Int)) else none
  | _, _, _ => none

def isiD (t : Ty) (d : D) : Option Bool := match t, d with
  | .own _, .ins _ _ => none
  | _, .fn _ => none
  | _, .lam _ => none
  | .int, .int _ => some true
  | .int, .bl _ => some true
  | .bool, .bl _ => some true
  | .str, .str _ => some true
  | .list, .lst _ => some true
  | .tuple, .tup _ => some true
  | .own _, _ => none
  | _, .ins _ _ => none
  | _, _ => some false

def setE (env : Env) (i : Nat) (s : Sl) : Env := env.set i (some s)
def setAll : Env → List Nat → List D → Option Env
  | env, [], [] => some env
  | env, i :: is, d :: ds => setAll (setE env i (.fz d)) is ds
  | _, _, _ => none
def bindT (t : Tg) (d : D) (env : Env) : Option Env := match t, d with
  | .nm i, d => some (setE env i (.fz d))
  | .tp is, .tup ds => setAll env is ds
  | _, _ => none
def Tg.slots : Tg → List Nat
  | .nm i => [i]
  | .tp is => is
def wipeE (env : Env) : List Nat → Env
  | [] => env
  | v :: vs => (wipeE env vs).set v none

def seqD : D → Option (List D)
  | .lst ds => some ds
  | .tup ds => some ds
  | .str x => some (x.map fun c => .str [c])
  | _ => none
def rangeD (lo : Int) (n : Nat) (c : Int) : List D := (List.range n).map fun (i : Nat) => D.int (lo + (i : Int) * c)
def enumD (k : Int) : List D → List D
  | [] => []
  | d :: r => .tup [.int k, d] :: enumD (k + 1) r
def zipD : List D → List D → List D
  | a :: r, b :: t => .tup [a, b] :: zipD r t
  | _, _ => []
def small62 (i : Int) : Bool := decide (-4611686018427387904 ≤ i) && decide (i < 4611686018427387904)

/-- a comprehension's turns -/
def lcLoop (bind : D → Option Env) (cond : Env → Option Bool) (elt : Env → Option D) : List D → List D → Option (List D)
  | [], acc => some acc
  | x :: r, acc => match bind x with
    | none => none
    | some env => match cond env with
      | none => none
      | some false => lcLoop bind cond elt r acc
      | some true => match elt env with
        | none => none
        | some y => if acc.length < LINE then lcLoop bind cond elt r (acc ++ [y]) else none

/-- without those that stood ahead -/
def ddl : List (List Nat) → List (List Nat) → List (List Nat)
  | acc, [] => acc
  | acc, x :: r => ddl (if acc.contains x then acc else acc ++ [x]) r
def stepL {α : Type} (k : Nat) : Nat → List α → List α
  | 0, _ => []
  | _ + 1, [] => []
  | n + 1, x :: r => x :: stepL k n (r.drop (k - 1))
/-- by length, those of one length in their order -/
def lenD : D → Option Nat
  | .lst ds => some ds.length
  | _ => none
def lensD : List D → Option (List (Nat × D))
  | [] => some []
  | d :: r => match lenD d with
    | some n => (lensD r).map ((n, d) :: ·)
    | none => none
def insL (x : Nat × D) : List (Nat × D) → List (Nat × D)
  | [] => [x]
  | y :: r => if x.1 ≤ y.1 then x :: y :: r else y :: insL x r
def sortL : List (Nat × D) → List (Nat × D)
  | [] => []
  | x :: r => insL x (sortL r)
/-- the first x of a text is made y -/
def repl1 (x y : Nat) : List Nat → List Nat
  | [] => []
  | c :: r => if c = x then y :: r else c :: repl1 x y r

def Gm := Nat → Option (List Sl → Option R)

mutual
def ev (G : Gm) : E → Env → Option R
  | .slot i, env => match env[i]? with
    | some (some (.fz d)) => some (.val d)
    | some (some (.own ds)) => some (.vown ds)
    | some (some (.vw ds)) => some (.vpar ds)
    | _ => none
  | .int i, _ => some (.val (.int i))
  | .str l, _ => some (.val (.str l))
  | .bl b, _ => some (.val (.bl b))
  | .non, _ => some (.val .non)
  | .gint _ i, _ => some (.val (.int i))
  | .bin op a b, env => match ev G a env with
    | some x => match ev G b env with
      | some y => binD op x.data y.data
      | none => none
    | none => none
  | .neg a, env => match ev G a env with
    | some (.val (.int i)) => some (.val (.int (-i)))
    | _ => none
  | .cmp op a b, env => match ev G a env with
    | some x => match ev G b env with
      | some y => (cmpD op x.data y.data).map fun k => .val (.bl k)
      | none => none
    | none => none
  | .chain o1 o2 a b c, env => match ev G a env with
    | some x => match ev G b env with
      | some y => match cmpD o1 x.data y.data with
        | some false => some (.val (.bl false))
        | some true => match ev G c env with
          | some z => (cmpD o2 y.data z.data).map fun k => .val (.bl k)
          | none => none
        | none => none
      | none => none
    | none => none
  | .and es, env => evAnd G es env
  | .or es, env => evOr G es env
  | .not a, env => match ev G a env with
    | some (.val (.bl b)) => some (.val (.bl (!b)))
    | _ => none
  | .ite c a b, env => match ev G c env with
    | some (.val (.bl true)) => ev G a env
    | some (.val (.bl false)) => ev G b env
    | _ => none
  | .lst es, env => match evV G es env with
    | some ds => if ds.length ≤ LINE then some (.fresh ds) else none
    | none => none
  | .tup es, env => match evV G es env with
    | some ds => if ds.length ≤ LINE then some (.val (.tup ds)) else none
    | none => none
  | .sub a i, env => match ev G a env with
    | some x => match ev G i env with
      | some y => (subD x.data y.data).map .val
      | none => none
    | none => none
  | .slice a lo hi, env => match ev G a env with
    | some x => match evO G lo env with
      | some l => match evO G hi env with
        | some h => match x.data with
          | .lst ds => some (.fresh (cutL ds l h))
          | _ => none
        | none => none
      | none => none
    | none => none
  | .rev a, env => match ev G a env with
    | some x => match x.data with
      | .lst ds => some (.fresh ds.reverse)
      | _ => none
    | none => none
  | .call f es, env => match evA G es env with
    | some as => match G f with
      | some sem => (match sem as with
        | some r => if r.plain then some r else none
        | none => none)
      | none => none
    | none => none
  | .bi b es, env => match evD G es env with
    | some as => biD b as
    | none => none
  | .meth m a es, env => match ev G a env with
    | some x => match evD G es env with
      | some as => mtD m x.data as
      | none => none
    | none => none
  | .lc elt tg src cond, env => match evS G src env with
    | some items => (lcLoop (fun d => bindT tg d (wipeE env tg.slots)) (evC G cond) (fun e => (ev G elt e).bind R.fz) items []).map .fresh
    | none => none
  | .isi a t, env => match ev G a env with
    | some x => (isiD t x.data).map fun k => .val (.bl k)
    | none => none
  | .lset a, env => match ev G a env with
    | some x => (match x.data with
      | .lst ds => (match strsD ds with
        | some xs => if xs.length ≤ 4000 then some (.val (.int ((ddl [] xs).length : Nat))) else none
        | none => none)
      | _ => none)
    | none => none
  | .step a lo k, env => match ev G a env with
    | some x => match ev G lo env with
      | some (.val (.int i)) => (match x.data with
        | .lst ds => if 0 ≤ i then some (.fresh (stepL k ds.length (ds.drop i.toNat))) else none
        | _ => none)
      | _ => none
    | none => none
  | .sortl a, env => match ev G a env with
    | some x => (match x.data with
      | .lst ds => (match lensD ds with
        | some xs => if xs.length ≤ 4000 then some (.fresh ((sortL xs).map (·.2))) else none
        | none => none)
      | _ => none)
    | none => none
  | .new c es, env => match evV G es env with
    | some ds => some (.val (.ins c ds))
    | none => none
  | .fld a c i, env => match ev G a env with
    | some (.val (.ins c' fs)) => if c' = c then (fs[i]?).map .val else none
    | _ => none
  | .mcall _ tb a es, env => match ev G a env with
    | some (.val (.ins c fs)) => match evA G es env with
      | some as => (match tb.lookup c with
        | some f => (match G f with
          | some sem => (match sem (.fz (.ins c fs) :: as) with
            | some r => if r.plain then some r else none
            | none => none)
          | none => none)
        | none => none)
      | none => none
    | _ => none
  | .isic a _ tb, env => match ev G a env with
    | some (.val (.ins c _)) => (tb.lookup c).map fun k => .val (.bl k)
    | _ => none
  | .repl s k a x y, env => match env[s]?, env[a]? with
    | some (some (.fz (.int i))), some (some (.fz (.str l))) => if l.length ≤ 1000 then some (.val (.str (if i < (k : Int) then repl1 x y l else l))) else none
    | _, _ => none
  | .revs a, env => match ev G a env with
    | some (.val (.str l)) => if l.length ≤ LINE then some (.val (.str l.reverse)) else none
    | _ => none
  | .fnv _ f, _ => some (.val (.fn f))
  | .callv i tb es, env => match env[i]? with
    | some (some (.fz (.fn f))) => if f ∈ tb then (match evA G es env with
      | some as => match G f with
        | some sem => (match sem as with
          | some r => if r.plain then some r else none
          | none => none)
        | none => none
      | none => none) else none
    | _ => none
  | .dict0, _ => some (.val .dic)
  | .call0 f, _ => (match G f with
    | some sem => (match sem [] with
      | some r => if r.plain then some r else none
      | none => none)
    | none => none)
  | .lam j, _ => some (.val (.lam j))
  | .calll i tl es, env => match env[i]? with
    | some (some (.fz (.lam f))) => if f ∈ tl then (match evA G es env with
      | some as => match G f with
        | some sem => (match sem as with
          | some r => if r.plain then some r else none
          | none => none)
        | none => none
      | none => none) else none
    | _ => none
  | .dict1 _ _, _ => some (.val .dic)
  | .rep a k, env => match ev G a env with
    | some (.fresh ds) => (match ev G k env with
      | some (.val (.int j)) => if 0 ≤ j ∧ j ≤ 1000 ∧ ds.length ≤ 1000 then some (.fresh (List.replicate j.toNat ds).flatten) else none
      | _ => none)
    | _ => none
/-- values that stay -/
def evV (G : Gm) : Es → Env → Option (List D)
  | .nil, _ => some []
  | .cons e es, env => match (ev G e env).bind R.fz with
    | some d => match evV G es env with
      | some ds => some (d :: ds)
      | none => none
    | none => none
/-- what is read of several -/
def evD (G : Gm) : Es → Env → Option (List D)
  | .nil, _ => some []
  | .cons e es, env => match ev G e env with
    | some d => match evD G es env with
      | some ds => some (d.data :: ds)
      | none => none
    | none => none
/-- arguments of a def -/
def evA (G : Gm) : Es → Env → Option (List Sl)
  | .nil, _ => some []
  | .cons e es, env => match ev G e env with
    | some d => match evA G es env with
      | some ds => some (d.arg :: ds)
      | none => none
    | none => none
def evAnd (G : Gm) : Es → Env → Option R
  | .nil, _ => some (.val (.bl true))
  | .cons e es, env => match ev G e env with
    | some (.val (.bl false)) => some (.val (.bl false))
    | some (.val (.bl true)) => evAnd G es env
    | _ => none
def evOr (G : Gm) : Es → Env → Option R
  | .nil, _ => some (.val (.bl false))
  | .cons e es, env => match ev G e env with
    | some (.val (.bl true)) => some (.val (.bl true))
    | some (.val (.bl false)) => evOr G es env
    | _ => none
def evO (G : Gm) : Oe → Env → Option (Option Int)
  | .non, _ => some none
  | .one e, env => match ev G e env with
    | some (.val (.int i)) => some (some i)
    | _ => none
def evC (G : Gm) : Oe → Env → Option Bool
  | .non, _ => some true
  | .one e, env => match ev G e env with
    | some (.val (.bl b)) => some b
    | _ => none
def evS (G : Gm) : Src → Env → Option (List D)
  | .seq e, env => match ev G e env with
    | some x => seqD x.data
    | none => none
  | .rng1 a, env => match ev G a env with
    | some (.val (.int j)) => if small62 j then some (rangeD 0 j.toNat 1) else none
    | _ => none
  | .rng2 a b, env => match ev G a env with
    | some (.val (.int i)) => match ev G b env with
      | some (.val (.int j)) => if small62 i && small62 j then some (rangeD i (j - i).toNat 1) else none
      | _ => none
    | _ => none
  | .rng3 a b c, env => match ev G a env with
    | some (.val (.int i)) => match ev G b env with
      | some (.val (.int j)) => match ev G c env with
        | some (.val (.int k)) => if decide (k ≠ 0) && decide (k.natAbs < 1073741824) && Builtin.Range.small i j k && decide (0 ≤ Builtin.Range.rangeSize i j k) then some (rangeD i (Builtin.Range.rangeSize i j k).toNat k) else none
        | _ => none
      | _ => none
    | _ => none
  | .enum e, env => match ev G e env with
    | some x => (match x.data with | .lst ds => some (enumD 0 ds) | .str l => some (enumD 0 (l.map fun c => .str [c])) | _ => none)
    | none => none
  | .zip a b, env => match ev G a env with
    | some x => match ev G b env with
      | some y => (match x.data, y.data with | .lst ds, .lst es => some (zipD ds es) | _, _ => none)
      | none => none
    | none => none
end

/-! ### statements -/
mutual
inductive S where
  | asg (i : Nat) (m : Bool) (e : E)
  | par (is : List Nat) (ms : List Bool) (es : Es)
  | unp (is : List Nat) (e : E)
  | aug (i : Nat) (op : Bop) (e : E)
  | app (i : Nat) (e : E)
  | pop (i : Nat)
  | seti (i : Nat) (k e : E)
  | ex (e : E)
  | ife (c : E) (a b : Ss)
  | for (tg : Tg) (src : Src) (b : Ss)
  | while (fuel : Nat) (c : E) (b : Ss)
  | ret (e : E)
  | stop
  | rais (c : Nat) (x : Str)
  | rvs (i : Nat)
  | mcal (f i : Nat) (es : Es)
  | mcalE (f : Nat) (e : E)
inductive Ss where | nil | cons (s : S) (ss : Ss) | frz (i : Nat) (ss : Ss)
end
inductive Out where | next (env : Env) | ret (r : R)

def freeze (i : Nat) (env : Env) : Env := match env[i]? with
  | some (some (.own ds)) => setE env i (.fz (.lst ds))
  | _ => env
/-- a value into a slot: m: it will be changed in place -/
def put (i : Nat) (m : Bool) (r : R) (env : Env) : Option Env := match r with
  | .val d => some (setE env i (.fz d))
  | .fresh ds => some (setE env i (if m then .own ds else .fz (.lst ds)))
  | _ => none
def R.asSl (m : Bool) : R → Option Sl
  | .val d => some (.fz d)
  | .fresh ds => some (if m then .own ds else .fz (.lst ds))
  | _ => none
def setSls : List Nat → List Sl → Env → Option Env
  | [], [], env => some env
  | i :: is, s :: ss, env => setSls is ss (setE env i s)
  | _, _, _ => none
def evM (G : Gm) : Es → List Bool → Env → Option (List Sl)
  | .nil, [], _ => some []
  | .cons e es, m :: ms, env => match (ev G e env).bind (R.asSl m) with
    | some r => match evM G es ms env with
      | some rs => some (r :: rs)
      | none => none
    | none => none
  | _, _, _ => none

def forLoop (bind : D → Env → Option Env) (body : Env → Option Out) : List D → Env → Option Out
  | [], env => some (.next env)
  | x :: r, env => match bind x env with
    | none => none
    | some env1 => match body env1 with
      | some (.next env2) => forLoop bind body r env2
      | some (.ret v) => some (.ret v)
      | none => none
def whileLoop (cond : Env → Option R) (body : Env → Option Out) : Nat → Env → Option Out
  | 0, _ => none
  | n + 1, env => match cond env with
    | some (.val (.bl false)) => some (.next env)
    | some (.val (.bl true)) => (match body env with
      | some (.next env2) => whileLoop cond body n env2
      | some (.ret v) => some (.ret v)
      | none => none)
    | _ => none
/-- the sources of a for: not of a list that may be changed -/
def srcFix (G : Gm) : Src → Env → Bool
  | .seq e, env => match ev G e env with | some (.vown _) => false | _ => true
  | .enum e, env => match ev G e env with | some (.vown _) => false | _ => true
  | .zip a b, env => (match ev G a env with | some (.vown _) => false | _ => true) && (match ev G b env with | some (.vown _) => false | _ => true)
  | _, _ => true

mutual
def exec (G : Gm) : S → Env → Option Out
  | .asg i m e, env => match ev G e env with
    | some r => (put i m r env).map .next
    | none => none
  | .par is ms es, env => match evM G es ms env with
    | some rs => (setSls is rs env).map .next
    | none => none
  | .unp is e, env => match ev G e env with
    | some (.val (.tup ds)) => (setAll env is ds).map .next
    | _ => none
  | .aug i op e, env => match env[i]? with
    | some (some (.fz (.int x))) => match ev G e env with
      | some (.val (.int y)) => (match op with
        | .add => some (.next (setE env i (.fz (.int (x + y)))))
        | .sub => some (.next (setE env i (.fz (.int (x - y)))))
        | _ => none)
      | _ => none
    | _ => none
  | .app i e, env => match env[i]? with
    | some (some (.own ds)) => match (ev G e env).bind R.fz with
      | some d => if ds.length < LINE then some (.next (setE env i (.own (ds ++ [d])))) else none
      | none => none
    | _ => none
  | .pop i, env => match env[i]? with
    | some (some (.own ds)) => if ds.isEmpty then none else some (.next (setE env i (.own ds.dropLast)))
    | _ => none
  | .seti i k e, env => match env[i]? with
    | some (some (.own ds)) => match (ev G e env).bind R.fz with
      | some d => match ev G k env with
        | some (.val (.int z)) => (match ixN ds.length z with
          | some j => some (.next (setE env i (.own (ds.set j d))))
          | none => none)
        | _ => none
      | none => none
    | _ => none
  | .ex e, env => match ev G e env with
    | some _ => some (.next env)
    | none => none
  | .ife c a b, env => match ev G c env with
    | some (.val (.bl true)) => execs G a env
    | some (.val (.bl false)) => execs G b env
    | _ => none
  | .for tg src b, env => if srcFix G src env then (match evS G src env with
      | some items => forLoop (bindT tg) (execs G b) items env
      | none => none) else none
  | .while n c b, env => whileLoop (ev G c) (execs G b) n env
  | .ret e, env => match ev G e env with
    | some (.val d) => some (.ret (.val d))
    | some (.fresh ds) => some (.ret (.fresh ds))
    | some (.vown ds) => some (.ret (.fresh ds))
    | _ => none
  | .stop, _ => none
  | .rais _ _, _ => none
  | .rvs i, env => match env[i]? with
    | some (some (.own ds)) => some (.next (setE env i (.own ds.reverse)))
    | _ => none
  | .mcal f i es, env => match env[i]? with
    | some (some (.own ds)) => (match evA G es env with
      | some as => if as.all Sl.isFz then (match G f with
        | some sem => (match sem (.vw ds :: as) with
          | some (.fresh ds') => some (.next (setE env i (.own ds')))
          | _ => none)
        | none => none) else none
      | none => none)
    | _ => none
  | .mcalE f e, env => match ev G e env with
    | some (.fresh ds) => (match G f with
      | some sem => (match sem [.vw ds] with
        | some (.fresh _) => some (.next env)
        | _ => none)
      | none => none)
    | _ => none
def execs (G : Gm) : Ss → Env → Option Out
  | .nil, env => some (.next env)
  | .cons s ss, env => match exec G s env with
    | some (.next env') => execs G ss env'
    | some (.ret v) => some (.ret v)
    | none => none
  | .frz i ss, env => execs G ss (freeze i env)
end
/-- a def: its number of parameters, of slots, its body -/
def run (G : Gm) (ar n : Nat) (body : Ss) (as : List Sl) : Option R :=
  if as.length = ar then (match execs G body (as.map some ++ List.replicate (n - as.length) none) with
  | some (.ret r) => some r
  | some (.next _) => some (.val .non)
  | none => none) else none
end Mc
namespace Mc
open PySem PySem.Spec PyProof.Rows L2

/-! ### how the values stand in the heap -/
/-- what may be read: a list may be one that is still changed -/
def RepT (W : Wd) (H : Hp) : D → V → Prop
  | .lst ds, v => ∃ a vs, v = .ref a ∧ SqL W.K H a vs ∧ RepL W H ds vs
  | d, v => Rep W H d v
theorem Rep.t {W : Wd} {H : Hp} {d : D} {v : V} (h : Rep W H d v) : RepT W H d v := by
  cases d with
  | lst ds =>
    simp only [Rep] at h
    obtain ⟨a, vs, e, q, r⟩ := h
    exact ⟨a, vs, e, q.sq, r⟩
  | _ => exact h
theorem SqL.same {W : Wd} {K : PySem.W.Frag} {H H' : Hp} {a : Addr} {xs : List V} (s : Same W H H') (h : SqL K H a xs) : SqL K H' a xs := Same.seq s h
theorem RepT.mono {W : Wd} {H H' : Hp} (s : Same W H H') {d : D} {v : V} (h : RepT W H d v) : RepT W H' d v := by
  cases d with
  | lst ds =>
    obtain ⟨a, vs, e, q, r⟩ := h
    exact ⟨a, vs, e, SqL.same s q, RepL.fx (.of_same s) _ _ r⟩
  | non => exact Rep.fx (.of_same s) _ _ h
  | bl b => exact Rep.fx (.of_same s) _ _ h
  | int b => exact Rep.fx (.of_same s) _ _ h
  | str b => exact Rep.fx (.of_same s) _ _ h
  | tup b => exact Rep.fx (.of_same s) _ _ h
  | ins b c => exact Rep.fx (.of_same s) _ _ h
  | dic => exact Rep.fx (.of_same s) _ _ h
  | fn b => exact Rep.fx (.of_same s) _ _ h
  | lam b => exact Rep.fx (.of_same s) _ _ h

def SlotR (W : Wd) (Hin H : Hp) : Sl → V → Prop
  | .fz d, v => Rep W H d v
  | .own ds, v => ∃ a vs, v = .ref a ∧ Hin a = none ∧ H a = some (.lst vs) ∧ RepL W H ds vs
  | .vw ds, v => ∃ a vs, v = .ref a ∧ Hin a = some (.lst vs) ∧ RepL W Hin ds vs
def RelR (W : Wd) (Hin H H' : Hp) (v : V) : R → Prop
  | .val d => Rep W H' d v
  | .fresh ds => ∃ a vs, v = .ref a ∧ H a = none ∧ H' a = some (.lst vs) ∧ RepL W H' ds vs
  | .vown ds => ∃ a vs, v = .ref a ∧ Hin a = none ∧ H' a = some (.lst vs) ∧ RepL W H' ds vs
  | .vpar ds => ∃ a vs, v = .ref a ∧ Hin a = some (.lst vs) ∧ RepL W Hin ds vs
structure StR (W : Wd) (Hin H : Hp) (σ : L2.St) (env : Env) : Prop where
  same : Same W Hin H
  rel : ∀ (i : Nat) (s : Sl), env[i]? = some (some s) → ∃ v, σ[i]? = some (some v) ∧ SlotR W Hin H s v
  dis : ∀ (i j : Nat) (ds es : List D) (a : Addr), i ≠ j → env[i]? = some (some (.own ds)) → env[j]? = some (some (.own es)) → σ[i]? = some (some (.ref a)) → σ[j]? = some (some (.ref a)) → False
  len : env.length = σ.length
  tab : LamX.Tabs W.T H

theorem SlotR.mono {W : Wd} {Hin H H' : Hp} (s : Same W H H') {sl : Sl} {v : V} (h : SlotR W Hin H sl v) : SlotR W Hin H' sl v := by
  cases sl with
  | fz d => exact Rep.fx (.of_same s) _ _ h
  | own ds => obtain ⟨a, vs, e, n, q, r⟩ := h; exact ⟨a, vs, e, n, s.at _ _ q, RepL.fx (.of_same s) _ _ r⟩
  | vw ds => exact h
theorem StR.mono {W : Wd} {Hin H H' : Hp} {σ : L2.St} {env : Env} (s : Same W H H') (h : StR W Hin H σ env) : StR W Hin H' σ env :=
  ⟨h.same.trans s, fun i sl e => let ⟨v, q, r⟩ := h.rel i sl e; ⟨v, q, r.mono s⟩, h.dis, h.len, Tabs.same s h.tab⟩
theorem RelR.mono {W : Wd} {Hin H H' H'' : Hp} (s : Same W H' H'') {v : V} {r : R} (h : RelR W Hin H H' v r) : RelR W Hin H H'' v r := by
  cases r with
  | val d => exact Rep.fx (.of_same s) _ _ h
  | fresh ds => obtain ⟨a, vs, e, n, q, r⟩ := h; exact ⟨a, vs, e, n, s.at _ _ q, RepL.fx (.of_same s) _ _ r⟩
  | vown ds => obtain ⟨a, vs, e, n, q, r⟩ := h; exact ⟨a, vs, e, n, s.at _ _ q, RepL.fx (.of_same s) _ _ r⟩
  | vpar ds => exact h
theorem RelR.pre {W : Wd} {Hin H0 H H' : Hp} (s : Same W H0 H) {v : V} {r : R} (h : RelR W Hin H H' v r) : RelR W Hin H0 H' v r := by
  cases r with
  | val d => exact h
  | fresh ds => obtain ⟨a, vs, e, n, q, r⟩ := h; exact ⟨a, vs, e, s.free n, q, r⟩
  | vown ds => exact h
  | vpar ds => exact h
theorem RelR.t {W : Wd} {Hin H H' : Hp} (s : Same W Hin H') {v : V} {r : R} (h : RelR W Hin H H' v r) : RepT W H' r.data v := by
  cases r with
  | val d => exact Rep.t h
  | fresh ds => obtain ⟨a, vs, e, n, q, r⟩ := h; exact ⟨a, vs, e, .of q, r⟩
  | vown ds => obtain ⟨a, vs, e, n, q, r⟩ := h; exact ⟨a, vs, e, .of q, r⟩
  | vpar ds => obtain ⟨a, vs, e, q, r⟩ := h; exact ⟨a, vs, e, .of (s.at _ _ q), RepL.fx (.of_same s) _ _ r⟩

/-- what an expression of the small language promises -/
def tE (W : Wd) (Hin : Hp) (f : Env → Option R) : TE := fun σ H Q => ∃ env r, StR W Hin H σ env ∧ f env = some r ∧ ∀ v H', Same W H H' → RelR W Hin H H' v r → Q v H'
def tT (W : Wd) (Hin : Hp) (f : Env → Option R) : TT := fun σ H Q => ∃ env b, StR W Hin H σ env ∧ f env = some (.val (.bl b)) ∧ ∀ H', Same W H H' → Q b H'

section
variable {W : Wd} {Hin H : Hp} {σ : L2.St} {env : Env}
theorem tE_of {f : Env → Option R} {r : R} {Q : VK} (s : StR W Hin H σ env) (e : f env = some r) (h : ∀ v H', Same W H H' → RelR W Hin H H' v r → Q v H') : tE W Hin f σ H Q := ⟨env, r, s, e, h⟩
theorem tE_2 {f g : Env → Option R} {x y : R} {Q : V → V → Hp → Prop} (s : StR W Hin H σ env) (e : f env = some x) (e2 : g env = some y)
    (h : ∀ v w H', Same W H H' → RelR W Hin H H' v x → RelR W Hin H H' w y → Q v w H') : tE W Hin f σ H fun v H1 => tE W Hin g σ H1 fun w H2 => Q v w H2 :=
  tE_of s e fun v H1 s1 r1 => tE_of (s.mono s1) e2 fun w H2 s2 r2 => h v w H2 (s1.trans s2) (r1.mono s2) (r2.pre s1)
end

theorem LINE_eq : LINE = sizeLine := by rw [sizeLine_eq]; rfl

/-! ### reading values -/
section
variable {W : Wd} {H : Hp} {v : V}
theorem RepT.int {i : Int} (h : RepT W H (.int i) v) : v = .int i := by simpa [RepT, Rep] using h
theorem RepT.bl {i : Bool} (h : RepT W H (.bl i) v) : v = .bl i := by simpa [RepT, Rep] using h
theorem RepT.str {i : List Nat} (h : RepT W H (.str i) v) : v = .str ⟨⟨i⟩⟩ := by simpa [RepT, Rep] using h
theorem RepT.non (h : RepT W H .non v) : v = .non := by simpa [RepT, Rep] using h
theorem RepT.tup {ds : List D} (h : RepT W H (.tup ds) v) : ∃ a vs, v = .ref a ∧ SqT W.K H a vs ∧ RepL W H ds vs := by simpa [RepT, Rep] using h
theorem rep_int {i : Int} : Rep W H (.int i) (.int i) := by simp [Rep]
theorem rep_bl {i : Bool} : Rep W H (.bl i) (.bl i) := by simp [Rep]
theorem rep_str {i : List Nat} : Rep W H (.str i) (.str ⟨⟨i⟩⟩) := by simp [Rep]
theorem rep_non : Rep W H .non .non := by simp [Rep]
end

/-! ### binary operators -/
section
variable {X : Cx}
theorem list_add_any (l : Addr) (items : Array Value) (n : Nat) (sl : Array (Option Value)) (b : Addr) (items2 : Array Value) (n2 : Nat) (sl2 : Array (Option Value)) (hc0 : items.size + items2.size ≤ sizeLine) :
    Meets (Builtin.«list.__add__» ⟨[.ref l, .ref b], []⟩) (fun _ R s => s.heap.get? l = some { cls := .type "list", dict := none, data := .seq items n, slots := sl } ∧ s.heap.get? b = some { cls := .type "list", dict := none, data := .seq items2 n2, slots := sl2 } ∧ R (.ok (.ret (Value.ref s.heap.objs.size))) { s with heap := s.heap.push { cls := Value.type "list", data := Data.seq (items ++ items2) }, toks := s.toks }) :=
  .of_wp fun prog w A R s h => by
    obtain ⟨hp, g, d, tk, os⟩ := s; obtain ⟨hl, hb, h⟩ := h
    have f1 := AutoSeq1.idx_int; have f2 := AutoSeq1.sub_tuple_tuple; have f3 := AutoSeq1.sub_list_list; have f4 := AutoSeq1.sub_tuple_list; have f5 := AutoSeq1.sub_list_tuple
    wp_walk using AutoSeq1.wpAny_loadPart' hl, AutoSeq1.wpAny_loadPart' hb
    exact ⟨_, rfl, h⟩
theorem op_catL : OpR X (binaryOp .Add) (fun x y H Q => ∃ l b xs zs, x = .ref l ∧ y = .ref b ∧ SqL X.K H l xs ∧ SqL X.K H b zs ∧ xs.length + zs.length ≤ sizeLine ∧ ∀ p, H p = none → Q (.ref p) (upd H p (.lst (xs ++ zs)))) := by
  intro pins s σ H x y v u Q I rx ry h
  obtain ⟨l, b, xs, zs, rfl, rfl, hH, hB, hz, q⟩ := h
  cases rx
  cases ry
  obtain ⟨its, r, ⟨o1, n1, e1, c1, d1, t1⟩, z⟩ := I.list hH
  obtain ⟨its2, r2, ⟨o2, n2, e2, c2, d2, t2⟩, z2⟩ := I.list hB
  obtain ⟨cc1, dd1, tt1, ss1⟩ := o1
  obtain ⟨cc2, dd2, tt2, ss2⟩ := o2
  dsimp only at c1 d1 t1 c2 d2 t2
  subst c1 d1 t1 c2 d2 t2
  have hl := r.length
  have hl2 := r2.length
  have hc : its.toArray.size + its2.toArray.size ≤ sizeLine := by rw [List.size_toArray, List.size_toArray]; omega
  refine concat_meets ⟨_, e1, rfl⟩ ⟨_, e2, rfl⟩ noFill_list_add seq_list_add F.slot_list_add F.entry_list_add (F.args_list_add_2 _ _) (list_add_any l its.toArray n1 ss1 b its2.toArray n2 ss2 hc) ⟨e1, e2, ?_⟩
  have ea : its.toArray ++ its2.toArray = (its ++ its2).toArray := by simp
  show EP X pins σ Q _ _
  rw [ea]
  exact ⟨.ref _, _, I.lnew (t' := s.toks) (r.append r2) (by rw [List.length_append]; omega), rfl, q _ I.fresh⟩

theorem fold_arr (l : List Nat) : ∀ (n : Nat) (acc : List Nat), (List.replicate n (⟨l⟩ : Array Nat)).foldl (· ++ ·) ⟨acc⟩ = ⟨acc ++ (List.replicate n l).flatten⟩
  | 0, acc => by simp
  | n + 1, acc => by
    have e : (⟨acc⟩ : Array Nat) ++ (⟨l⟩ : Array Nat) = ⟨acc ++ l⟩ := by simp
    rw [List.replicate_succ, List.foldl_cons, e, fold_arr l n (acc ++ l), List.replicate_succ, List.flatten_cons, List.append_assoc]
theorem op_mulS : OpR X (binaryOp .Mult) (fun x y H Q => ∃ (l : List Nat) (j : Int), x = .str ⟨⟨l⟩⟩ ∧ y = .int j ∧ 0 ≤ j ∧ j ≤ 1000 ∧ l.length ≤ 1000 ∧ Q (.str ⟨⟨(List.replicate j.toNat l).flatten⟩⟩) H) := by
  intro pins s σ H x y v u Q I rx ry h
  obtain ⟨l, j, rfl, rfl, h0, h1, h2, q⟩ := h
  obtain ⟨t, rfl⟩ := rx
  obtain ⟨t', rfl⟩ := ry
  have hz : (⟨⟨l⟩⟩ : Str).length = l.length := rfl
  have hm : l.length * j.toNat ≤ 1000 * 1000 := Nat.mul_le_mul h2 (by omega)
  have hs : sizeLine = 16777216 := by rw [sizeLine_eq]
  have hlen : (List.replicate j.toNat l).flatten.length = j.toNat * l.length := by
    rw [List.length_flatten, List.map_replicate, List.sum_replicate_nat]
  have big : ∀ n : Int, 1 < n → n ≤ 1000 → ¬ ((l.length : Int) > (2 ^ 63 - 1) / n) := fun n a b c => by
    have e1 : (9223372036854775807 : Int) / 1000 ≤ (2 ^ 63 - 1) / n := Int.le_ediv_of_mul_le (by omega) (by omega)
    omega
  refine P.mul_str (by simp; omega) (fun a b => ?_) (fun a b => ?_) ?_
  · have : j ≠ 1 := by
      intro z; subst z; simp at b
    rw [hz]; exact big j (by omega) h1
  · unfold Builtin.Str.tooLong
    rw [hz, hs]
    simp; omega
  · split
    · rename_i hj
      have e : j.toNat = 0 := by omega
      rw [e] at q
      exact ⟨by decide, .str ⟨⟨[]⟩⟩, H, I.tok _, ⟨_, rfl⟩, q⟩
    · split
      · rename_i hj
        have e : (List.replicate j.toNat l).flatten = l := by
          rw [hz, Bool.or_eq_true] at hj
          rcases hj with hj | hj
          · have : j = 1 := by simpa using hj
            subst this; simp
          · have : l = [] := by simpa using hj
            subst this
            rw [List.flatten_eq_nil_iff]
            intro a ha
            exact (List.mem_replicate.mp ha).2
        rw [e] at q
        exact ⟨.str ⟨⟨l⟩⟩, H, I, ⟨_, rfl⟩, q⟩
      · have e := fold_arr l j.toNat []
        rw [List.nil_append] at e
        have e2 : (⟨(List.replicate j.toNat (⟨⟨l⟩⟩ : Str).cps).foldl (· ++ ·) #[]⟩ : Str) = ⟨⟨(List.replicate j.toNat l).flatten⟩⟩ := congrArg Str.mk e
        rw [e2]
        refine ⟨?_, .str ⟨⟨(List.replicate j.toNat l).flatten⟩⟩, H, I.tok _, ⟨_, rfl⟩, q⟩
        show (List.replicate j.toNat l).flatten.length ≤ sizeLine
        rw [hlen, hs, Nat.mul_comm]; omega
def Bop.py : Bop → Operator
  | .add => .Add | .sub => .Sub | .mul => .Mult | .fdiv => .FloorDiv | .mod => .Mod | .pow => .Pow | .shl => .LShift | .shr => .RShift | .and => .BitAnd
def rB (W : Wd) (Hin : Hp) (op : Bop) : R2 := fun x y H Q => ∃ d e r, RepT W H d x ∧ RepT W H e y ∧ binD op d e = some r ∧ ∀ v H', Same W H H' → RelR W Hin H H' v r → Q v H'
theorem ofval {W : Wd} {Hin H : Hp} {Q : VK} {v : V} {d : D} (h : ∀ v H', Same W H H' → RelR W Hin H H' v (.val d) → Q v H') (r : Rep W H d v) : Q v H := h v H (.refl H) r
theorem offresh {W : Wd} {Hin H : Hp} {Q : VK} {ds : List D} {vs : List V} (h : ∀ v H', Same W H H' → RelR W Hin H H' v (.fresh ds) → Q v H') (r : RepL W H ds vs) : ∀ p, H p = none → Q (.ref p) (upd H p (.lst vs)) :=
  fun p hp => h _ _ (same_new hp) ⟨p, vs, rfl, hp, upd_same, RepL.fx (.of_same (same_new (W := W) hp)) _ _ r⟩
theorem op_bin {W : Wd} (hK : X.K = W.K) (Hin : Hp) (op : Bop) : OpR X (binaryOp op.py) (rB W Hin op) := by
  intro pins s σ H x y v u Q I rx ry h
  obtain ⟨d, e, r, rd, re, hb, q⟩ := h
  unfold binD at hb
  split at hb
  · cases hb
    exact op_add pins s σ H x y v u Q I rx ry ⟨_, _, rd.int, re.int, ofval q rep_int⟩
  · split at hb
    · rename_i hl
      cases hb
      refine op_add_str pins s σ H x y v u Q I rx ry ⟨_, _, rd.str, re.str, ?_, ?_⟩
      · rw [LINE_eq] at hl; exact hl
      · have e1 : ∀ a b : List Nat, ((⟨⟨a⟩⟩ : Str) ++ (⟨⟨b⟩⟩ : Str)) = ⟨⟨a ++ b⟩⟩ := fun a b => by
          show Str.mk _ = _
          congr 1
          simp
        rw [e1]
        exact ofval q rep_str
    · cases hb
  · split at hb
    · rename_i hl
      cases hb
      obtain ⟨a, vs, rfl, h1, r1⟩ := rd
      obtain ⟨b, ws, rfl, h2, r2⟩ := re
      refine op_catL pins s σ H _ _ v u Q I rx ry ⟨a, b, vs, ws, rfl, rfl, by rw [hK]; exact h1, by rw [hK]; exact h2, ?_, offresh q (r1.append r2)⟩
      rw [← r1.length, ← r2.length, ← LINE_eq]; exact hl
    · cases hb
  · cases hb
    exact op_sub pins s σ H x y v u Q I rx ry ⟨_, _, rd.int, re.int, ofval q rep_int⟩
  · split at hb
    · rename_i hl
      cases hb
      refine op_mulX pins s σ H x y v u Q I rx ry ⟨_, _, rd.int, re.int, ?_, ofval q rep_int⟩
      unfold CMulX
      unfold bits at hl
      omega
    · cases hb
  · split at hb
    · rename_i hl
      cases hb
      exact op_mulS pins s σ H x y v u Q I rx ry ⟨_, _, rd.str, re.int, hl.1, hl.2.1, hl.2.2, ofval q rep_str⟩
    · cases hb
  · split at hb
    · rename_i hl
      cases hb
      exact op_fdivW pins s σ H x y v u Q I rx ry ⟨_, _, rd.int, re.int, hl, ofval q rep_int⟩
    · cases hb
  · split at hb
    · rename_i hl
      cases hb
      exact op_mod pins s σ H x y v u Q I rx ry ⟨_, _, rd.int, re.int, hl, ofval q rep_int⟩
    · cases hb
  · split at hb
    · rename_i hl
      cases hb
      exact op_pow pins s σ H x y v u Q I rx ry ⟨_, _, rd.int, re.int, hl, ofval q rep_int⟩
    · cases hb
  · split at hb
    · rename_i hl
      cases hb
      refine op_shlW pins s σ H x y v u Q I rx ry ⟨_, _, rd.int, re.int, ⟨hl.1, ?_⟩, ofval q rep_int⟩
      have := hl.2
      unfold bits at this
      have e : (2 : Int) ^ 27 = 134217728 := by decide
      rw [e]; exact this
    · cases hb
  · split at hb
    · rename_i hl
      cases hb
      exact op_shr pins s σ H x y v u Q I rx ry ⟨_, _, rd.int, re.int, hl, ofval q rep_int⟩
    · cases hb
  · cases hb
    exact op_and pins s σ H x y v u Q I rx ry ⟨_, _, rd.int, re.int, ofval q rep_int⟩
  · cases hb
end
end Mc
namespace Mc
open PySem PySem.Spec PyProof.Rows L2

mutual
theorem dp_of {W : Wd} {H : Hp} : ∀ (d : D) (v : V), Rep W H d v → (toPy d).canLay0 = true → Dp W.K H v (toPy d)
  | .non, v, h, _ => by simp only [Rep] at h; subst h; exact .non
  | .bl b, v, h, _ => by simp only [Rep] at h; subst h; exact .bl b
  | .int b, v, h, _ => by simp only [Rep] at h; subst h; exact .int b
  | .str b, v, h, _ => by simp only [Rep] at h; subst h; exact .str _
  | .lst ds, v, h, c => by
    simp only [Rep] at h
    obtain ⟨a, vs, rfl, q, r⟩ := h
    exact .lst q.sq (dpl_of ds vs r (by simpa [toPy, PyData.canLay0] using c))
  | .tup ds, v, h, c => by
    simp only [Rep] at h
    obtain ⟨a, vs, rfl, q, r⟩ := h
    exact .tup q (dpl_of ds vs r (by simpa [toPy, PyData.canLay0] using c))
  | .ins _ _, _, _, c => by simp [toPy, PyData.canLay0] at c
  | .dic, _, _, c => by simp [toPy, PyData.canLay0] at c
  | .fn _, _, _, c => by simp [toPy, PyData.canLay0] at c
  | .lam _, _, _, c => by simp [toPy, PyData.canLay0] at c
theorem dpl_of {W : Wd} {H : Hp} : ∀ (ds : List D) (vs : List V), RepL W H ds vs → PyData.canLayAll0 (toPyL ds) = true → DpAll W.K H vs (toPyL ds)
  | [], _, h, _ => by simp only [RepL] at h; subst h; exact .nil
  | d :: ds, _, h, c => by
    simp only [RepL] at h
    obtain ⟨v, r, rfl, q, t⟩ := h
    simp only [toPyL, PyData.canLayAll0, Bool.and_eq_true] at c
    exact .cons (dp_of d v q c.1) (dpl_of ds r t c.2)
end
theorem dpT_of {W : Wd} {H : Hp} {d : D} {v : V} (h : RepT W H d v) (c : eqable d = true) : Dp W.K H v (toPy d) := by
  have c := SeqAt.canLay_of_shaped c
  cases d with
  | lst ds =>
    obtain ⟨a, vs, rfl, q, r⟩ := h
    exact .lst q (dpl_of ds vs r (by simpa [toPy, PyData.canLay0] using c))
  | _ => exact dp_of _ _ h c

section
variable {X : Cx}
def Cop.py : Cop → CmpOp
  | .eq => .Eq | .ne => .NotEq | .lt => .Lt | .le => .LtE | .gt => .Gt | .ge => .GtE | .isin => .In | .notin => .NotIn | .is => .Is | .isnot => .IsNot
def rC (W : Wd) (op : Cop) : R2 := fun x y H Q => ∃ d e k, RepT W H d x ∧ RepT W H e y ∧ cmpD op d e = some k ∧ Q (.bl k) H
theorem str_inj {a b : List Nat} : (V.str ⟨⟨a⟩⟩ = V.str ⟨⟨b⟩⟩) ↔ a = b := ⟨fun h => by injection h with h; injection h with h; injection h, fun h => by rw [h]⟩
theorem op_eqM {W : Wd} (hK : X.K = W.K) (hu : X.A.units + 65 < cLine) : OpR X (compareOp .Eq) (rC W .eq) := by
  intro pins s σ H x y v u Q I rx ry h
  obtain ⟨d, e, k, rd, re, hc, q⟩ := h
  have hc : eqD d e = some k := hc
  unfold eqD at hc
  split at hc
  · cases hc
    refine op_eq pins s σ H x y v u Q I rx ry ?_
    rw [rd.int, re.int]
    refine ⟨rfl, ?_⟩
    rw [show decide (V.int _ = V.int _) = decide (_ = _) from decide_eq_decide.mpr ⟨fun h => by injection h, fun h => by rw [h]⟩]
    exact q
  · cases hc
    refine op_eq pins s σ H x y v u Q I rx ry ?_
    rw [rd.str, re.str]
    refine ⟨rfl, ?_⟩
    rw [show decide (V.str _ = V.str _) = decide (_ = _) from decide_eq_decide.mpr str_inj]
    exact q
  · cases hc
    refine op_eq pins s σ H x y v u Q I rx ry ?_
    rw [rd.bl, re.bl]
    refine ⟨rfl, ?_⟩
    rw [show decide (V.bl _ = V.bl _) = decide (_ = _) from decide_eq_decide.mpr ⟨fun h => by injection h, fun h => by rw [h]⟩]
    exact q
  · split at hc
    · rename_i hh
      cases hc
      rw [Bool.and_eq_true] at hh
      refine op_eqD (by omega) pins s σ H x y v u Q I rx ry ⟨_, _, ?_, ?_, hh.1, hh.2, q⟩
      · rw [hK]; exact dpT_of rd hh.1
      · rw [hK]; exact dpT_of re hh.2
    · cases hc
theorem op_neM {W : Wd} (hK : X.K = W.K) (hu : X.A.units + 65 < cLine) : OpR X (compareOp .NotEq) (rC W .ne) := by
  intro pins s σ H x y v u Q I rx ry h
  obtain ⟨d, e, k, rd, re, hc, q⟩ := h
  have hc : (eqD d e).map (!·) = some k := hc
  unfold eqD at hc
  split at hc
  · cases hc
    refine op_ne pins s σ H x y v u Q I rx ry ?_
    rw [rd.int, re.int]
    refine ⟨rfl, ?_⟩
    rw [show decide (V.int _ = V.int _) = decide (_ = _) from decide_eq_decide.mpr ⟨fun h => by injection h, fun h => by rw [h]⟩]
    exact q
  · cases hc
    refine op_ne pins s σ H x y v u Q I rx ry ?_
    rw [rd.str, re.str]
    refine ⟨rfl, ?_⟩
    rw [show decide (V.str _ = V.str _) = decide (_ = _) from decide_eq_decide.mpr str_inj]
    exact q
  · cases hc
    refine op_ne pins s σ H x y v u Q I rx ry ?_
    rw [rd.bl, re.bl]
    refine ⟨rfl, ?_⟩
    rw [show decide (V.bl _ = V.bl _) = decide (_ = _) from decide_eq_decide.mpr ⟨fun h => by injection h, fun h => by rw [h]⟩]
    exact q
  · split at hc
    · rename_i hh
      cases hc
      rw [Bool.and_eq_true] at hh
      refine op_neD (by omega) pins s σ H x y v u Q I rx ry ⟨_, _, ?_, ?_, hh.1, hh.2, q⟩
      · rw [hK]; exact dpT_of rd hh.1
      · rw [hK]; exact dpT_of re hh.2
    · cases hc
theorem non_iff {W : Wd} {H : Hp} {d : D} {x : V} (h : RepT W H d x) : decide (x = V.non) = isNon d := by
  cases d with
  | non => rw [h.non]; rfl
  | bl b => rw [h.bl]; rfl
  | int b => rw [h.int]; rfl
  | str b => rw [h.str]; rfl
  | lst ds => obtain ⟨a, vs, rfl, _⟩ := h; rfl
  | tup ds => obtain ⟨a, vs, rfl, _⟩ := h.tup; rfl
  | ins c fs =>
    have h : Rep W H (.ins c fs) x := h
    simp only [Rep] at h
    obtain ⟨a, dx, vs, rfl, _⟩ := h; rfl
  | dic =>
    have h : Rep W H .dic x := h
    simp only [Rep] at h
    obtain ⟨a, kvs, rfl, _⟩ := h; rfl
  | fn f =>
    have h : Rep W H (.fn f) x := h
    simp only [Rep] at h
    subst h; rfl
  | lam f =>
    have h : Rep W H (.lam f) x := h
    simp only [Rep] at h
    obtain ⟨a, c, q, params, body, scope, rfl, _⟩ := h; rfl
theorem rep_ints {W : Wd} {H : Hp} : ∀ {ds : List D} {vs : List V} {bs : List Int}, RepL W H ds vs → intsD ds = some bs → vs = bs.map V.int
  | [], vs, bs, h, e => by simp only [RepL] at h; subst h; cases e; rfl
  | d :: ds, _, bs, h, e => by
    simp only [RepL] at h
    obtain ⟨v, r, rfl, q, t⟩ := h
    cases d <;> simp only [intsD] at e <;> try (cases e; done)
    obtain ⟨b', e1, rfl⟩ := Option.map_eq_some_iff.mp e
    simp only [Rep] at q
    subst q
    rw [rep_ints t e1]; rfl
theorem inV_ints (i : Int) : ∀ ns : List Int, inV (.int i) (ns.map V.int) = decide (i ∈ ns)
  | [] => by simp [inV]
  | n :: r => by
    have ih := inV_ints i r
    unfold inV at ih ⊢
    rw [List.map_cons, List.any_cons, ih]
    by_cases h : n = i
    · subst h; simp [eqV]
    · have h2 : ¬ i = n := fun z => h z.symm
      simp [eqV, h, h2]
theorem flat_ints : ∀ ns : List Int, (ns.map V.int).all flatV = true
  | [] => rfl
  | n :: r => by rw [List.map_cons, List.all_cons, flat_ints r]; rfl
theorem op_cmp {W : Wd} (hK : X.K = W.K) (hu : X.A.units + 65 < cLine) (op : Cop) : OpR X (compareOp op.py) (rC W op) := by
  cases op with
  | eq => exact op_eqM hK hu
  | ne => exact op_neM hK hu
  | lt =>
    intro pins s σ H x y v u Q I rx ry h
    obtain ⟨d, e, k, rd, re, hc, q⟩ := h
    unfold cmpD at hc
    dsimp only at hc
    split at hc
    · cases hc; exact op_lt pins s σ H x y v u Q I rx ry ⟨_, _, rd.int, re.int, q⟩
    · cases hc
  | le =>
    intro pins s σ H x y v u Q I rx ry h
    obtain ⟨d, e, k, rd, re, hc, q⟩ := h
    unfold cmpD at hc
    dsimp only at hc
    split at hc
    · cases hc; exact op_le pins s σ H x y v u Q I rx ry ⟨_, _, rd.int, re.int, q⟩
    · cases hc
  | gt =>
    intro pins s σ H x y v u Q I rx ry h
    obtain ⟨d, e, k, rd, re, hc, q⟩ := h
    unfold cmpD at hc
    dsimp only at hc
    split at hc
    · cases hc; exact op_gt pins s σ H x y v u Q I rx ry ⟨_, _, rd.int, re.int, q⟩
    · cases hc
  | ge =>
    intro pins s σ H x y v u Q I rx ry h
    obtain ⟨d, e, k, rd, re, hc, q⟩ := h
    unfold cmpD at hc
    dsimp only at hc
    split at hc
    · cases hc; exact op_ge pins s σ H x y v u Q I rx ry ⟨_, _, rd.int, re.int, q⟩
    · cases hc
  | isin =>
    intro pins s σ H x y v u Q I rx ry h
    obtain ⟨d, e, k, rd, re, hc, q⟩ := h
    unfold cmpD at hc
    dsimp only at hc
    split at hc
    · split at hc
      · rename_i hh
        cases hc
        rw [Bool.and_eq_true] at hh
        refine op_inD hu pins s σ H x y v u Q I rx ry ⟨_, _, ?_, ?_, hh.1, hh.2, q⟩
        · rw [hK]; exact dpT_of rd hh.1
        · rw [hK]; exact dpT_of re hh.2
      · cases hc
    · split at hc
      · cases hc
        exact op_in_sign pins s σ H x y v u Q I rx ry ⟨_, _, rd.str, re.str, q⟩
      · cases hc
    · split at hc
      · obtain ⟨ns, e1, rfl⟩ := Option.map_eq_some_iff.mp hc
        obtain ⟨a, vs, rfl, h1, h2⟩ := re.tup
        have e2 := rep_ints h2 e1
        subst e2
        rw [← inV_ints] at q
        rw [rd.int] at rx
        exact op_in_seq pins s σ H _ _ v u Q I rx ry ⟨a, _, rfl, .inr (by rw [hK]; exact h1), rfl, flat_ints _, q⟩
      · cases hc
    · cases hc
  | notin =>
    intro pins s σ H x y v u Q I rx ry h
    obtain ⟨d, e, k, rd, re, hc, q⟩ := h
    unfold cmpD at hc
    dsimp only at hc
    split at hc
    · split at hc
      · rename_i hh
        cases hc
        rw [Bool.and_eq_true] at hh
        refine op_notInD hu pins s σ H x y v u Q I rx ry ⟨_, _, ?_, ?_, hh.1, hh.2, q⟩
        · rw [hK]; exact dpT_of rd hh.1
        · rw [hK]; exact dpT_of re hh.2
      · cases hc
    · cases hc
  | is =>
    intro pins s σ H x y v u Q I rx ry h
    obtain ⟨d, e, k, rd, re, hc, q⟩ := h
    unfold cmpD at hc
    dsimp only at hc
    split at hc
    · cases hc
      refine op_isN pins s σ H x y v u Q I rx ry ⟨re.non, ?_⟩
      rw [non_iff rd]; exact q
    · split at hc
      · cases hc
        exact op_isBl pins s σ H x y v u Q I rx ry ⟨_, _, rd.bl, re.bl, q⟩
      · cases hc
    · cases hc
  | isnot =>
    intro pins s σ H x y v u Q I rx ry h
    obtain ⟨d, e, k, rd, re, hc, q⟩ := h
    unfold cmpD at hc
    dsimp only at hc
    split at hc
    · cases hc
      refine op_notN pins s σ H x y v u Q I rx ry ⟨re.non, ?_⟩
      rw [non_iff rd]; exact q
    · split at hc
      · cases hc
        exact op_notBl pins s σ H x y v u Q I rx ry ⟨_, _, rd.bl, re.bl, q⟩
      · cases hc
    · cases hc

/-! ### subscripts and slices -/
theorem ixN_len {n m : Nat} (h : n = m) (i : Int) : ixN n i = ixN m i := by rw [h]
theorem RepL.atI {W : Wd} {H : Hp} {ds : List D} {vs : List V} (r : RepL W H ds vs) {i : Int} {d : D} (h : L2.atI ds i = some d) : ∃ v, L2.atI vs i = some v ∧ Rep W H d v := by
  unfold L2.atI at h ⊢
  rw [← r.length]
  cases e : ixN ds.length i with
  | none => rw [e] at h; cases h
  | some j =>
    rw [e] at h
    exact r.get h
def rS (W : Wd) : R2 := fun x y H Q => ∃ d e r, RepT W H d x ∧ RepT W H e y ∧ subD d e = some r ∧ ∀ v, Rep W H r v → Q v H
theorem ix_sub {W : Wd} (hK : X.K = W.K) : IxR X (rS W) := by
  intro value slice pins s σ H x y v u Q I rx ry h hs
  obtain ⟨d, e, r, rd, re, hb, q⟩ := h
  unfold subD at hb
  split at hb
  · obtain ⟨a, vs, rfl, h1, r1⟩ := rd
    obtain ⟨w, h2, r2⟩ := r1.atI hb
    exact ix_list value slice pins s σ H _ y v u Q I rx ry ⟨a, vs, _, w, rfl, re.int, by rw [hK]; exact h1, h2, q w r2⟩ hs
  · obtain ⟨a, vs, rfl, h1, r1⟩ := rd.tup
    obtain ⟨w, h2, r2⟩ := r1.atI hb
    exact ix_tup value slice pins s σ H _ y v u Q I rx ry ⟨a, vs, _, w, rfl, re.int, by rw [hK]; exact h1, h2, q w r2⟩ hs
  · split at hb
    · rename_i hl
      obtain ⟨c, h1, rfl⟩ := Option.map_eq_some_iff.mp hb
      rw [LINE_eq] at hl
      exact ix_str value slice pins s σ H x y v u Q I rx ry ⟨_, _, c, rd.str, re.int, hl, h1, q _ rep_str⟩ hs
    · cases hb
  · cases hb
def rCut (W : Wd) (Hin : Hp) : V → Option Int → Option Int → Hp → VK → Prop := fun x lo hi H Q => ∃ ds, RepT W H (.lst ds) x ∧ ∀ v H', Same W H H' → RelR W Hin H H' v (.fresh (cutL ds lo hi)) → Q v H'
theorem cut_rep {W : Wd} {H : Hp} {ds : List D} {vs : List V} (r : RepL W H ds vs) (lo hi : Option Int) : RepL W H (cutL ds lo hi) (cutV vs lo hi) := by
  unfold cutL cutV
  rw [r.length]
  exact (r.drop _).take _
theorem sl_cut {W : Wd} (hK : X.K = W.K) (Hin : Hp) : SlR X (rCut W Hin) := by
  intro pins s σ H x v vl vu lo hi sl Q I rx hs pl pu q
  obtain ⟨ds, ⟨a, vs, rfl, h1, r1⟩, q⟩ := q
  exact sl_list pins s σ H _ v vl vu lo hi sl Q I rx hs pl pu ⟨a, vs, rfl, by rw [hK]; exact h1, offresh q (cut_rep r1 lo hi)⟩

/-! ### built-in functions -/
theorem rep_bls {W : Wd} {H : Hp} : ∀ {ds : List D} {vs : List V} {bs : List Bool}, RepL W H ds vs → blsD ds = some bs → vs = bs.map V.bl
  | [], vs, bs, h, e => by simp only [RepL] at h; subst h; cases e; rfl
  | d :: ds, _, bs, h, e => by
    simp only [RepL] at h
    obtain ⟨v, r, rfl, q, t⟩ := h
    cases d <;> simp only [blsD] at e <;> try (cases e; done)
    obtain ⟨b', e1, rfl⟩ := Option.map_eq_some_iff.mp e
    simp only [Rep] at q
    subst q
    rw [rep_bls t e1]; rfl
theorem rep_strs {W : Wd} {H : Hp} : ∀ {ds : List D} {vs : List V} {bs : List (List Nat)}, RepL W H ds vs → strsD ds = some bs → vs = (bs.map fun l => (⟨⟨l⟩⟩ : Str)).map V.str
  | [], vs, bs, h, e => by simp only [RepL] at h; subst h; cases e; rfl
  | d :: ds, _, bs, h, e => by
    simp only [RepL] at h
    obtain ⟨v, r, rfl, q, t⟩ := h
    cases d <;> simp only [strsD] at e <;> try (cases e; done)
    obtain ⟨b', e1, rfl⟩ := Option.map_eq_some_iff.mp e
    simp only [Rep] at q
    subst q
    rw [rep_strs t e1]; rfl
theorem repl_strs {W : Wd} {H : Hp} : ∀ (bs : List (List Nat)), RepL W H (bs.map D.str) ((bs.map fun l => (⟨⟨l⟩⟩ : Str)).map V.str)
  | [] => .nil
  | b :: r => .cons rep_str (repl_strs r)

theorem repl_ints {W : Wd} {H : Hp} : ∀ (bs : List Int), RepL W H (bs.map D.int) (bs.map V.int)
  | [] => .nil
  | b :: r => .cons rep_int (repl_ints r)
inductive RepTL (W : Wd) (H : Hp) : List D → List V → Prop where
  | nil : RepTL W H [] []
  | cons {d : D} {v : V} {ds : List D} {vs : List V} : RepT W H d v → RepTL W H ds vs → RepTL W H (d :: ds) (v :: vs)
theorem RepTL.mono {W : Wd} {H H' : Hp} (s : Same W H H') : ∀ {ds : List D} {vs : List V}, RepTL W H ds vs → RepTL W H' ds vs
  | _, _, .nil => .nil
  | _, _, .cons r t => .cons (r.mono s) (t.mono s)
theorem RepTL.one {W : Wd} {H : Hp} {d : D} {vs : List V} (h : RepTL W H [d] vs) : ∃ v, vs = [v] ∧ RepT W H d v := by
  cases h with | cons r t => cases t; exact ⟨_, rfl, r⟩
theorem RepTL.two {W : Wd} {H : Hp} {d e : D} {vs : List V} (h : RepTL W H [d, e] vs) : ∃ v w, vs = [v, w] ∧ RepT W H d v ∧ RepT W H e w := by
  cases h with | cons r t => obtain ⟨w, rfl, q⟩ := t.one; exact ⟨_, _, rfl, r, q⟩
def rBi (W : Wd) (Hin : Hp) (b : Bi) : List V → Hp → VK → Prop := fun vs H Q => ∃ ds r, RepTL W H ds vs ∧ biD b ds = some r ∧ ∀ v H', Same W H H' → RelR W Hin H H' v r → Q v H'
theorem cr_lenM {W : Wd} (hK : X.K = W.K) (Hin : Hp) : CallR X (.builtin "len") (rBi W Hin .len) := by
  intro pins s σ H xs us Q I r h
  obtain ⟨ds, res, rl, hb, q⟩ := h
  unfold biD at hb
  split at hb <;> try (cases hb; done)
  all_goals try contradiction
  · cases hb
    obtain ⟨v, rfl, a, vs, rfl, h1, r1⟩ := rl.one
    refine call_len pins s σ H _ us Q I r ⟨_, _, rfl, .inl ⟨vs, by rw [hK]; exact h1, rfl⟩, ?_⟩
    rw [← r1.length]; exact ofval q rep_int
  · cases hb
    obtain ⟨v, rfl, rt⟩ := rl.one
    obtain ⟨a, vs, rfl, h1, r1⟩ := rt.tup
    refine call_len pins s σ H _ us Q I r ⟨_, _, rfl, .inr ⟨vs, by rw [hK]; exact h1, rfl⟩, ?_⟩
    rw [← r1.length]; exact ofval q rep_int
  · split at hb
    · rename_i hl
      cases hb
      obtain ⟨v, rfl, rt⟩ := rl.one
      rw [LINE_eq] at hl
      refine call_len pins s σ H _ us Q I r ⟨_, _, rfl, ?_, ofval q rep_int⟩
      rw [rt.str]
      exact ⟨hl, rfl⟩
    · cases hb
end
end Mc
namespace Mc
open PySem PySem.Spec PyProof.Rows L2

section
variable {X : Cx}
theorem cr_allM {W : Wd} (hK : X.K = W.K) (Hin : Hp) (hc : X.calm = true) : CallR X (.builtin "all") (rBi W Hin .all) := by
  intro pins s σ H xs us Q I r h
  obtain ⟨ds, res, rl, hb, q⟩ := h
  unfold biD at hb
  split at hb <;> try (cases hb; done)
  all_goals try contradiction
  obtain ⟨bs, e1, rfl⟩ := Option.map_eq_some_iff.mp hb
  obtain ⟨v, rfl, a, vs, rfl, h1, r1⟩ := rl.one
  rw [rep_bls r1 e1, ← hK] at h1
  exact cr_all hc pins s σ H _ us Q I r ⟨a, bs, rfl, h1, ofval q rep_bl⟩
theorem cr_anyM {W : Wd} (hK : X.K = W.K) (Hin : Hp) (hc : X.calm = true) : CallR X (.builtin "any") (rBi W Hin .any) := by
  intro pins s σ H xs us Q I r h
  obtain ⟨ds, res, rl, hb, q⟩ := h
  unfold biD at hb
  split at hb <;> try (cases hb; done)
  all_goals try contradiction
  obtain ⟨bs, e1, rfl⟩ := Option.map_eq_some_iff.mp hb
  obtain ⟨v, rfl, a, vs, rfl, h1, r1⟩ := rl.one
  rw [rep_bls r1 e1, ← hK] at h1
  exact cr_any hc pins s σ H _ us Q I r ⟨a, bs, rfl, h1, ofval q rep_bl⟩
theorem cr_sumM {W : Wd} (hK : X.K = W.K) (Hin : Hp) (hc : X.calm = true) : CallR X (.builtin "sum") (rBi W Hin .sum) := by
  intro pins s σ H xs us Q I r h
  obtain ⟨ds, res, rl, hb, q⟩ := h
  unfold biD at hb
  split at hb <;> try (cases hb; done)
  all_goals try contradiction
  obtain ⟨bs, e1, rfl⟩ := Option.map_eq_some_iff.mp hb
  obtain ⟨v, rfl, a, vs, rfl, h1, r1⟩ := rl.one
  rw [rep_ints r1 e1, ← hK] at h1
  exact cr_sum hc pins s σ H _ us Q I r ⟨a, bs, rfl, h1, ofval q rep_int⟩
theorem cr_absM {W : Wd} (Hin : Hp) : CallR X (.builtin "abs") (rBi W Hin .abs) := by
  intro pins s σ H xs us Q I r h
  obtain ⟨ds, res, rl, hb, q⟩ := h
  unfold biD at hb
  split at hb <;> try (cases hb; done)
  all_goals try contradiction
  cases hb
  obtain ⟨v, rfl, rt⟩ := rl.one
  exact call_abs pins s σ H _ us Q I r ⟨_, by rw [rt.int], ofval q rep_int⟩
theorem cr_minM {W : Wd} (Hin : Hp) (hc : X.calm = true) : CallR X (.builtin "min") (rBi W Hin .min) := by
  intro pins s σ H xs us Q I r h
  obtain ⟨ds, res, rl, hb, q⟩ := h
  unfold biD at hb
  split at hb <;> try (cases hb; done)
  all_goals try contradiction
  cases hb
  obtain ⟨v, w, rfl, rt, rt2⟩ := rl.two
  exact call_min2 hc pins s σ H _ us Q I r ⟨_, _, by rw [rt.int, rt2.int], ofval q rep_int⟩
theorem call_listStr (hc : X.calm = true) : CallR X (.type "list") (fun xs H Q => ∃ l : List Nat, xs = [.str ⟨⟨l⟩⟩] ∧ l.length ≤ sizeLine ∧ ∀ p, H p = none → Q (.ref p) (upd H p (.lst (l.map fun c => V.str ⟨#[c]⟩)))) := by
  intro pins s σ H xs us Q I r h
  obtain ⟨l, rfl, hl, q⟩ := h
  obtain ⟨u, rfl, t, rfl⟩ := vals1 r
  refine call_list_str (I.ok.hd hc) _ t (fun h' tk acc' c' hk hS' hacc => ?_) hl
  have rv : Vals (l.map fun c => V.str ⟨#[c]⟩) acc'.toList := by
    obtain ⟨hsz, hat⟩ := hacc
    have hsz : acc'.size = l.length := hsz
    have key : ∀ (k : Nat) (l : List Nat) (us : List Value), us.length = l.length → (∀ (j : Nat) (v : Value), us[j]? = some v → ∃ c u, l[j]? = some c ∧ v = Value.str ⟨#[c]⟩ u) → Vals (l.map fun c => V.str ⟨#[c]⟩) us := by
      intro k l
      induction l with
      | nil => intro us e _; cases us with | nil => exact .nil | cons _ _ => simp at e
      | cons c r ih =>
        intro us e hat
        cases us with
        | nil => simp at e
        | cons u us =>
          obtain ⟨c', t', e1, e2⟩ := hat 0 u rfl
          have e1 : c = c' := by simpa using e1
          subst e1
          refine .cons ⟨t', e2⟩ (ih us (by simpa using e) fun j v hv => ?_)
          simpa using hat (j + 1) v (by simpa using hv)
    refine key 0 l acc'.toList (by simpa using hsz) fun j v hv => ?_
    obtain ⟨c, u, h1, h2⟩ := hat j v (by simpa using hv)
    exact ⟨c, u, by simpa using h1, h2⟩
  refine ⟨.ref _, upd H s.heap.objs.size (.lst (l.map fun c => V.str ⟨#[c]⟩)), ?_, rfl, q _ I.fresh⟩
  exact I.laid (t' := tk) hk (Nat.le_refl _) ⟨by simpa using hl, acc'.toList, c', rv, by simpa using hS'⟩
theorem repl_signs {W : Wd} {H : Hp} : ∀ (l : List Nat), RepL W H (l.map fun c => D.str [c]) (l.map fun c => V.str ⟨#[c]⟩)
  | [] => .nil
  | b :: r => .cons rep_str (repl_signs r)
theorem cr_listM {W : Wd} (hK : X.K = W.K) (Hin : Hp) (hc : X.calm = true) : CallR X (.type "list") (rBi W Hin .list) := by
  intro pins s σ H xs us Q I r h
  obtain ⟨ds, res, rl, hb, q⟩ := h
  unfold biD at hb
  split at hb <;> try (cases hb; done)
  all_goals try contradiction
  · cases hb
    obtain ⟨v, rfl, a, vs, rfl, h1, r1⟩ := rl.one
    exact call_list_of pins s σ H _ us Q I r ⟨a, vs, rfl, .inl (by rw [hK]; exact h1), offresh q r1⟩
  · cases hb
    obtain ⟨v, rfl, rt⟩ := rl.one
    obtain ⟨a, vs, rfl, h1, r1⟩ := rt.tup
    exact call_list_of pins s σ H _ us Q I r ⟨a, vs, rfl, .inr (by rw [hK]; exact h1), offresh q r1⟩
  · split at hb
    · rename_i hl
      cases hb
      obtain ⟨v, rfl, rt⟩ := rl.one
      rw [LINE_eq] at hl
      exact call_listStr hc pins s σ H _ us Q I r ⟨_, by rw [rt.str], hl, offresh q (repl_signs _)⟩
    · cases hb

/-! ### sorted texts -/
theorem ltL_irrefl : ∀ a : List Nat, ltL a a = false
  | [] => rfl
  | a :: r => by simp [ltL, ltL_irrefl r]
theorem ltL_iff : ∀ a b : List Nat, ltL a b = true ↔ a < b
  | a, [] => by cases a <;> simp [ltL]
  | [], b :: r => by simp [ltL]
  | a :: r, b :: t => by
    rw [List.cons_lt_cons_iff]
    unfold ltL
    split
    · rename_i e; subst e; simp [ltL_iff r t]
    · rename_i e; simp [e]
theorem insS_perm (x : List Nat) : ∀ l, (insS x l).Perm (x :: l)
  | [] => .refl _
  | y :: r => by
    unfold insS
    split
    · exact ((insS_perm x r).cons y).trans (.swap x y r)
    · exact .refl _
theorem sortS_perm : ∀ l, (sortS l).Perm l
  | [] => .refl _
  | x :: r => (insS_perm x (sortS r)).trans ((sortS_perm r).cons x)
def LeL (a b : List Nat) : Prop := ltL b a = false
theorem LeL_total {a b : List Nat} (h : ¬ LeL a b) : LeL b a := by
  unfold LeL at *
  have h : ltL b a = true := by simpa using h
  cases e : ltL a b with
  | false => rfl
  | true => exact absurd ((ltL_iff _ _).mp e) (List.lt_asymm ((ltL_iff _ _).mp h))
theorem LeL_trans {a b c : List Nat} (h : LeL a b) (g : LeL b c) : LeL a c := by
  unfold LeL at *
  have h' : ¬ b < a := fun z => by rw [(ltL_iff _ _).mpr z] at h; cases h
  have g' : ¬ c < b := fun z => by rw [(ltL_iff _ _).mpr z] at g; cases g
  cases e : ltL c a with
  | false => rfl
  | true => exact absurd ((ltL_iff _ _).mp e) (List.not_lt.mpr (List.le_trans (List.not_lt.mp h') (List.not_lt.mp g')))
theorem LeL_antisymm {a b : List Nat} (h : LeL a b) (g : LeL b a) : a = b := by
  unfold LeL at *
  have h' : ¬ b < a := fun z => by rw [(ltL_iff _ _).mpr z] at h; cases h
  have g' : ¬ a < b := fun z => by rw [(ltL_iff _ _).mpr z] at g; cases g
  exact List.le_antisymm (List.not_lt.mp h') (List.not_lt.mp g')
theorem insS_sorted (x : List Nat) : ∀ l, l.Pairwise LeL → (insS x l).Pairwise LeL
  | [], _ => List.pairwise_singleton _ _
  | y :: r, h => by
    obtain ⟨h1, h2⟩ := List.pairwise_cons.mp h
    unfold insS
    split
    · rename_i e
      refine List.pairwise_cons.mpr ⟨fun z hz => ?_, insS_sorted x r h2⟩
      rcases List.mem_cons.mp ((insS_perm x r).mem_iff.mp hz) with rfl | hz
      · refine LeL_total fun g => ?_
        unfold LeL at g; rw [e] at g; cases g
      · exact h1 z hz
    · rename_i e
      have e : ltL y x = false := by simpa using e
      refine List.pairwise_cons.mpr ⟨fun z hz => ?_, h⟩
      rcases List.mem_cons.mp hz with rfl | hz
      · exact e
      · exact LeL_trans e (h1 z hz)
theorem sortS_sorted : ∀ l, (sortS l).Pairwise LeL
  | [] => .nil
  | x :: r => insS_sorted x _ (sortS_sorted r)
theorem sorted_unique : ∀ {l m : List (List Nat)}, l.Perm m → l.Pairwise LeL → m.Pairwise LeL → l = m
  | [], m, p, _, _ => (List.nil_perm.mp p).symm
  | x :: r, [], p, _, _ => by simpa using p.length_eq
  | x :: r, y :: t, p, h, g => by
    obtain ⟨h1, h2⟩ := List.pairwise_cons.mp h
    obtain ⟨g1, g2⟩ := List.pairwise_cons.mp g
    have e : x = y := by
      have hx : x ∈ y :: t := p.mem_iff.mp List.mem_cons_self
      have hy : y ∈ x :: r := p.mem_iff.mpr List.mem_cons_self
      rcases List.mem_cons.mp hx with e | hx
      · exact e
      · rcases List.mem_cons.mp hy with e | hy
        · exact e.symm
        · exact LeL_antisymm (h1 y hy) (g1 x hx)
    subst e
    rw [sorted_unique ((List.perm_cons x).mp p) h2 g2]
theorem ltCps_eq : ∀ a b : List Nat, ltCps a b = ltL a b
  | [], [] => rfl
  | [], _ :: _ => rfl
  | _ :: _, [] => rfl
  | a :: r, b :: t => by
    unfold ltCps ltL
    rw [ltCps_eq r t]
    by_cases e : a = b
    · subst e; simp
    · simp [e]
theorem rising_pair : ∀ (r : List Str) (a : Str), risingS a r = true → ((a :: r).map fun x => x.cps.toList).Pairwise LeL
  | [], a, _ => List.pairwise_singleton _ _
  | b :: r, a, h => by
    simp only [risingS, Bool.and_eq_true, Bool.not_eq_true'] at h
    have ih := rising_pair r b h.2
    rw [ltCps_eq] at h
    refine List.pairwise_cons.mpr ⟨fun z hz => ?_, ih⟩
    rcases List.mem_cons.mp hz with rfl | hz
    · exact h.1
    · exact LeL_trans h.1 ((List.pairwise_cons.mp ih).1 z hz)
theorem sortedS_pair : ∀ (ss : List Str), sortedS ss = true → (ss.map fun x => x.cps.toList).Pairwise LeL
  | [], _ => .nil
  | a :: r, h => rising_pair r a h
theorem insI_perm (x : Int) : ∀ l : List Int, (insI x l).Perm (x :: l)
  | [] => .refl _
  | y :: r => by
    unfold insI
    split
    · exact ((insI_perm x r).cons y).trans (.swap x y r)
    · exact .refl _
theorem sortI_perm : ∀ l : List Int, (sortI l).Perm l
  | [] => .refl _
  | x :: r => (insI_perm x _).trans ((sortI_perm r).cons x)
theorem insI_sorted (x : Int) : ∀ l : List Int, l.Pairwise (· ≤ ·) → (insI x l).Pairwise (· ≤ ·)
  | [], _ => by simp [insI]
  | y :: r, h => by
    obtain ⟨h1, h2⟩ := List.pairwise_cons.mp h
    unfold insI
    split
    · refine List.pairwise_cons.mpr ⟨fun z hz => ?_, insI_sorted x r h2⟩
      rcases List.mem_cons.mp ((insI_perm x r).mem_iff.mp hz) with rfl | hz
      · omega
      · exact h1 z hz
    · refine List.pairwise_cons.mpr ⟨fun z hz => ?_, h⟩
      rcases List.mem_cons.mp hz with rfl | hz
      · omega
      · have := h1 z hz; omega
theorem sortI_sorted : ∀ l : List Int, (sortI l).Pairwise (· ≤ ·)
  | [] => .nil
  | x :: r => insI_sorted x _ (sortI_sorted r)
theorem sortedI_unique : ∀ {l m : List Int}, l.Perm m → l.Pairwise (· ≤ ·) → m.Pairwise (· ≤ ·) → l = m
  | [], m, p, _, _ => (List.nil_perm.mp p).symm
  | x :: r, [], p, _, _ => by simpa using p.length_eq
  | x :: r, y :: t, p, h, g => by
    obtain ⟨h1, h2⟩ := List.pairwise_cons.mp h
    obtain ⟨g1, g2⟩ := List.pairwise_cons.mp g
    have e : x = y := by
      have hx : x ∈ y :: t := p.mem_iff.mp List.mem_cons_self
      have hy : y ∈ x :: r := p.mem_iff.mpr List.mem_cons_self
      rcases List.mem_cons.mp hx with e | hx
      · exact e
      rcases List.mem_cons.mp hy with e | hy
      · exact e.symm
      have a := h1 y hy
      have b := g1 x hx
      omega
    subst e
    rw [sortedI_unique ((List.perm_cons x).mp p) h2 g2]
theorem cr_sortedM {W : Wd} (hK : X.K = W.K) (Hin : Hp) : CallR X (.builtin "sorted") (rBi W Hin .sorted) := by
  intro pins s σ H xs us Q I r h
  obtain ⟨ds, res, rl, hb, q⟩ := h
  unfold biD at hb
  split at hb <;> try (cases hb; done)
  all_goals try contradiction
  obtain ⟨v, rfl, a, vs, rfl, h1, r1⟩ := rl.one
  split at hb
  rotate_left
  · split at hb <;> try (cases hb; done)
    rename_i ns e1
    split at hb <;> try (cases hb; done)
    rename_i hns
    cases hb
    rw [rep_ints r1 e1, ← hK] at h1
    exact cr_sorted pins s σ H _ us Q I r ⟨a, ns, rfl, h1, hns, fun ns' p hp hs hn => by
      rw [sortedI_unique (hp.trans (sortI_perm ns).symm) hs (sortI_sorted ns)]
      exact offresh q (repl_ints _) p hn⟩
  rename_i bs e1
  cases hb
  rw [rep_strs r1 e1, ← hK] at h1
  obtain ⟨its, rv, hl, hz⟩ := I.list h1
  rw [Vals.ref1 r]
  have hlen0 := rv.length
  refine sorted_strsAny hl.isList rv.strs (by rw [← hlen0]; exact hz) fun out ys h1 h2 h3 => ?_
  have hys : ys = (sortS bs).map fun l => (⟨⟨l⟩⟩ : Str) := by
    have p1 : (ys.map fun x => x.cps.toList).Perm bs := by
      have := h2.map fun x => x.cps.toList
      rw [List.map_map] at this
      have e : ((fun x : Str => x.cps.toList) ∘ fun l => (⟨⟨l⟩⟩ : Str)) = id := rfl
      rw [e, List.map_id] at this
      exact this
    have e2 : (ys.map fun x => x.cps.toList) = sortS bs := sorted_unique (p1.trans (sortS_perm bs).symm) (sortedS_pair ys h3) (sortS_sorted bs)
    rw [← e2, List.map_map]
    have e : ((fun l => (⟨⟨l⟩⟩ : Str)) ∘ fun x : Str => x.cps.toList) = id := rfl
    rw [e, List.map_id]
  subst hys
  obtain ⟨ep, he'⟩ := PyProof.Rows.sortedAll_at s.heap its out
  have hlen : ((((sortS bs).map fun l => (⟨⟨l⟩⟩ : Str))).map V.str).length ≤ sizeLine := by
    rw [List.length_map, h2.length_eq]
    rw [List.length_map] at hz
    exact hz
  refine ⟨.ref _, upd H (s.heap.objs.size + 1) (.lst ((((sortS bs).map fun l => (⟨⟨l⟩⟩ : Str))).map V.str)), I.laid (t' := s.toks) (fun _ _ => PyProof.Rows.sortedAll_old) (Nat.le_succ _) ⟨hlen, out.toList, ep, vals_of_strs h1, he'⟩, rfl, ?_⟩
  exact offresh q (repl_strs _) _ (I.hok.fresh (Nat.le_succ _))

/-! ### methods of texts and lists -/
theorem at_one {x : List Nat} {c k : Nat} : StrLaws.At ⟨⟨x⟩⟩ ⟨#[c]⟩ x.length k ↔ x[k]? = some c := by
  unfold StrLaws.At
  rw [StrLaws.subAt_eq]
  show k + 1 ≤ x.length ∧ ((x.drop k).take 1 == [c]) = true ↔ _
  rw [beq_iff_eq]
  constructor
  · rintro ⟨h1, h2⟩
    have : (x.drop k)[0]? = some c := by
      have := congrArg (·[0]?) h2
      simpa using this
    simpa using this
  · intro h
    have hk : k < x.length := (List.getElem?_eq_some_iff.mp h).1
    refine ⟨hk, ?_⟩
    rw [List.drop_eq_getElem_cons hk]
    have e : x[k] = c := (List.getElem?_eq_some_iff.mp h).2
    simp [e]
theorem count_none {x : List Nat} {c a : Nat} (h : ∀ k, a ≤ k → ¬ x[k]? = some c) : (x.drop a).count c = 0 := by
  rw [List.count_eq_zero]
  intro hm
  obtain ⟨j, hj⟩ := List.getElem?_of_mem hm
  rw [List.getElem?_drop] at hj
  exact h _ (by omega) hj
theorem chain_count {x : List Nat} {c : Nat} : ∀ (cuts : List Nat) (a f : Nat), StrLaws.ChainG ⟨⟨x⟩⟩ ⟨#[c]⟩ x.length a cuts f → (∀ k, f ≤ k → ¬ x[k]? = some c) → cuts.length = (x.drop a).count c
  | [], a, f, h, hn => by
    have e : f = a := h
    subst e
    rw [count_none hn]; rfl
  | b :: r, a, f, h, hn => by
    obtain ⟨h1, h2, h3, h4⟩ := h
    have h4 : StrLaws.ChainG ⟨⟨x⟩⟩ ⟨#[c]⟩ x.length (b + 1) r f := h4
    have h2 := at_one.mp h2
    have hb : b < x.length := (List.getElem?_eq_some_iff.mp h2).1
    have eb : x[b] = c := (List.getElem?_eq_some_iff.mp h2).2
    have ih := chain_count r (b + 1) f h4 hn
    have hd : x.drop a = (x.drop a).take (b - a) ++ c :: x.drop (b + 1) := by
      have e1 : (x.drop a).drop (b - a) = c :: x.drop (b + 1) := by
        rw [List.drop_drop, show a + (b - a) = b by omega, List.drop_eq_getElem_cons hb, eb]
      rw [← e1, List.take_append_drop]
    have h0 : ((x.drop a).take (b - a)).count c = 0 := by
      rw [List.count_eq_zero]
      intro hm
      obtain ⟨j, hj⟩ := List.getElem?_of_mem hm
      have hlt : j < b - a := by
        have := (List.getElem?_eq_some_iff.mp hj).1
        rw [List.length_take] at this
        omega
      rw [List.getElem?_take_of_lt hlt, List.getElem?_drop] at hj
      exact h3 (a + j) (by omega) (by omega) (at_one.mpr hj)
    rw [hd, List.count_append, h0, List.count_cons_self, List.length_cons, ih]
    omega
theorem count_eq (x : List Nat) (c : Nat) : Txt.count ⟨⟨x⟩⟩ ⟨#[c]⟩ = ((x.count c : Nat) : Int) := by
  unfold Txt.count
  obtain ⟨f, h1, h2⟩ := StrLaws.occ_tight ⟨⟨x⟩⟩ ⟨#[c]⟩ (Nat.le_refl 1)
  have := chain_count _ 0 f h1 (fun k hk z => h2 k hk (at_one.mpr z))
  rw [List.drop_zero] at this
  exact congrArg _ this
theorem join_nil : ∀ (bs : List (List Nat)), Txt.join ⟨⟨[]⟩⟩ (bs.map fun l => (⟨⟨l⟩⟩ : Str)) = ⟨⟨bs.flatten⟩⟩ := by
  intro bs
  unfold Txt.join
  cases bs with
  | nil => rfl
  | cons b r =>
    show (⟨(r.map fun l => (⟨⟨l⟩⟩ : Str)).foldl (fun acc p => acc ++ (⟨⟨[]⟩⟩ : Str).cps ++ p.cps) (⟨⟨b⟩⟩ : Str).cps⟩ : Str) = _
    have key : ∀ (r : List (List Nat)) (acc : List Nat), (r.map fun l => (⟨⟨l⟩⟩ : Str)).foldl (fun acc p => acc ++ (⟨⟨[]⟩⟩ : Str).cps ++ p.cps) (⟨acc⟩ : Array Nat) = ⟨acc ++ r.flatten⟩ := by
      intro r
      induction r with
      | nil => intro acc; simp
      | cons c t ih =>
        intro acc
        rw [List.map_cons, List.foldl_cons]
        have e : ((⟨acc⟩ : Array Nat) ++ (⟨⟨[]⟩⟩ : Str).cps ++ (⟨⟨c⟩⟩ : Str).cps) = ⟨acc ++ c⟩ := by simp
        rw [e, ih]
        simp
    rw [key r b]
    simp
theorem toPyL_get : ∀ {ds : List D} {i : Nat}, (toPyL ds)[i]? = (ds[i]?).map toPy
  | [], _ => by simp [toPyL]
  | d :: r, 0 => by simp [toPyL]
  | d :: r, i + 1 => by simp [toPyL, toPyL_get (ds := r) (i := i)]
theorem toPyL_len : ∀ (ds : List D), (toPyL ds).length = ds.length
  | [] => rfl
  | d :: r => by simp [toPyL, toPyL_len r]
theorem eqD_eqv {a b : D} {k : Bool} (h : eqD a b = some k) : PyData.eqv (toPy a) (toPy b) = k := by
  unfold eqD at h
  split at h
  · cases h; simp only [toPy, PyData.eqv]; exact (Bool.beq_eq_decide_eq _ _)
  · cases h
    simp only [toPy, PyData.eqv]
    rw [Bool.beq_eq_decide_eq]
    exact decide_eq_decide.mpr ⟨fun h => by injection h with h; injection h, fun h => by rw [h]⟩
  · cases h; simp only [toPy, PyData.eqv]; rw [Bool.beq_eq_decide_eq]
  · split at h
    · cases h; rfl
    · cases h
theorem findD_ok {x : D} : ∀ {ds : List D} {n m : Nat}, findD x ds n = some m → ∃ j z, m = n + j ∧ ds[j]? = some z ∧ PyData.eqv (toPy z) (toPy x) = true ∧ ∀ (i : Nat) (z' : D), i < j → ds[i]? = some z' → PyData.eqv (toPy z') (toPy x) = false
  | [], _, _, h => by cases h
  | y :: r, n, m, h => by
    unfold findD at h
    split at h
    · rename_i e
      cases h
      exact ⟨0, y, rfl, rfl, eqD_eqv e, fun i _ hi => absurd hi (by omega)⟩
    · rename_i e
      obtain ⟨j, z, e1, e2, e3, e4⟩ := findD_ok h
      refine ⟨j + 1, z, by omega, by simpa using e2, e3, fun i z' hi hz => ?_⟩
      cases i with
      | zero => simp at hz; subst hz; exact eqD_eqv e
      | succ i => exact e4 i z' (by omega) (by simpa using hz)
    · cases h
def rMt (W : Wd) (Hin : Hp) (m : Mt) : V → List V → Hp → VK → Prop := fun x vs H Q => ∃ d ds r, RepT W H d x ∧ RepTL W H ds vs ∧ mtD m d ds = some r ∧ ∀ v H', Same W H H' → RelR W Hin H H' v r → Q v H'
theorem mt_joinM {W : Wd} (hK : X.K = W.K) (Hin : Hp) : MtR X "str.join" (rMt W Hin .join) := by
  intro pins s σ H x xs v us Q I rx rs h
  obtain ⟨d, ds, res, rd, rl, hb, q⟩ := h
  unfold mtD at hb
  split at hb <;> try (cases hb; done)
  all_goals try contradiction
  split at hb <;> try (cases hb; done)
  rename_i bs e1
  split at hb <;> try (cases hb; done)
  rename_i hl
  cases hb
  obtain ⟨w, rfl, a, vs, rfl, h1, r1⟩ := rl.one
  rw [rep_strs r1 e1, ← hK] at h1
  refine mt_join pins s σ H x _ v us Q I rx rs ⟨_, a, _, rd.str, rfl, .inl h1, ?_, ?_⟩
  · have e0 : (⟨⟨[]⟩⟩ : Str).length = 0 := rfl
    rw [e0, Nat.mul_zero, Nat.add_zero, List.map_map]
    have e : ((fun x : Str => x.length) ∘ fun l => (⟨⟨l⟩⟩ : Str)) = fun l : List Nat => l.length := rfl
    rw [e]
    have : (bs.map fun l => l.length).sum = bs.flatten.length := by rw [List.length_flatten]
    rw [this]; exact hl
  · rw [join_nil]; exact ofval q rep_str
theorem mt_countM {W : Wd} (Hin : Hp) : MtR X "str.count" (rMt W Hin .count) := by
  intro pins s σ H x xs v us Q I rx rs h
  obtain ⟨d, ds, res, rd, rl, hb, q⟩ := h
  unfold mtD at hb
  split at hb <;> try (cases hb; done)
  all_goals try contradiction
  cases hb
  obtain ⟨w, rfl, rt⟩ := rl.one
  refine mt_count pins s σ H x _ v us Q I rx rs ⟨_, _, rd.str, by rw [rt.str], ?_⟩
  rw [count_eq]; exact ofval q rep_int
theorem mt_stripM {W : Wd} (Hin : Hp) : MtR X "str.strip" (rMt W Hin .strip) := by
  intro pins s σ H x xs v us Q I rx rs h
  obtain ⟨d, ds, res, rd, rl, hb, q⟩ := h
  unfold mtD at hb
  split at hb <;> try (cases hb; done)
  all_goals try contradiction
  split at hb <;> try (cases hb; done)
  rename_i hl
  cases hb
  rw [LINE_eq] at hl
  obtain ⟨w, rfl, rt⟩ := rl.one
  refine mt_stripChars pins s σ H x _ v us Q I rx rs ⟨_, _, rd.str, by rw [rt.str], hl, ?_⟩
  exact ofval q rep_str
theorem mt_indexM {W : Wd} (hK : X.K = W.K) (Hin : Hp) (hu : X.A.units + 65 < cLine) : MtR X "list.index" (rMt W Hin .index) := by
  intro pins s σ H x xs v us Q I rx rs h
  obtain ⟨d, ds, res, rd, rl, hb, q⟩ := h
  unfold mtD at hb
  split at hb <;> try (cases hb; done)
  all_goals try contradiction
  split at hb <;> try (cases hb; done)
  rename_i hh
  rw [Bool.and_eq_true] at hh
  obtain ⟨m, e1, rfl⟩ := Option.map_eq_some_iff.mp hb
  obtain ⟨w, rfl, rt⟩ := rl.one
  obtain ⟨j, z, e2, e3, e4, e5⟩ := findD_ok e1
  have dl := dpT_of rd hh.2
  have dx := dpT_of rt hh.1
  obtain ⟨a, vs, rfl, h1, r1⟩ := rd
  rw [← hK] at dl dx
  refine mt_indexD hu pins s σ H _ _ v us Q I rx rs ⟨a, w, _, _, j, toPy z, rfl, rfl, dl, dx, hh.2, hh.1, ?_, e4, fun i z' hi hz => ?_, ?_⟩
  · rw [toPyL_get, e3]; rfl
  · rw [toPyL_get] at hz
    obtain ⟨z0, hz0, rfl⟩ := Option.map_eq_some_iff.mp hz
    exact e5 i z0 hi hz0
  · have : m = j := by omega
    subst this
    exact ofval q rep_int

/-! ### isinstance -/
def Ty.nm : Ty → String
  | .int => "int" | .bool => "bool" | .str => "str" | .list => "list" | .tuple => "tuple" | .own _ => ""
def Ty.builtin : Ty → Bool
  | .own _ => false
  | _ => true
theorem isi_kit {t : Ty} {d : D} {k : Bool} (hb : t.builtin = true) (h : isiD t d = some k) : ∃ T, kitB T t.nm = some k ∧ (∀ (W : Wd) (H : Hp) (x : V), RepT W H d x → TyX W.K H x (.type T)) := by
  cases d with
  | non =>
    refine ⟨"NoneType", ?_, fun W H x r => by rw [r.non]; exact .base .non⟩
    cases t <;> simp only [isiD] at h <;> first | (cases h; decide +kernel) | cases hb
  | bl b =>
    refine ⟨"bool", ?_, fun W H x r => by rw [r.bl]; exact .base (.bl _)⟩
    cases t <;> simp only [isiD] at h <;> first | (cases h; decide +kernel) | cases hb
  | int b =>
    refine ⟨"int", ?_, fun W H x r => by rw [r.int]; exact .base (.int _)⟩
    cases t <;> simp only [isiD] at h <;> first | (cases h; decide +kernel) | cases hb
  | str b =>
    refine ⟨"str", ?_, fun W H x r => by rw [r.str]; exact .base (.str _)⟩
    cases t <;> simp only [isiD] at h <;> first | (cases h; decide +kernel) | cases hb
  | lst b =>
    refine ⟨"list", ?_, fun W H x r => ?_⟩
    · cases t <;> simp only [isiD] at h <;> first | (cases h; decide +kernel) | cases hb
    · obtain ⟨a, vs, rfl, (h1 | ⟨o, h1⟩) | ⟨o, its, n, h1, h2, _⟩, _⟩ := r
      · exact .base (.lst h1)
      · exact .base (.frz h1)
      · exact .kList h1 h2
  | tup b =>
    refine ⟨"tuple", ?_, fun W H x r => ?_⟩
    · cases t <;> simp only [isiD] at h <;> first | (cases h; decide +kernel) | cases hb
    · obtain ⟨a, vs, rfl, (h1 | ⟨o, h1⟩) | ⟨o, its, n, h1, h2, _⟩, _⟩ := r.tup
      · exact .base (.tup h1)
      · exact .fTuple h1
      · exact .kTuple h1 h2
  | ins c fs => cases t <;> simp only [isiD] at h <;> cases h
  | fn f => cases t <;> simp only [isiD] at h <;> cases h
  | lam f => cases t <;> simp only [isiD] at h <;> cases h
  | dic =>
    refine ⟨"dict", ?_, fun W H x r => ?_⟩
    · cases t <;> simp only [isiD] at h <;> first | (cases h; decide +kernel) | cases hb
    · have r : Rep W H .dic x := r
      simp only [Rep] at r
      obtain ⟨a, kvs, rfl, h1⟩ := r
      exact .base (.dK h1)
theorem cr_isiM {W : Wd} (hK : X.K = W.K) (t : Ty) (hb : t.builtin = true) : CallR X (.builtin "isinstance") (fun vs H Q => ∃ d k x, vs = [x, .ty t.nm] ∧ RepT W H d x ∧ isiD t d = some k ∧ Q (.bl k) H) := by
  intro pins s σ H xs us Q I r h
  obtain ⟨d, k, x, rfl, rt, hi, q⟩ := h
  obtain ⟨T, e1, e2⟩ := isi_kit hb hi
  exact call_isi pins s σ H _ us Q I r ⟨x, .ty t.nm, _, _, k, rfl, .ty _, by rw [hK]; exact e2 W H x rt, kit_ty e1, q⟩
end
end Mc
namespace Mc
open PySem PySem.Spec PyProof.Rows L2

/-! ### does the small text match the given one? -/
structure Tc where
  N : List Str
  sc : Scope
  raw : Scope
  /-- the def makes lambdas -/
  ml : Bool
structure Gi where
  fns : List Str
  csts : List (Str × Int)
  cls : List (Str × List Str) := []
  meths : List ((Nat × Str) × Nat) := []
  isa : List ((Nat × Nat) × Bool) := []
  fvs : List (Nat × Str) := []
  exs : List (Nat × Str) := []
  lams : List Nat := []
  muts : List (Nat × Str) := []
  lamk : Nat → Arguments → Expr → Scope → Bool := fun _ _ _ _ => false
def Es.len : Es → Nat
  | .nil => 0
  | .cons _ es => es.len + 1
def Gi.fs (g : Gi) (c : Nat) : List Str := ((g.cls[c]?).map (·.2)).getD []
def vis (T : Tc) (x : Str) : Bool := match T.sc.names.lookup x with
  | some .local => true
  | some .cell => true
  | some .free => true
  | _ => false
def gl (T : Tc) (x : Str) : Bool := match T.sc.names.lookup x with
  | some .globalImplicit => true
  | _ => false
def asgn (T : Tc) (x : Str) : Bool := match T.raw.names.lookup x with
  | some .local => true
  | some .cell => true
  | _ => false
def plainName (x : Str) : Bool := !(x == ("__debug__" : Str)) && !(x == ("__classdict__" : Str)) && !(x == ("__name__" : Str))
def Bi.nm : Bi → Str
  | .len => "len" | .all => "all" | .any => "any" | .sum => "sum" | .abs => "abs" | .min => "min" | .list => "list" | .sorted => "sorted"
def Mt.nm : Mt → Str
  | .join => "join" | .count => "count" | .strip => "strip" | .index => "index"
def Ty.nmS : Ty → Str
  | .int => "int" | .bool => "bool" | .str => "str" | .list => "list" | .tuple => "tuple" | .own _ => ""
def noStar : Expr → Bool
  | .Starred _ _ => false
  | _ => true
def noCall0 : Expr → Bool
  | .Call (.Name _ _) [] [] _ => false
  | _ => true
def okTg (T : Tc) : Tg → Expr → Bool
  | .nm i, .Name x _ => decide (T.N[i]? = some x) && asgn T x
  | .tp is, .Tuple ts _ _ => okTgs T is ts
  | _, _ => false
where okTgs (T : Tc) : List Nat → List Expr → Bool
  | [], [] => true
  | i :: is, .Name x _ :: ts => decide (T.N[i]? = some x) && asgn T x && okTgs T is ts
  | _, _ => false
def ownOf (T : Tc) (is : List Nat) : List (Str × Nat) := is.filterMap fun i => (T.N[i]?).map fun x => (x, i)
def Tc.blk (T : Tc) (scope : Scope) : Tc := { N := T.N, sc := relS scope T.sc, raw := scope, ml := T.ml }
def tst : E → Bool
  | .ite _ _ _ => false
  | .repl _ _ _ _ _ => false
  | _ => true
def Es.tst : Es → Bool
  | .nil => true
  | .cons e es => Mc.tst e && es.tst
def Tg.isTp : Tg → Bool
  | .nm _ => false
  | .tp _ => true

mutual
def okE (g : Gi) (T : Tc) : E → Expr → Bool
  | .slot i, .Name x _ => decide (T.N[i]? = some x) && vis T x && plainName x
  | .int i, .Constant (.int j) _ _ => decide (i = j)
  | .str l, .Constant (.str x) _ _ => decide (x = ⟨⟨l⟩⟩)
  | .bl b, .Constant (.bool c) _ _ => decide (b = c)
  | .non, .Constant .none _ _ => true
  | .gint x i, .Name y _ => decide (x = y) && gl T x && decide (g.csts.lookup x = some i) && plainName x
  | .bin op a b, .BinOp l o r _ => decide (o = op.py) && okE g T a l && okE g T b r
  | .neg a, .UnaryOp .USub e _ => okE g T a e
  | .cmp op a b, .Compare l [o] [r] _ => decide (o = op.py) && okE g T a l && okE g T b r && !behindInMarks o r
  | .chain o1 o2 a b c, .Compare l [p1, p2] [r1, r2] _ => decide (p1 = o1.py) && decide (p2 = o2.py) && okE g T a l && okE g T b r1 && okE g T c r2 && !behindInMarks p1 r1 && !behindInMarks p2 r2
  | .and (.cons e es), .BoolOp .And xs _ => okEs g T (.cons e es) xs && (Es.cons e es).tst
  | .or (.cons e es), .BoolOp .Or xs _ => okEs g T (.cons e es) xs && (Es.cons e es).tst
  | .not a, .UnaryOp .Not e _ => okE g T a e && tst a
  | .ite c a b, .IfExp t x y _ => okE g T c t && tst c && okE g T a x && okE g T b y
  | .lst es, .List xs _ => okEs g T es xs
  | .tup es, .Tuple xs _ _ => okEs g T es xs
  | .sub a i, .Subscript v s _ => okE g T a v && okE g T i s
  | .slice a lo hi, .Subscript v (.Slice l u none _) _ => okE g T a v && okO g T lo l && okO g T hi u
  | .rev a, .Subscript v (.Slice none none (some (.UnaryOp .USub (.Constant (.int 1) _ _) _)) _) _ => okE g T a v
  | .call f (.cons e es), .Call (.Name x _) xs [] _ => decide (g.fns[f]? = some x) && gl T x && plainName x && okEs g T (.cons e es) xs
  | .bi b (.cons e es), .Call (.Name x _) xs [] _ => decide (x = b.nm) && gl T x && okEs g T (.cons e es) xs
  | .meth m a (.cons e .nil), .Call (.Attribute v n ap) [x] [] p => decide (n = m.nm) && okE g T a v && noCall0 v && okEs g T (.cons e .nil) [x] && (ap.endLine == p.line)
  | .lc elt tg src cond, .ListComp e [⟨t, it, ifs, 0⟩] scope _ => okTg (T.blk scope) tg t && okSrc g T src it && okIf g (T.blk scope) cond ifs && okE g (T.blk scope) elt e && blkC T.N T.sc scope (ownOf T tg.slots) && decide ((ownOf T tg.slots).map (·.2) = tg.slots) && (tg.isTp || okNm src)
  | .isi a t, .Call (.Name x _) [y, .Name z _] [] _ => decide (x = "isinstance") && gl T x && okE g T a y && noStar y && t.builtin && decide (z = t.nmS) && gl T z
  | .lset a, .Call (.Name x _) [.Call (.Name y _) [p] [] _] [] _ => decide (x = "len") && gl T x && decide (y = "set") && gl T y && okE g T a p && noStar p
  | .step a lo k, .Subscript v (.Slice (some l) none (some (.Constant (.int j) _ _)) _) _ => okE g T a v && okE g T lo l && decide ((k : Int) = j) && decide (0 < k)
  | .new c (.cons e es), .Call (.Name x _) xs [] _ => decide ((g.cls[c]?).map (·.1) = some x) && gl T x && plainName x && okEs g T (.cons e es) xs && decide ((g.fs c).length = (Es.cons e es).len)
  | .fld a c i, .Attribute v n _ => okE g T a v && noCall0 v && decide (c < g.cls.length) && decide ((g.fs c).idxOf? n = some i)
  | .mcall m tb a (.cons e es), .Call (.Attribute v n ap) xs [] p => decide (n = m) && okE g T a v && noCall0 v && okEs g T (.cons e es) xs && (ap.endLine == p.line) && decide (xs.length < 20) && tb.all fun q => decide (g.meths.lookup (q.1, m) = some q.2) && decide (m ∉ g.fs q.1) && decide (q.1 < g.cls.length)
  | .sortl a, .Call (.Name x _) [p] [⟨some y, .Name z _, _⟩] _ => decide (x = "sorted") && gl T x && decide (y = "key") && decide (z = "len") && gl T z && okE g T a p && noStar p
  | .revs a, .Subscript v (.Slice none none (some (.UnaryOp .USub (.Constant (.int 1) _ _) _)) _) _ => okE g T a v
  | .repl s k a x y, .IfExp (.Compare (.Name ns _) [.Lt] [.Constant (.int j) _ _] _) (.Call (.Attribute (.Name na _) m ap) [.Constant (.str y1) _ _, .Constant (.str y2) _ _, .Constant (.int c) _ _] [] p) (.Name nb _) _ => (decide (T.N[s]? = some ns) && vis T ns && plainName ns) && (decide (T.N[a]? = some na) && vis T na && plainName na) && decide (nb = na) && decide ((k : Int) = j) && decide (m = "replace") && decide (y1 = ⟨⟨[x]⟩⟩) && decide (y2 = ⟨⟨[y]⟩⟩) && decide (c = 1) && decide (x ≠ y) && (ap.endLine == p.line)
  | .fnv x f, .Name y _ => decide (x = y) && gl T x && decide (g.fvs.lookup f = some x) && plainName x
  | .callv i tb (.cons e es), .Call (.Name x _) xs [] _ => decide (T.N[i]? = some x) && vis T x && plainName x && okEs g T (.cons e es) xs && tb.all fun f => (g.fvs.lookup f).isSome && decide (g.fvs.lookup f = g.fns[f]?)
  | .dict0, .Dict [] [] _ => true
  | .call0 f, .Call (.Name x _) [] [] _ => decide (g.fns[f]? = some x) && gl T x && plainName x
  | .lam j, .Lambda params body scope _ => T.ml && g.lamk j params body scope
  | .calll i tl (.cons e es), .Call (.Name x _) xs [] _ => decide (T.N[i]? = some x) && vis T x && plainName x && okEs g T (.cons e es) xs && tl.all fun f => decide (f ∈ g.lams)
  | .dict1 k i, .Dict [some (.Constant (.str x) _ _)] [.Constant (.int j) _ _] _ => decide (x = ⟨⟨k⟩⟩) && decide (i = j)
  | .rep a k, .BinOp l .Mult r _ => okE g T a l && okE g T k r
  | .isic a c tb, .Call (.Name x _) [y, .Name z _] [] _ => decide (x = "isinstance") && gl T x && okE g T a y && noStar y && gl T z && plainName z && decide ((g.cls[c]?).map (·.1) = some z) && tb.all fun q => decide (g.isa.lookup (q.1, c) = some q.2) && decide (q.1 < g.cls.length)
  | _, _ => false
def okEs (g : Gi) (T : Tc) : Es → List Expr → Bool
  | .nil, [] => true
  | .cons e es, x :: xs => noStar x && okE g T e x && okEs g T es xs
  | _, _ => false
def okO (g : Gi) (T : Tc) : Oe → Option Expr → Bool
  | .non, none => true
  | .one e, some x => okE g T e x
  | _, _ => false
def okIf (g : Gi) (T : Tc) : Oe → List Expr → Bool
  | .non, [] => true
  | .one e, [x] => okE g T e x && tst e
  | _, _ => false
def okSrc (g : Gi) (T : Tc) : Src → Expr → Bool
  | .seq e, x => okE g T e x
  | .rng1 a, .Call (.Name x _) [p] [] _ => decide (x = "range") && gl T x && okE g T a p && noStar p
  | .rng2 a b, .Call (.Name x _) [p, q] [] _ => decide (x = "range") && gl T x && okE g T a p && noStar p && okE g T b q && noStar q
  | .rng3 a b c, .Call (.Name x _) [p, q, r] [] _ => decide (x = "range") && gl T x && okE g T a p && noStar p && okE g T b q && noStar q && okE g T c r && noStar r
  | .enum e, .Call (.Name x _) [p] [] _ => decide (x = "enumerate") && gl T x && okE g T e p && noStar p
  | .zip a b, .Call (.Name x _) [p, q] [] _ => decide (x = "zip") && gl T x && okE g T a p && noStar p && okE g T b q && noStar q
  | _, _ => false
def okNm : Src → Bool
  | .enum _ => false
  | .zip _ _ => false
  | _ => true
end

/-! ### where one stands -/
inductive ArgL (W : Wd) (H : Hp) : List Sl → List V → Prop where
  | nil : LamX.Tabs W.T H → ArgL W H [] []
  | cons {s : Sl} {v : V} {ss : List Sl} {vs : List V} : SlotR W H H s v → (∀ ds, s ≠ .own ds) → ArgL W H ss vs → ArgL W H (s :: ss) (v :: vs)
def spOf (W : Wd) (sem : List Sl → Option R) : Sp := fun vs H Q _ => ∃ as r, ArgL W H as vs ∧ sem as = some r ∧ r.plain = true ∧ ∀ v H', Same W H H' → RelR W H H H' v r → Q v H'
/-- without what lies at a -/
def hide (a : Addr) (H : Hp) : Hp := fun b => if b = a then none else H b
theorem hide_ne {a b : Addr} {H : Hp} (h : b ≠ a) : hide a H b = H b := by unfold hide; rw [if_neg h]
theorem hide_same {a : Addr} {H : Hp} : hide a H a = none := by unfold hide; rw [if_pos rfl]
/-- the promise of a def that changes the list that it is handed first -/
def spM (W : Wd) (sem : List Sl → Option R) : Sp := fun vs H Q _ => ∃ (a : Addr) (xs : List V) (ds : List D) (as : List Sl) (ds' : List D) (rest : List V), vs = .ref a :: rest ∧ H a = some (.lst xs) ∧ RepL W H ds xs ∧ ArgL W H as rest ∧ as.all Sl.isFz = true ∧ sem (.vw ds :: as) = some (.fresh ds') ∧
  ∀ H' xs', Same W (hide a H) H' → H' a = some (.lst xs') → RepL W H' ds' xs' → Q .non H'
/-- the promise of a lambda that holds nothing, wherever it lies -/
structure LamOk (P : Program) (w : World) (K : PySem.W.Frag) (mg : Str → Option Value) (base : Heap) (CX : CXT) (k : Nat) (q : Str) (params : Arguments) (body : Expr) (scope : Scope) (sp : Sp) : Prop where
  run : ∀ (A : Around) (outer : List PySem.Env) (s : Shared) (H : Hp) (a c : Addr) (us : List Value) (vs : List V) (Q : VK) (E : XK), Room k A → Env0 P w K mg base A outer s H → H a = some (LamO q params body scope a c) → H c = some (LamX.CodeO c q) →
    Vals vs us → sp vs H Q E → codeAny (model P w) A (.call (.ref a) ⟨us, []⟩) (CR CX outer P w H s Q E) s
theorem LamOk.mono {P : Program} {w : World} {K : PySem.W.Frag} {mg : Str → Option Value} {base : Heap} {CX : CXT} {j k : Nat} {q : Str} {params : Arguments} {body : Expr} {scope : Scope} {sp : Sp} (F : LamOk P w K mg base CX j q params body scope sp) (h : j ≤ k) :
    LamOk P w K mg base CX k q params body scope sp := ⟨fun A outer s H a c us vs Q E hr => F.run A outer s H a c us vs Q E (hr.mono h)⟩
def bnames : List Str := ["len", "all", "any", "sum", "abs", "min", "list", "sorted", "range", "enumerate", "zip", "isinstance", "int", "bool", "str", "tuple", "set"]
/-- the promise of an __init__ that stores its arguments -/
def spInit (C : Addr) (fs : List Str) : Sp := fun vs H Q _ => ∃ (x dx : Addr) (ws : List V), vs = .ref x :: ws ∧ H x = some (.ins C dx []) ∧ ws.length = fs.length ∧ Q .non (upd H x (.ins C dx (fs.zip ws)))
/-- what is known of a class -/
structure ClsK (K : PySem.W.Frag) (C : Addr) (fs : List Str) : Prop where
  cl : Cls K C
  no : ∀ f ∈ fs, NoAttr K C f
  ha : PySem.W.findIn K (.ref C) "__class__" = some (some (.builtin "object.__class__"))
  hn : PySem.W.specialIn K (.builtin "object.__class__") "__get__" = some (some (.builtin "getset_descriptor.__get__"))
  htk : PySem.W.takesIn K (.builtin "object.__class__") = some true
  hm : PySem.W.mroIn K C (.type "object") = some true
structure Cok (W : Wd) (g : Gi) (G : Gm) (T : Tc) (X : Cx) : Prop where
  K : X.K = W.K
  N : X.N = T.N
  nd : T.N.Nodup
  sc : X.env.scope = T.sc
  rw : ∀ x k, T.raw.names.lookup x = some k → k ≠ .free → T.sc.names.lookup x = some k
  fn : ∀ x, T.raw.names.lookup x = some .cell → X.fn x = true
  calm : X.calm = true
  xe : X.xe = fun _ _ => False
  un : X.A.units + 65 < cLine
  blt : ∀ x ∈ bnames, X.mg x = none
  cst : ∀ x i, g.csts.lookup x = some i → ∃ t, X.mg x = some (.int i t)
  fns : ∀ (f : Nat) (x : Str) (sem : List Sl → Option R), g.fns[f]? = some x → G f = some sem → ∃ (k : Nat) (ad : Addr) (fd : FuncData) (ps : List Str),
    Room k X.A ∧ X.mg x = some (.ref ad) ∧ PySem.W.keepIn X.K (.ref ad) = true ∧ Binds X.K fd ps [] ∧ FnOk X.prog X.w X.K X.mg X.base CX0 k ad fd ps (spOf W sem)
  cls : ∀ (c : Nat) (x : Str) (fs : List Str), g.cls[c]? = some (x, fs) → X.mg x = some (.ref (W.cls c)) ∧ W.fld c = fs ∧ ClsK X.K (W.cls c) fs
  make : ∀ (c : Nat) (x : Str) (fs : List Str), g.cls[c]? = some (x, fs) → fs ≠ [] → ∃ (k : Nat) (ad : Addr) (fd : FuncData) (ps : List Str),
    Room (k + 1) X.A ∧ Mk X.K (W.cls c) ad ∧ Binds X.K fd ps [] ∧ FnOk X.prog X.w X.K X.mg X.base CX0 k ad fd ps (spInit (W.cls c) fs)
  meth : ∀ (c : Nat) (m : Str) (f : Nat) (sem : List Sl → Option R), g.meths.lookup (c, m) = some f → G f = some sem → ∃ (k : Nat) (ad : Addr) (fd : FuncData) (ps : List Str),
    Room k X.A ∧ Meth X.K (W.cls c) m ad ∧ Binds X.K fd ps [] ∧ FnOk X.prog X.w X.K X.mg X.base CX0 k ad fd ps (spOf W sem)
  isa : ∀ (c' c : Nat) (b : Bool), g.isa.lookup (c', c) = some b → PySem.W.kitOne X.K (.ref (W.cls c')) (.ref (W.cls c)) = some b
  fvs : ∀ (f : Nat) (x : Str), g.fvs.lookup f = some x → X.mg x = some (.ref (W.fn f)) ∧ PySem.W.keepIn X.K (.ref (W.fn f)) = true
  muts : ∀ (f : Nat) (x : Str) (sem : List Sl → Option R), g.muts.lookup f = some x → G f = some sem → ∃ (k : Nat) (ad : Addr) (fd : FuncData) (ps : List Str),
    Room k X.A ∧ X.mg x = some (.ref ad) ∧ PySem.W.keepIn X.K (.ref ad) = true ∧ Binds X.K fd ps [] ∧ FnOk X.prog X.w X.K X.mg X.base CX0 k ad fd ps (spM W sem)
  lam : ∀ (f : Nat) (sem : List Sl → Option R), f ∈ g.lams → G f = some sem → ∃ k : Nat, Room k X.A ∧ ∀ q params body scope, W.lam f q params body scope → LamOk X.prog X.w X.K X.mg X.base CX0 k q params body scope (spOf W sem)
  lamk : ∀ (j : Nat) (q : Str) (params : Arguments) (body : Expr) (scope : Scope), g.lamk j params body scope = true → W.lam j q params body scope ∧ (∀ env, defaultsOf params env = ([], [])) ∧ ∀ y ∈ scope.names, y.2 ≠ .free
  mkr : T.ml = true → ∃ c P, X.env.code = .ref c ∧ LamX.TabB X.base X.mg c P ∧ (P, X.env.qual ++ "<lambda>") ∈ W.T ∧ ∀ p ∈ W.T, p.1 = P → p.2 = X.env.qual ++ "<lambda>"

section
variable {W : Wd} {g : Gi} {G : Gm} {T : Tc} {X : Cx}
theorem Cok.vis (c : Cok W g G T X) {x : Str} (h : Mc.vis T x = true) : Vis X.env.scope x := by
  unfold Mc.vis at h
  rw [← c.sc] at h
  split at h
  · exact .inl (by assumption)
  · exact .inr (.inl (by assumption))
  · exact .inr (.inr (by assumption))
  · cases h
theorem Cok.gl (c : Cok W g G T X) {x : Str} (h : Mc.gl T x = true) : Gl X x := by
  unfold Mc.gl at h
  rw [← c.sc] at h
  split at h
  · assumption
  · cases h
theorem Cok.asg (c : Cok W g G T X) {x : Str} (h : asgn T x = true) : Loc X.env.scope x ∧ (X.fn x = true ∨ X.env.scope.names.lookup x = some .local) := by
  unfold asgn at h
  rw [c.sc]
  split at h
  · rename_i e
    have := c.rw x _ e (by decide)
    exact ⟨.inl this, .inr this⟩
  · rename_i e
    have := c.rw x _ e (by decide)
    exact ⟨.inr this, .inl (c.fn x e)⟩
  · cases h
theorem plain_dbg {x : Str} (h : plainName x = true) : (x == ("__debug__" : Str)) = false ∧ (x == ("__classdict__" : Str)) = false ∧ x ≠ "__name__" := by
  unfold plainName at h
  simp only [Bool.and_eq_true, Bool.not_eq_true'] at h
  exact ⟨h.1.1, h.1.2, by simpa using h.2⟩
theorem star_ok {e : Expr} {es : List Expr} {env : PySem.Env} (h : noStar e = true) : starEach (e :: es) env = (false, eval e env) :: starEach es env := by
  cases e <;> first | rfl | (simp [noStar] at h)
theorem noany {es : List Expr} {env : PySem.Env} {pos : Pos} (h : ∀ e ∈ es, noStar e = true) : (backTo pos (starEach es env)).any (·.1) = false := by
  induction es with
  | nil => rfl
  | cons e es ih =>
    rw [star_ok (h e List.mem_cons_self)]
    exact ih fun x hx => h x (List.mem_cons_of_mem _ hx)
theorem okEs_star : ∀ {es : Es} {xs : List Expr}, okEs g T es xs = true → ∀ x ∈ xs, noStar x = true
  | .nil, [], _, x, hx => by cases hx
  | .nil, _ :: _, h, _, _ => by simp [okEs] at h
  | .cons _ _, [], h, _, _ => by simp [okEs] at h
  | .cons e es, y :: ys, h, x, hx => by
    simp only [okEs, Bool.and_eq_true] at h
    rcases List.mem_cons.mp hx with rfl | hx
    · exact h.1.1
    · exact okEs_star h.2 x hx

/-! ### a block -/
theorem relS_keep {scope sc : Scope} {x : Str} {k : NameKind} (hk : k ≠ .free) (h : scope.names.lookup x = some k) : (relS scope sc).names.lookup x = some k := lookup_relS_keep hk h
theorem Cok.blk (c : Cok W g G T X) (scope : Scope) (s : Shared) (H : Hp) (C : Addr) (cl : List (Str × Addr)) (fp : List Addr) : Cok W g G (T.blk scope) (X.blk s H scope (compEnvC scope cl C X.env) fp) where
  K := c.K
  N := c.N
  nd := c.nd
  sc := by
    show relS scope X.env.scope = relS scope T.sc
    rw [c.sc]
  rw := fun x k h hk => relS_keep hk h
  fn := fun x h => by
    show (scope.names.lookup x == some .cell) = true
    rw [show scope.names.lookup x = some .cell from h]; rfl
  calm := c.calm
  xe := rfl
  un := c.un
  blt := c.blt
  cst := c.cst
  fns := c.fns
  cls := c.cls
  make := c.make
  meth := c.meth
  isa := c.isa
  fvs := c.fvs
  muts := c.muts
  lam := c.lam
  lamk := c.lamk
  mkr := c.mkr

/-! ### modes of reading -/
def tF (W : Wd) (Hin : Hp) (f : Env → Option R) : TE := fun σ H Q => ∃ env d, StR W Hin H σ env ∧ (f env).bind R.fz = some d ∧ ∀ v H', Same W H H' → Rep W H' d v → Q v H'
def tAr (W : Wd) (Hin : Hp) (f : Env → Option R) : TE := fun σ H Q => ∃ env r, StR W Hin H σ env ∧ f env = some r ∧ ∀ v H', Same W H H' → SlotR W H' H' r.arg v → Q v H'
theorem same_frz {W : Wd} {H H1 : Hp} {a : Addr} {o : HO} {xs : List V} (s : Same W H H1) (n : H a = none) (h : H1 a = some (.lst xs)) : Same W H (upd H1 a o) := s.updN n (.inr ⟨xs, h⟩)
theorem pe_frz {Hin : Hp} {e : Expr} {f : Env → Option R} (h : PE X e (tE W Hin f)) : PE X e (tF W Hin f) := by
  refine PE.mono (PE.freeze h) fun σ H Q ⟨env, d, st, e, q⟩ => ?_
  obtain ⟨r, e1, e2⟩ := Option.bind_eq_some_iff.mp e
  refine ⟨env, r, st, e1, fun v H' s rr => ?_⟩
  cases r with
  | val d' => cases e2; exact .inl (q v H' s rr)
  | fresh ds =>
    cases e2
    obtain ⟨a, vs, rfl, n, h1, r1⟩ := rr
    refine .inr ⟨a, vs, rfl, h1, fun o => q _ _ (same_frz s n h1) ?_⟩
    simp only [Rep]
    exact ⟨a, vs, rfl, .inl ⟨o, upd_same⟩, RepL.fx (FX.upd h1) _ _ r1⟩
  | vown ds => cases e2
  | vpar ds => cases e2
theorem pe_arg {Hin : Hp} {e : Expr} {f : Env → Option R} (h : PE X e (tE W Hin f)) : PE X e (tAr W Hin f) := by
  refine PE.mono (PE.freeze h) fun σ H Q ⟨env, r, st, e1, q⟩ => ?_
  refine ⟨env, r, st, e1, fun v H' s rr => ?_⟩
  cases r with
  | val d' => exact .inl (q v H' s rr)
  | fresh ds =>
    obtain ⟨a, vs, rfl, n, h1, r1⟩ := rr
    refine .inr ⟨a, vs, rfl, h1, fun o => q _ _ (same_frz s n h1) ?_⟩
    show Rep W _ (.lst ds) _
    simp only [Rep]
    exact ⟨a, vs, rfl, .inl ⟨o, upd_same⟩, RepL.fx (FX.upd h1) _ _ r1⟩
  | vown ds =>
    obtain ⟨a, vs, rfl, n, h1, r1⟩ := rr
    exact .inl (q _ _ s ⟨a, vs, rfl, h1, r1⟩)
  | vpar ds =>
    obtain ⟨a, vs, rfl, h1, r1⟩ := rr
    exact .inl (q _ _ s ⟨a, vs, rfl, (st.same.trans s).at _ _ h1, RepL.fx (.of_same (st.same.trans s)) _ _ r1⟩)
end
end Mc
namespace Mc
open PySem PySem.Spec PyProof.Rows L2
/-! ### enumerate(text) -/
def Ites (x : Str) : It :=
  ⟨fun i _ => i < x.cps.size, fun i H v H' => ∃ T c, v = .ref T ∧ H T = none ∧ H' = upd H T (.tup [.int (i : Nat), .str ⟨#[c]⟩]) ∧ x.cps[i]? = some c, fun i _ => x.cps.size ≤ i⟩
theorem turn_enumS {P : Program} {w : World} {K : PySem.W.Frag} {elts : List Expr} {kk : Nat} {tpos : Pos} (x : Str) (t : Tok) (e it : Addr) :
    Turn P w K (.Tuple elts kk tpos) (Ites x) [e, it] e (fun i h => i ≤ x.cps.size ∧ (∃ old, IsEnum h e it ((i : Nat) : Int) old) ∧ h.IsStrIter it (strIterType x) x t i ∧ e ≠ it) where
  mem := by simp
  obj := fun i h st b hb => by
    obtain ⟨_, ⟨old, he⟩, ⟨o, ho, hc, hd⟩, _⟩ := st
    have e' : b = e ∨ b = it := by simpa using hb
    rcases e' with z | z
    · rw [z]; exact ⟨_, he, fun v q => nomatch q⟩
    · rw [z]; exact ⟨o, ho, fun v q => by rw [hd] at q; cases q⟩
  keep := fun i h h' st k => by
    obtain ⟨hl, ⟨old, he⟩, ⟨o, ho, r⟩, hne⟩ := st
    exact ⟨hl, ⟨old, k e (by simp) _ he⟩, ⟨o, k it (by simp) o ho, r⟩, hne⟩
  item := by
    intro X hP hw hK hc i pins s σ H E I hf st hg
    subst hP hw hK
    obtain ⟨hl, ⟨old, he⟩, hit, hne⟩ := st
    have hh : X.A.handled = none := I.ok.hd hc
    have hel : e < s.heap.objs.size := Heap.lt_size he
    have hil : it < s.heap.objs.size := by obtain ⟨_, q, _⟩ := hit; exact Heap.lt_size q
    refine wpAny_pyNext_enum_itemD (Draws.text (A := X.A.in1) hh it x t) he hit hg hne (by simpa using hne) fun u h' tk hu ho hit' hT hsz hk => ?_
    obtain ⟨c, t', hcx, rfl⟩ := hu
    refine ⟨_, rfl, wpAny_letOwnedTupleGo_enum (s := { s with heap := h', toks := tk + 1 }) ho fun h'' he' sb => ?_⟩
    have hT2 : h''.get? s.heap.objs.size = some { cls := .type "tuple", data := .seq #[.int i tk, .str ⟨#[c]⟩ t'] } := (sb.2 _ (Nat.ne_of_gt hel)).trans hT
    have new : ObjOk X.prog X.w (upd H s.heap.objs.size (.tup [.int (i : Nat), .str ⟨#[c]⟩])) h'' s.heap.objs.size (.tup [.int (i : Nat), .str ⟨#[c]⟩]) :=
      ⟨by show 2 ≤ sizeLine; decide, [.int i tk, .str ⟨#[c]⟩ t'], .cons ⟨_, rfl⟩ (.cons ⟨_, rfl⟩ .nil), ⟨_, hT2, rfl, _, rfl⟩⟩
    have I1 : Inv X pins σ (upd H s.heap.objs.size (.tup [.int (i : Nat), .str ⟨#[c]⟩])) { s with heap := h'', toks := tk + 1 } :=
      I.turnedNew (ch := [e, it]) (fun b ob hb q => (sb.2 b (fun z => hb (by simp [z]))).trans (hk b ob (fun z => hb (by simp [z])) (fun z => hb (by simp [z])) q)) hf (Nat.le_refl _) new
    refine ⟨.ref s.heap.objs.size, _, I1, rfl, ⟨_, c, rfl, I.hok.fresh (Nat.le_refl _), rfl, hcx⟩, ⟨hg, ⟨.str ⟨#[c]⟩ t', ?_⟩, ?_, hne⟩, fun b hb => ?_⟩
    · have e1 : ((i + 1 : Nat) : Int) = (i : Int) + 1 := by omega
      rw [e1]; exact he'
    · obtain ⟨o, q, r⟩ := hit'
      exact ⟨o, (sb.2 it (Ne.symm hne)).trans q, r⟩
    · have hb' : b < s.heap.objs.size := by
        have e' : b = e ∨ b = it := by simpa using hb
        rcases e' with z | z
        · rw [z]; exact hel
        · rw [z]; exact hil
      rw [upd_ne (Nat.ne_of_lt hb')]
      exact (hf b hb).1
  done := by
    intro X hP hw hK hc i pins s σ H E I hf st hg
    subst hP hw hK
    obtain ⟨hl, ⟨old, he⟩, hit, hne⟩ := st
    have hg : x.cps.size ≤ i := hg
    have e0 : i = x.cps.size := by omega
    subst e0
    obtain ⟨f0, f1, f2, f3, f4, f5⟩ := hf it (by simp)
    exact wpAny_pyNext_enum_endD (Draws.text (A := X.A.in1) (I.ok.hd hc) it x t) he hit fun h' eb => ⟨rfl, I.turned (t' := s.toks) (fun b o hb q => eb b o hb q) f0 f1 f3 f4 f5⟩
  self := fun A i s Q E st h => let ⟨_, ⟨_, he⟩, _⟩ := st; wpAny_pyIter_enum he h
def iEnumS (ta : TA) : TI := fun σ H R => ta σ H fun vs H1 => ∃ x, vs = [.str x] ∧ R (Ites x) H1
theorem pi_enumS {X : Cx} {e : Expr} {ta : TA} {p pos tpos : Pos} {elts : List Expr} {kk : Nat} (hg : Gl X "enumerate") (hm : X.mg "enumerate" = none) (ha : PA X [e] ta) (hs : starEach [e] X.env = [(false, eval e X.env)] := by rfl) :
    PI X (.Tuple elts kk tpos) (.Call (.Name "enumerate" p) [e] [] pos) (iEnumS ta) := by
  refine ⟨fun pins s σ H R I h => ?_⟩
  refine Call_ (ld_blt I hg hm boot_enumerate (PyProof.Rows.callWith_type1 (thn (ha.run pos pins s σ H _ I h) fun us s1 ⟨vs, H1, I1, r1, q1⟩ => ?_) hs rfl))
  obtain ⟨x, ex, q⟩ := q1
  subst ex
  obtain ⟨u, rfl, t, rfl⟩ := vals1 r1
  refine call_enumerate_str fun h' he hit hsz hk => wpAny_pyIter_enum he ?_
  have I2 : Inv X pins σ H1 { s1 with heap := h' } := I1.kept (t' := s1.toks) hk
  refine ⟨s1.heap.objs.size + 1, [s1.heap.objs.size + 1, s1.heap.objs.size], _, _, H1, rfl, I2, turn_enumS x t (s1.heap.objs.size + 1) s1.heap.objs.size, ⟨Nat.zero_le _, ⟨.none, he⟩, hit, Nat.succ_ne_self _⟩, fun b hb => ?_, q⟩
  have e' : b = s1.heap.objs.size + 1 ∨ b = s1.heap.objs.size := by simpa using hb
  have hle : s1.heap.objs.size ≤ b := by
    rcases e' with z | z
    · rw [z]; exact Nat.le_add_right _ _
    · rw [z]; exact Nat.le_refl _
  exact I1.fpOk hle (I1.hok.fresh hle)
theorem walk_enumS {x : Str} : Walk (Ites x) x.cps.size (fun _ => True) (fun i H v H' => ∃ T c, v = .ref T ∧ H T = none ∧ H' = upd H T (.tup [.int (i : Nat), .str ⟨#[c]⟩]) ∧ x.cps[i]? = some c) :=
  ⟨fun _ _ hi _ => hi, fun _ _ => Nat.le_refl _, fun _ _ _ _ _ _ y => y⟩
end Mc
namespace Mc
open PySem PySem.Spec PyProof.Rows L2
/-! ### len(set(texts)) -/
def mkS (l : List Nat) : Str := ⟨⟨l⟩⟩
theorem mkS_inj {a b : List Nat} (h : mkS a = mkS b) : a = b := by cases h; rfl
theorem ddl_snoc : ∀ (l acc : List (List Nat)) (x : List Nat), ddl acc (l ++ [x]) = if (ddl acc l).contains x then ddl acc l else ddl acc l ++ [x]
  | [], acc, x => rfl
  | y :: l, acc, x => by simp only [List.cons_append, ddl]; exact ddl_snoc l _ x
theorem ddl_len : ∀ (l acc : List (List Nat)), (ddl acc l).length ≤ acc.length + l.length
  | [], acc => by simp [ddl]
  | y :: l, acc => by
    simp only [ddl, List.length_cons]
    by_cases h : acc.contains y = true
    · rw [if_pos h]
      have := ddl_len l acc
      omega
    · rw [if_neg h]
      have := ddl_len l (acc ++ [y])
      simp only [List.length_append, List.length_cons, List.length_nil] at this
      omega
/-- whether a key is among them -/
def amg (acc : List (List Nat)) (k : Str) : Bool := acc.any fun a => decide (k = mkS a)
theorem amg_has (acc : List (List Nat)) (x : List Nat) : amg acc (mkS x) = acc.contains x := by
  unfold amg
  induction acc with
  | nil => rfl
  | cons a r ih =>
    rw [List.any_cons, ih, List.contains_cons]
    congr 1
    by_cases h : x = a
    · subst h; simp
    · rw [decide_eq_false (fun z => h (mkS_inj z))]
      exact (beq_eq_false_iff_ne.mpr h).symm
theorem amg_snoc (acc : List (List Nat)) (x : List Nat) (k : Str) : amg (if acc.contains x then acc else acc ++ [x]) k = (amg acc k || decide (k = mkS x)) := by
  split
  · rename_i h
    by_cases e : k = mkS x
    · subst e; rw [amg_has, h]; rfl
    · rw [decide_eq_false e, Bool.or_false]
  · simp [amg]
section
variable {prog : Program} {w : World} {A : Around} {R' : Result → Shared → Prop} {J : Addr} {fp wr : List Addr} {Gg : Array GenState → Array GenState → Prop} {n : Nat} {Pp : Nat → Value → Prop} {Sx : Nat → Shared → Prop}
theorem set_turns (W : WalksS prog w A.in1 J fp wr Gg n Pp Sx) (S : Addr) (out : S ∉ fp) (xs : List (List Nat)) (hsz : xs.length = n) (few : n ≤ 4000)
    (val : ∀ i v, Pp i v → ∃ x t, xs[i]? = some x ∧ v = .str (mkS x) t) :
    ∀ (k i : Nat) (s : Shared), n - i = k → i ≤ n → Sx i s → s.heap.SetOf (PySem.strKind prog w) S (amg (ddl [] (xs.take i))) (ddl [] (xs.take i)).length →
      (∀ s', Moved (S :: wr) Gg s s' → s'.heap.SetOf (PySem.strKind prog w) S (amg (ddl [] xs)) (ddl [] xs).length → R' (.ok (.ret .none)) s') →
      codeAny (model prog w) A (.builtin "set.update.loop" ⟨[.ref S, .ref J], []⟩) R' s := by
  have outw : S ∉ wr := fun h => out (W.sub _ h)
  have more : ∀ b ∈ wr, b ∈ S :: wr := fun b hb => List.mem_cons_of_mem _ hb
  intro k
  induction k with
  | zero =>
    intro i s hk hi hst hS hR
    obtain rfl : i = n := by omega
    rw [List.take_of_length_le (by omega)] at hS
    (refine codeAny_builtin PyProof.Rows.F.entry_set_update_loop ?_; rw [Around.under_plainId PyProof.Rows.F.plain_set_update_loop _]; show wpAny _ A.in1 (pyNext (.ref J) >>= _) _ _ s)
    refine wpAny_bind (W.done s _ _ hst fun s1 hm => ?_)
    (show wpAny _ A.in1 (ret Value.none) _ _ s1; refine wpAny_pure (hR s1 (hm.mono more) ?_))
    obtain ⟨o, es, ep, t, ho, rest⟩ := hS
    exact ⟨o, es, ep, t, hm.heap S _ outw ho, rest⟩
  | succ k ih =>
    intro i s hk hi hst hS hR
    have lt : i < n := by omega
    (refine codeAny_builtin PyProof.Rows.F.entry_set_update_loop ?_; rw [Around.under_plainId PyProof.Rows.F.plain_set_update_loop _]; show wpAny _ A.in1 (pyNext (.ref J) >>= _) _ _ s)
    refine wpAny_bind (W.item i s _ _ lt hst fun v s1 hP hst1 hm => ?_)
    obtain ⟨x, t, hx, rfl⟩ := val i v hP
    have hS1 : s1.heap.SetOf (PySem.strKind prog w) S (amg (ddl [] (xs.take i))) (ddl [] (xs.take i)).length := by
      obtain ⟨o, es, ep, tb, ho, rest⟩ := hS
      exact ⟨o, es, ep, tb, hm.heap S _ outw ho, rest⟩
    (show wpAny _ A.in1 (holding [Value.str (mkS x) t] (setAdd S (.str (mkS x) t)) >>= _) _ _ s1; refine wpAny_bind (wpAny_holding ?_); unfold setAdd; refine wpAny_holding ?_)
    refine wpAny_bind ((PySem.strKind prog w).pyHash (k := mkS x) (strKind_is _ _ _ _) ?_)
    have room : (ddl [] (xs.take i)).length + 1 < scanBound := by
      have h1 := ddl_len (xs.take i) []
      simp only [List.length_nil, List.length_take] at h1
      unfold scanBound
      omega
    refine wpAny_setAddHashed_of (knd := PySem.strKind prog w) (s := { s1 with toks := s1.toks + 1 }) (strKind_is _ _ _ _) rfl hS1 room fun h2 hsb hS2 => ?_
    have etk : xs.take (i + 1) = xs.take i ++ [x] := by rw [List.take_add_one, hx]; rfl
    have hS3 : h2.SetOf (PySem.strKind prog w) S (amg (ddl [] (xs.take (i + 1)))) (ddl [] (xs.take (i + 1))).length := by
      refine SetOf_congr hS2 (fun k' => ?_) ?_
      · rw [etk, ddl_snoc, amg_snoc]
      · rw [etk, ddl_snoc, amg_has]
        split <;> simp
    refine wpAny_pure ⟨plainId_quiet PyProof.Rows.F.plain_set_update_loop _, ih (i + 1) _ (by omega) lt (W.frame _ s1 _ _ hst1 (Nat.le_succ _) fun b hb o e => ?_) hS3 fun s2 hm2 hS4 => ?_⟩
    · rw [hsb.2 b (fun z : b = S => out (by rw [← z]; exact hb))]; exact e
    · refine hR s2 (Moved.trans W.gtrans ((hm.mono more).then_heap (Nat.le_succ _) fun b o hb e => ?_) hm2) hS4
      rw [hsb.2 b (fun z : b = S => hb (by rw [z]; exact List.mem_cons_self))]; exact e
end
theorem strs_get : ∀ {xs : List (List Nat)} {us : List Value}, Vals (xs.map fun x => V.str (mkS x)) us → ∀ (i : Nat) (v : Value), us[i]? = some v → ∃ x t, xs[i]? = some x ∧ v = .str (mkS x) t
  | [], _, .nil, i, v, h => by simp at h
  | x :: xs, _, .cons r q, 0, v, h => by
    obtain ⟨t, rfl⟩ := r
    simp at h
    exact ⟨x, t, rfl, h.symm⟩
  | x :: xs, _, .cons r q, i + 1, v, h => by simpa using strs_get q i v (by simpa using h)
section
variable {prog : Program} {w : World} {A : Around} {E : Value → Shared → Prop} {s : Shared}
set_option maxHeartbeats 3200000 in
theorem set_made {l : Addr} {items : Array Value} {xs : List (List Nat)} {Q : Value → Shared → Prop} (hh : A.handled = none) (hl : s.heap.IsList l items) (hi : Vals (xs.map fun x => V.str (mkS x)) items.toList) (few : xs.length ≤ 4000)
    (h : ∀ (h' : Heap) (tk : Nat), h'.SetOf (PySem.strKind prog w) s.heap.objs.size (amg (ddl [] xs)) (ddl [] xs).length →
      (∀ b o, b < s.heap.objs.size → s.heap.get? b = some o → h'.get? b = some o) → Q (.ref s.heap.objs.size) { s with heap := h', toks := tk }) :
    wpAny (model prog w) A (call (.type "set") [.ref l]) Q E s := by
  obtain ⟨c, tl, mro⟩ := PySem.F.called_set.mro
  have made := PySem.F.called_set.made; have hsub := PySem.F.called_set.sub
  (refine wpAny_call (codeAny_of_tree ?_); show wpAny _ _ (callAny (.type "set") _) _ _ _; refine wpAny_pure ⟨Code.quiet_builtin _ (by decide +kernel), codeAny_builtin PySem.F.entry_type_call ?_⟩)
  rw [Around.under_plain (weight_type_call_type "set" [.ref l] []) rfl]
  have k1 := PySem.F.called_set.notType; have k2 := PySem.F.called_set.canCreate; have k3 := PySem.F.typeCall_set_1 (.ref l)
  repeat (any_goals (first | assumption | wp_step))
  let em (led : Bool) : Obj := { cls := .type "set", dict := none, data := .set #[] 0 (.fresh 0 0 led) }
  refine codeAny_mono (code_set_new_1 (.ref l) (E := E) (Q₁ := fun obj s₁ => ∃ led : Bool, obj = .ref s.heap.objs.size ∧ s₁ = { s with heap := s.heap.push (em led) }) fun led => ⟨led, rfl, rfl⟩) fun r s₁ hr => ?_
  cases r with
  | error e => exact hr
  | ok fl =>
    cases fl with
    | ret obj =>
      obtain ⟨led, rfl, rfl⟩ := hr
      have hS : (s.heap.push (em led)).get? s.heap.objs.size = some (em led) := Heap.get?_push_size _ rfl
      have hT : Shared.TypeIs { s with heap := s.heap.push (em led) } (.ref s.heap.objs.size) "set" := ⟨_, hS, rfl⟩
      have k4 := PySem.F.called_set.init.lookup; have k5 := PySem.F.called_set.init.bind (.ref s.heap.objs.size)
      repeat (any_goals (first | assumption | wp_step))
      refine codeAny_mono (codeAny_call_builtin (R := wants (fun r s₂ => r = .none ∧ ∃ h' tk, s₂ = { s with heap := h', toks := tk } ∧ h'.SetOf (PySem.strKind prog w) s.heap.objs.size (amg (ddl [] xs)) (ddl [] xs).length ∧
          (∀ b o, b < s.heap.objs.size → s.heap.get? b = some o → h'.get? b = some o)) E) PySem.F.called_set.init.plain PySem.F.entry_set_init (check_set_init_1 hT ?_)) fun r₂ s₂ hr₂ => ?_
      · obtain ⟨ol, hol, hcl, nl, hdl⟩ := hl
        obtain ⟨ocls, odict, odata, oslots⟩ := ol
        (simp only at hcl hdl; subst hcl; subst hdl)
        have hol1 : (s.heap.push (em led)).get? l = some { cls := .type "list", dict := odict, data := .seq items nl, slots := oslots } := Heap.get?_push_of_some _ hol
        have k6 := PySem.F.sub_list_set; have k7 := PySem.F.sub_list_frozenset
        have k8 : (Value.type "list" == Value.type "dict") = false := by decide
        have hl1 : (s.heap.push (em led)).IsList l items := ⟨_, hol1, rfl, nl, rfl⟩
        unfold Builtin.«set.__init__» noKeywords Builtin.Frozenset.updateFrom
        (generalize hPI : pyIter = PI; wp_walk; subst hPI)
        (refine wpAny_pyIter_list hl1 ?_; refine wpAny_bind (wpAny_runValue ?_))
        have hlS : l < s.heap.objs.size := Heap.lt_size hol
        have hh3 : A.in1.in1.in1.handled = none := by simp [hh]
        have esz : (s.heap.push (em led)).objs.size = s.heap.objs.size + 1 := by rw [Heap.size_push]
        have hneI : l ≠ (s.heap.push (em led)).objs.size := by rw [esz]; exact Nat.ne_of_lt (Nat.lt_succ_of_lt hlS)
        have hSf : s.heap.objs.size ∉ [(s.heap.push (em led)).objs.size, l] := by
          rw [esz]
          simp only [List.mem_cons, List.not_mem_nil, or_false, not_or]
          exact ⟨Nat.ne_of_lt (Nat.lt_succ_self _), Nat.ne_of_gt hlS⟩
        have hsz : xs.length = items.size := by rw [← Array.length_toList, ← hi.length, List.length_map]
        refine set_turns ((Walks.list hh3 _ l hneI items).toS) s.heap.objs.size hSf xs hsz (by omega) (fun i v hv => strs_get hi i v (by rw [Array.getElem?_toList]; exact hv)) (items.size - 0) 0 _ (by omega) (Nat.zero_le _)
          ⟨⟨_, Heap.get?_push_size _ rfl, rfl, rfl⟩, (hl1.push _)⟩ ?_ ?_
        · refine SetOf_congr ((PyProof.Rows.setObjOf_fresh (knd := PySem.strKind prog w) led).setOf (Heap.get?_push_of_some _ hS) (by unfold scanBound; omega)) (fun _ => rfl) rfl
        · intro s' hm hS'
          obtain ⟨h', g', d', tk', os'⟩ := s'
          (have eg : g' = s.gens := hm.gens; have ed : d' = s.drawn := hm.drawn; have eo : os' = s.os := hm.os; subst eg; subst ed; subst eo)
          (show wpAny _ _ _ _ _ _; refine wpAny_pure ?_; show wpAny _ _ (ret Value.none) _ _ _)
          refine wpAny_pure ⟨rfl, h', tk', rfl, hS', fun b o hb e => ?_⟩
          exact hm.heap b o (by rw [esz]; simp only [List.mem_cons, List.not_mem_nil, or_false, not_or]; exact ⟨Nat.ne_of_lt hb, Nat.ne_of_lt (Nat.lt_succ_of_lt hb)⟩) (Heap.get?_push_of_some _ (Heap.get?_push_of_some _ e))
      · cases r₂ with
        | error e => exact hr₂
        | ok fl₂ =>
          cases fl₂ with
          | ret r =>
            obtain ⟨rfl, h', tk, rfl, hS', hk'⟩ := hr₂
            (repeat (any_goals (first | assumption | wp_step)))
            exact h _ _ hS' hk'
          | _ => exact hr₂.elim
    | _ => exact hr.elim
end
def tLS (K : PySem.W.Frag) (ta : TE) : TE := fun σ H Q => ta σ H fun x H1 => ∃ (l : Addr) (xs : List (List Nat)), x = .ref l ∧ SqL K H1 l (xs.map fun x => V.str (mkS x)) ∧ xs.length ≤ 4000 ∧ Q (.int ((ddl [] xs).length : Nat)) H1
theorem pe_lenS {X : Cx} {a : Expr} {ta : TE} {p p2 q pos : Pos} (hc : X.calm = true) (hg : Gl X "len") (hm : X.mg "len" = none) (hg2 : Gl X "set") (hm2 : X.mg "set" = none) (ha : PE X a ta)
    (na : starEach [a] X.env = (false, eval a X.env) :: starEach [] X.env) : PE X (.Call (.Name "len" p) [.Call (.Name "set" p2) [a] [] q] [] pos) (tLS X.K ta) := by
  refine ⟨fun pins s σ H Q I h => ?_⟩
  (refine Call_ (ld_blt I hg hm boot_len ?_); refine PyProof.Rows.callWith_builtin1 (PyProof.Rows.args_cons ?_ rfl) rfl rfl; refine Call_ (ld_blt I hg2 hm2 boot_set ?_))
  refine PyProof.Rows.callWith_type1 (PyProof.Rows.args_cons (thn (ha.run pins s σ H _ I h) fun v s1 ⟨x, H1, I1, r1, q1⟩ => PyProof.Rows.args_nil ?_) na) na rfl
  obtain ⟨l, xs, rfl, hq, hl, q1⟩ := q1
  cases r1
  obtain ⟨its, r, pl, hz⟩ := I1.list hq
  refine set_made (I1.ok.hd hc) pl.isList (by simpa using r) hl fun h' tk hS hk => ?_
  refine PyProof.Rows.args_nil ?_
  obtain ⟨o, es, ep, t, ho, hex, hd, _, _, _, hf, hn⟩ := hS
  have I2 : Inv X pins σ H1 { s1 with heap := h', toks := tk } := I1.kept fun b o e => hk b o (Heap.lt_size e) e
  have few := ddl_len xs []
  simp only [List.length_nil] at few
  exact call_len_set ho hex hd hf (by rw [hn]; omega) ⟨.int (ddl [] xs).length, H1, I2.tok _, ⟨_, by rw [hn]⟩, q1⟩
end Mc
namespace Mc
open PySem PySem.Spec PyProof.Rows L2

/-! ### argument lists -/
def tV (W : Wd) (Hin : Hp) (f : Env → Option (List D)) : TA := fun σ H Q => ∃ env ds, StR W Hin H σ env ∧ f env = some ds ∧ ∀ vs H', Same W H H' → RepL W H' ds vs → Q vs H'
def tD (W : Wd) (Hin : Hp) (f : Env → Option (List D)) : TA := fun σ H Q => ∃ env ds, StR W Hin H σ env ∧ f env = some ds ∧ ∀ vs H', Same W H H' → RepTL W H' ds vs → Q vs H'
def tAA (W : Wd) (Hin : Hp) (f : Env → Option (List Sl)) : TA := fun σ H Q => ∃ env ds, StR W Hin H σ env ∧ f env = some ds ∧ ∀ vs H', Same W H H' → ArgL W H' ds vs → Q vs H'
def tO (W : Wd) (Hin : Hp) (f : Env → Option (Option Int)) : TO := fun σ H Q => ∃ env o, StR W Hin H σ env ∧ f env = some o ∧ ∀ H', Same W H H' → Q o H'
def SlM (W : Wd) (H H' : Hp) (v : V) : Sl → Prop
  | .fz d => Rep W H' d v
  | .own ds => ∃ a ws, v = .ref a ∧ H a = none ∧ H' a = some (.lst ws) ∧ RepL W H' ds ws
  | .vw _ => False
def RelM (W : Wd) : Hp → Hp → List V → List Sl → Prop
  | H, H', [], [] => Same W H H'
  | H, H', v :: vs, s :: ss => ∃ H1, Same W H H1 ∧ Same W H1 H' ∧ SlM W H H1 v s ∧ RelM W H1 H' vs ss
  | _, _, _, _ => False
def tM (W : Wd) (Hin : Hp) (f : Env → Option (List Sl)) : TA := fun σ H Q => ∃ env rs, StR W Hin H σ env ∧ f env = some rs ∧ ∀ vs H', RelM W H H' vs rs → Q vs H'
theorem RelM.same {W : Wd} : ∀ {H H' : Hp} {vs : List V} {rs : List Sl}, RelM W H H' vs rs → Same W H H'
  | _, _, [], [], h => h
  | _, _, _ :: _, _ :: _, ⟨_, a, b, _, _⟩ => a.trans b
  | _, _, [], _ :: _, h => h.elim
  | _, _, _ :: _, [], h => h.elim
theorem ArgL.mono {W : Wd} {H H' : Hp} (s : Same W H H') : ∀ {ss : List Sl} {vs : List V}, ArgL W H ss vs → ArgL W H' ss vs
  | _, _, .nil h => .nil (Tabs.same s h)
  | _, _, .cons (s := sl) r n t => by
    refine .cons ?_ n (t.mono s)
    cases sl with
    | fz d => exact Rep.fx (.of_same s) _ _ r
    | own ds => exact absurd rfl (n ds)
    | vw ds => obtain ⟨a, vs, e, h, q⟩ := r; exact ⟨a, vs, e, s.at _ _ h, RepL.fx (.of_same s) _ _ q⟩
theorem arg_noown (r : R) : ∀ ds, r.arg ≠ .own ds := fun ds h => by cases r <;> cases h

/-! ### what is walked -/
/-- as long as C holds of the heap, the iterator hands out these things one by one -/
structure WalkD (W : Wd) (C : Hp → Prop) (J : It) (items : List D) : Prop where
  ex : ∃ (n : Nat) (G : Hp → Prop) (Y : Nat → Hp → V → Hp → Prop), n = items.length ∧ Walk J n G Y ∧ (∀ H', C H' → G H') ∧
    ∀ (i : Nat) (H : Hp) (x : V) (H' : Hp), C H → i < n → Y i H x H' → Same W H H' ∧ ∃ d, items[i]? = some d ∧ Rep W H' d x
/-- the source as it stands for a comprehension -/
def tI (W : Wd) (Hin : Hp) (f : Env → Option (List D)) : TI := fun σ H R => ∃ env items, StR W Hin H σ env ∧ f env = some items ∧ ∀ J H1, Same W H H1 → WalkD W (Same W H1) J items → R J H1

section
variable {W : Wd} {C : Hp → Prop}
theorem walkD_list {a : Addr} {ds : List D} {vs : List V} {H0 : Hp} (hC : ∀ H, C H → SqL W.K H a vs ∧ FX H0 H) (r : RepL W H0 ds vs) : WalkD W C (Itl W.K a) ds :=
  ⟨vs.length, _, _, r.length.symm, walk_list (xs := vs), fun H' h => (hC H' h).1, fun i H x H' h hi y => by
    obtain ⟨rfl, y⟩ := y
    obtain ⟨d, e1, e2⟩ := r.get' y
    exact ⟨.refl _, d, e1, Rep.fx (hC _ h).2 _ _ e2⟩⟩
theorem walkD_tup {a : Addr} {ds : List D} {vs : List V} {H0 : Hp} (hC : ∀ H, C H → SqT W.K H a vs ∧ FX H0 H) (r : RepL W H0 ds vs) : WalkD W C (Itt W.K a) ds :=
  ⟨vs.length, _, _, r.length.symm, walk_tup (xs := vs), fun H' h => (hC H' h).1, fun i H x H' h hi y => by
    obtain ⟨rfl, y⟩ := y
    obtain ⟨d, e1, e2⟩ := r.get' y
    exact ⟨.refl _, d, e1, Rep.fx (hC _ h).2 _ _ e2⟩⟩
theorem walkD_str (l : List Nat) : WalkD W C (Its ⟨⟨l⟩⟩) (l.map fun c => .str [c]) :=
  ⟨l.length, _, _, (List.length_map _).symm, walk_str (z := ⟨⟨l⟩⟩), fun _ _ => trivial, fun i H x H' h hi y => by
    obtain ⟨rfl, c, h1, rfl⟩ := y
    have h1 : l[i]? = some c := by simpa using h1
    exact ⟨.refl _, .str [c], by rw [List.getElem?_map, h1]; rfl, rep_str⟩⟩
theorem rangeD_len (lo : Int) (n : Nat) (c : Int) : (rangeD lo n c).length = n := by simp [rangeD]
theorem rangeD_get {lo : Int} {n : Nat} {c : Int} {i : Nat} (h : i < n) : (rangeD lo n c)[i]? = some (.int (lo + (i : Int) * c)) := by
  simp [rangeD, List.getElem?_range h]
theorem walkD_rng (lo : Int) (n : Nat) : WalkD W C (Itr lo n) (rangeD lo n 1) :=
  ⟨n, _, _, (rangeD_len _ _ _).symm, walk_range (lo := lo) (n := n), fun _ _ => trivial, fun i H x H' h hi y => by
    obtain ⟨rfl, rfl⟩ := y
    refine ⟨.refl _, _, rangeD_get hi, ?_⟩
    rw [Int.mul_one]
    exact rep_int⟩
theorem walkD_rngC (lo c : Int) (n : Nat) : WalkD W C (Itc lo c n) (rangeD lo n c) :=
  ⟨n, _, _, (rangeD_len _ _ _).symm, walk_rangeC (lo := lo) (c := c) (n := n), fun _ _ => trivial, fun i H x H' h hi y => by
    obtain ⟨rfl, rfl⟩ := y
    exact ⟨.refl _, _, rangeD_get hi, rep_int⟩⟩
theorem enumD_len : ∀ (k : Int) (ds : List D), (enumD k ds).length = ds.length
  | _, [] => rfl
  | k, d :: r => by simp [enumD, enumD_len (k + 1) r]
theorem enumD_get : ∀ (k : Int) (ds : List D) (i : Nat), (enumD k ds)[i]? = (ds[i]?).map fun d => D.tup [.int (k + (i : Int)), d]
  | _, [], _ => by simp [enumD]
  | k, d :: r, 0 => by simp [enumD]
  | k, d :: r, i + 1 => by
    simp only [enumD, List.getElem?_cons_succ, enumD_get (k + 1) r i]
    congr 1
    funext d
    congr 3
    omega
theorem pair_rep {H : Hp} {T : Addr} {x y : V} {a b : D} (n : H T = none) (h1 : Rep W H a x) (h2 : Rep W H b y) : Rep W (upd H T (.tup [x, y])) (.tup [a, b]) (.ref T) := by
  have s := same_new (W := W) (o := .tup [x, y]) n
  simp only [Rep]
  exact ⟨T, [x, y], rfl, .inl (.inl upd_same), .cons (Rep.fx (.of_same s) _ _ h1) (.cons (Rep.fx (.of_same s) _ _ h2) .nil)⟩
theorem walkD_enum {a : Addr} {ds : List D} {vs : List V} {H0 : Hp} (hC : ∀ H, C H → SqL W.K H a vs ∧ FX H0 H) (r : RepL W H0 ds vs) : WalkD W C (Ite W.K a) (enumD 0 ds) :=
  ⟨vs.length, _, _, by rw [enumD_len, r.length], walk_enum (xs := vs), fun H' h => (hC H' h).1, fun i H x H' h hi y => by
    obtain ⟨T, x1, y1, rfl, n, rfl, e1, e2⟩ := y
    have e1 : V.int ((i : Nat) : Int) = x1 := by simpa using e1
    obtain ⟨d, e3, e4⟩ := r.get' e2
    refine ⟨same_new n, _, by rw [enumD_get, e3]; rfl, pair_rep n ?_ (Rep.fx (hC _ h).2 _ _ e4)⟩
    rw [← e1, Int.zero_add]; exact rep_int⟩
theorem walkD_enumS (l : List Nat) : WalkD W C (Ites ⟨⟨l⟩⟩) (enumD 0 (l.map fun c => .str [c])) :=
  ⟨l.length, _, _, by rw [enumD_len, List.length_map], walk_enumS (x := ⟨⟨l⟩⟩), fun _ _ => trivial, fun i H x H' h hi y => by
    obtain ⟨T, c, rfl, n, rfl, e1⟩ := y
    have e1 : l[i]? = some c := by simpa using e1
    refine ⟨same_new n, _, by rw [enumD_get, List.getElem?_map, e1]; rfl, pair_rep n ?_ rep_str⟩
    rw [Int.zero_add]; exact rep_int⟩
theorem zipD_len : ∀ (a b : List D), (zipD a b).length = min a.length b.length
  | [], _ => by simp [zipD]
  | _ :: _, [] => by simp [zipD]
  | x :: r, y :: t => by simp [zipD, zipD_len r t]
theorem zipD_get : ∀ (a b : List D) (i : Nat) (x y : D), a[i]? = some x → b[i]? = some y → (zipD a b)[i]? = some (.tup [x, y])
  | [], _, _, _, _, h, _ => by simp at h
  | _ :: _, [], _, _, _, _, h => by simp at h
  | x :: r, y :: t, 0, _, _, h, g => by simp at h g; subst h g; rfl
  | x :: r, y :: t, i + 1, _, _, h, g => by simpa [zipD] using zipD_get r t i _ _ (by simpa using h) (by simpa using g)
theorem walkD_zip {a b : Addr} {ds es : List D} {vs ws : List V} {H0 : Hp} (hC : ∀ H, C H → (SqL W.K H a vs ∧ SqL W.K H b ws) ∧ FX H0 H) (r : RepL W H0 ds vs) (r2 : RepL W H0 es ws) : WalkD W C (Itz W.K a b) (zipD ds es) :=
  ⟨min vs.length ws.length, _, _, by rw [zipD_len, r.length, r2.length], walk_zip (xs := vs) (ys := ws) rfl, fun H' h => (hC H' h).1, fun i H x H' h hi y => by
    obtain ⟨T, x1, y1, rfl, n, rfl, e1, e2⟩ := y
    obtain ⟨d, e3, e4⟩ := r.get' e1
    obtain ⟨d2, e5, e6⟩ := r2.get' e2
    exact ⟨same_new n, _, zipD_get _ _ _ _ _ e3 e5, pair_rep n (Rep.fx (hC _ h).2 _ _ e4) (Rep.fx (hC _ h).2 _ _ e6)⟩⟩
end

/-! ### targets -/
section
variable {W : Wd} {g : Gi} {G : Gm} {T : Tc} {X : Cx}
def gT (K : PySem.W.Frag) : Tg → TG
  | .nm i => gName i
  | .tp is => gTup K is.length (gNms is)
where gNms : List Nat → TGs
  | [] => gNil
  | i :: is => gCons (gName i) (gNms is)
theorem pgs_nms (c : Cok W g G T X) : ∀ {is : List Nat} {ts : List Expr}, okTg.okTgs T is ts = true → PGs X ts (gT.gNms is) ∧ ts.length = is.length ∧ (assignEach ts X.env).length = is.length ∧ (assignEach ts X.env).findIdx? (·.1) = none
  | [], [], _ => ⟨pgs_nil, rfl, rfl, rfl⟩
  | [], _ :: _, h => by simp [okTg.okTgs] at h
  | _ :: _, [], h => by simp [okTg.okTgs] at h
  | i :: is, e :: ts, h => by
    cases e <;> simp only [okTg.okTgs, Bool.and_eq_true, decide_eq_true_eq] at h <;> try (cases h; done)
    obtain ⟨⟨h1, h2⟩, h3⟩ := h
    obtain ⟨a, b, c1, d⟩ := pgs_nms c h3
    obtain ⟨l1, l2⟩ := c.asg h2
    refine ⟨pgs_cons (pg_name (i := i) (by rw [c.N]; exact c.nd) (by rw [c.N]; exact h1) l1 l2) a, by simp [b], ?_, ?_⟩
    · show (assignEach ts X.env).length + 1 = _
      rw [c1]; rfl
    · show List.findIdx? _ ((false, _) :: assignEach ts X.env) = none
      rw [List.findIdx?_cons]
      simp [d]
theorem pg_tg (c : Cok W g G T X) {tg : Tg} {t : Expr} (h : okTg T tg t = true) : PG X t (gT X.K tg) := by
  cases tg with
  | nm i =>
    cases t <;> simp only [okTg, Bool.and_eq_true, decide_eq_true_eq] at h <;> try (cases h; done)
    obtain ⟨l1, l2⟩ := c.asg h.2
    exact pg_name (i := i) (by rw [c.N]; exact c.nd) (by rw [c.N]; exact h.1) l1 l2
  | tp is =>
    cases t <;> simp only [okTg] at h <;> try (cases h; done)
    obtain ⟨a, b, c1, d⟩ := pgs_nms c h
    exact pg_tup c.calm a c1 d

theorem tup_of {tg : Tg} {t : Expr} (h : okTg T tg t = true) (k : tg.isTp = true) : ∃ elts k pos, t = .Tuple elts k pos := by
  cases tg with
  | nm i => cases k
  | tp is => cases t <;> first | exact ⟨_, _, _, rfl⟩ | (simp only [okTg] at h; cases h)

/-! ### states under stores -/
theorem setE_get {env : Env} {i j : Nat} {s s' : Sl} (h : (setE env i s)[j]? = some (some s')) : (j = i ∧ s' = s ∧ i < env.length) ∨ (j ≠ i ∧ env[j]? = some (some s')) := by
  unfold setE at h
  by_cases e : i = j
  · subst e
    by_cases hl : i < env.length
    · rw [List.getElem?_set_self hl] at h
      simp only [Option.some.injEq] at h
      exact .inl ⟨rfl, h.symm, hl⟩
    · rw [List.getElem?_eq_none (by simpa using hl)] at h; cases h
  · rw [List.getElem?_set_ne e] at h
    exact .inr ⟨fun z => e z.symm, h⟩
theorem StR.setFz {Hin H : Hp} {σ : L2.St} {env : Env} {i : Nat} {d : D} {v : V} (st : StR W Hin H σ env) (r : Rep W H d v) : StR W Hin H (σ.set i (some v)) (setE env i (.fz d)) := by
  refine ⟨st.same, fun j s h => ?_, fun j k ds es a hjk h1 h2 h3 h4 => ?_, by unfold setE; rw [List.length_set, List.length_set, st.len], st.tab⟩
  · rcases setE_get h with ⟨rfl, rfl, hlt⟩ | ⟨hj, h⟩
    · exact ⟨v, by rw [List.getElem?_set_self (by rw [← st.len]; exact hlt)], r⟩
    · obtain ⟨w, e1, e2⟩ := st.rel j s h
      exact ⟨w, by rw [List.getElem?_set_ne (Ne.symm hj)]; exact e1, e2⟩
  · rcases setE_get h1 with ⟨rfl, z, _⟩ | ⟨hj, h1⟩
    · cases z
    · rcases setE_get h2 with ⟨rfl, z, _⟩ | ⟨hk, h2⟩
      · cases z
      · rw [List.getElem?_set_ne (Ne.symm hj)] at h3
        rw [List.getElem?_set_ne (Ne.symm hk)] at h4
        exact st.dis j k ds es a hjk h1 h2 h3 h4
/-- the slots but these are as they were -/
def But (is : List Nat) (σ σ' : L2.St) : Prop := σ'.length = σ.length ∧ ∀ j, j ∉ is → σ'[j]? = σ[j]?
theorem But.refl (is : List Nat) (σ : L2.St) : But is σ σ := ⟨rfl, fun _ _ => rfl⟩
theorem But.trans {is : List Nat} {σ σ1 σ2 : L2.St} (a : But is σ σ1) (b : But is σ1 σ2) : But is σ σ2 := ⟨b.1.trans a.1, fun j h => (b.2 j h).trans (a.2 j h)⟩
theorem But.set {is : List Nat} {σ : L2.St} {i : Nat} {v : Option V} (h : i ∈ is) : But is σ (σ.set i v) := ⟨List.length_set, fun j hj => List.getElem?_set_ne fun (z : i = j) => hj (by rw [← z]; exact h)⟩
theorem But.mono {is js : List Nat} {σ σ' : L2.St} (h : But is σ σ') (s : ∀ i ∈ is, i ∈ js) : But js σ σ' := ⟨h.1, fun j hj => h.2 j fun z => hj (s j z)⟩
theorem gNms_ok {K : PySem.W.Frag} {Hin H : Hp} {Q : L2.St → Hp → Prop} : ∀ {is : List Nat} {ds : List D} {vs : List V} {σ : L2.St} {env env' : Env}, StR W Hin H σ env → RepL W H ds vs → setAll env is ds = some env' →
    (∀ σ', But is σ σ' → StR W Hin H σ' env' → Q σ' H) → gT.gNms is vs σ H Q
  | [], [], vs, σ, env, env', st, r, e, q => by
    simp only [RepL] at r; subst r
    cases e
    exact ⟨rfl, q σ (.refl _ _) st⟩
  | [], _ :: _, _, _, _, _, _, _, e, _ => by simp [setAll] at e
  | _ :: _, [], _, _, _, _, _, _, e, _ => by simp [setAll] at e
  | i :: is, d :: ds, vs, σ, env, env', st, r, e, q => by
    simp only [RepL] at r
    obtain ⟨v, w, rfl, r1, r2⟩ := r
    refine ⟨v, w, rfl, ?_⟩
    exact gNms_ok (K := K) (st.setFz (i := i) r1) r2 e fun σ' b s' => q σ' (.trans (.set List.mem_cons_self) (b.mono fun j hj => List.mem_cons_of_mem _ hj)) s'
theorem gT_ok {Hin H : Hp} {Q : L2.St → Hp → Prop} {tg : Tg} {d : D} {v : V} {σ : L2.St} {env env' : Env} (st : StR W Hin H σ env) (r : Rep W H d v) (e : bindT tg d env = some env')
    (q : ∀ σ', But tg.slots σ σ' → StR W Hin H σ' env' → Q σ' H) : gT W.K tg v σ H Q := by
  cases tg with
  | nm i =>
    cases e
    exact q _ (.set (by simp [Tg.slots])) (st.setFz r)
  | tp is =>
    cases d <;> simp only [bindT] at e <;> try (cases e; done)
    simp only [Rep] at r
    obtain ⟨a, vs, rfl, r1, r2⟩ := r
    rename_i ds
    have hl : ∀ (is : List Nat) (ds : List D) (env env' : Env), setAll env is ds = some env' → ds.length = is.length := by
      intro is
      induction is with
      | nil => intro ds env env' h; cases ds with | nil => rfl | cons _ _ => simp [setAll] at h
      | cons i is ih => intro ds env env' h; cases ds with | nil => simp [setAll] at h | cons x xs => simp [ih xs _ _ h]
    exact ⟨a, vs, rfl, r1, by rw [← r2.length]; exact hl _ _ _ _ e, gNms_ok (K := W.K) st r2 e q⟩

/-! ### wiped slots -/
theorem wipe_get {σ : L2.St} : ∀ (vs : List Nat) (j : Nat), (wipe σ vs)[j]? = if j ∈ vs ∧ j < σ.length then some none else σ[j]?
  | [], j => by simp [wipe]
  | v :: vs, j => by
    unfold wipe
    by_cases e : v = j
    · subst e
      by_cases hl : v < σ.length
      · rw [List.getElem?_set_self (by rw [wipe_length]; exact hl), if_pos ⟨List.mem_cons_self, hl⟩]
      · rw [List.getElem?_eq_none (by simp [wipe_length]; omega), if_neg (fun z => hl z.2), List.getElem?_eq_none (by omega)]
    · rw [List.getElem?_set_ne e, wipe_get vs j]
      have : (j ∈ v :: vs) ↔ j ∈ vs := by
        simp only [List.mem_cons]
        exact ⟨fun h => h.elim (fun z => absurd z.symm e) id, .inr⟩
      simp only [this]
theorem wipe_but {σ σ2 : L2.St} {vs : List Nat} (h : But vs (wipe σ vs) σ2) : wipe σ2 vs = wipe σ vs := by
  apply List.ext_getElem?
  intro j
  rw [wipe_get, wipe_get]
  have hl : σ2.length = σ.length := by rw [h.1, wipe_length]
  by_cases hj : j ∈ vs
  · by_cases hlt : j < σ.length
    · rw [if_pos ⟨hj, by omega⟩, if_pos ⟨hj, hlt⟩]
    · rw [if_neg (fun z => hlt (by omega)), if_neg (fun z => hlt z.2), List.getElem?_eq_none (by omega), List.getElem?_eq_none (by omega)]
  · rw [if_neg (fun z => hj z.1), if_neg (fun z => hj z.1), h.2 j hj, wipe_get, if_neg (fun z => hj z.1)]
theorem wipeE_len {env : Env} : ∀ (vs : List Nat), (wipeE env vs).length = env.length
  | [] => rfl
  | v :: vs => by unfold wipeE; rw [List.length_set, wipeE_len vs]
theorem wipeE_get {env : Env} {s : Sl} : ∀ (vs : List Nat) (j : Nat), (wipeE env vs)[j]? = some (some s) → j ∉ vs ∧ env[j]? = some (some s)
  | [], j, h => ⟨by simp, h⟩
  | v :: vs, j, h => by
    unfold wipeE at h
    by_cases e : v = j
    · subst e
      by_cases hl : v < (wipeE env vs).length
      · rw [List.getElem?_set_self hl] at h; simp at h
      · rw [List.getElem?_eq_none (by simpa using hl)] at h; cases h
    · rw [List.getElem?_set_ne e] at h
      obtain ⟨h1, h2⟩ := wipeE_get vs j h
      exact ⟨by simp only [List.mem_cons, not_or]; exact ⟨fun z => e z.symm, h1⟩, h2⟩
theorem StR.wipe {Hin H : Hp} {σ : L2.St} {env : Env} (st : StR W Hin H σ env) (vs : List Nat) : StR W Hin H (L2.wipe σ vs) (wipeE env vs) := by
  refine ⟨st.same, fun j s h => ?_, fun j k ds es a hjk h1 h2 h3 h4 => ?_, by rw [wipeE_len, wipe_length, st.len], st.tab⟩
  · obtain ⟨hj, h⟩ := wipeE_get vs j h
    obtain ⟨w, e1, e2⟩ := st.rel j s h
    exact ⟨w, by rw [wipe_get, if_neg (fun z => hj z.1)]; exact e1, e2⟩
  · obtain ⟨hj, h1⟩ := wipeE_get vs j h1
    obtain ⟨hk, h2⟩ := wipeE_get vs k h2
    rw [wipe_get, if_neg (fun z => hj z.1)] at h3
    rw [wipe_get, if_neg (fun z => hk z.1)] at h4
    exact st.dis j k ds es a hjk h1 h2 h3 h4
end
end Mc
namespace Mc
open PySem PySem.Spec PyProof.Rows L2

section
variable {W : Wd} {g : Gi} {G : Gm}

theorem rel_int {Hin H H' : Hp} {i : Int} : RelR W Hin H H' (.int i) (.val (.int i)) := (rep_int : Rep W H' _ _)
theorem rel_bl {Hin H H' : Hp} {i : Bool} : RelR W Hin H H' (.bl i) (.val (.bl i)) := (rep_bl : Rep W H' _ _)
theorem rel_blE {Hin H H' : Hp} {i : Bool} {v : V} (h : RelR W Hin H H' v (.val (.bl i))) : v = .bl i := by simpa [RelR, Rep] using h
theorem rel_intE {Hin H H' : Hp} {i : Int} {v : V} (h : RelR W Hin H H' v (.val (.int i))) : v = .int i := by simpa [RelR, Rep] using h
theorem PI.or {X : Cx} {tg e : Expr} {t u : TI} (h : PI X tg e t) (k : PI X tg e u) : PI X tg e (fun σ H R => t σ H R ∨ u σ H R) :=
  ⟨fun pins s σ H R I w => w.elim (h.run pins s σ H R I) (k.run pins s σ H R I)⟩
theorem PE.or {X : Cx} {e : Expr} {t u : TE} (h : PE X e t) (k : PE X e u) : PE X e (fun σ H R => t σ H R ∨ u σ H R) :=
  ⟨fun pins s σ H R I w => w.elim (h.run pins s σ H R I) (k.run pins s σ H R I)⟩
theorem pt_of {X : Cx} {Hin : Hp} {e : Expr} {f : Env → Option R} (h : PE X e (tE W Hin f)) (he : ∀ whole, isTrue e X.env whole = (do let v ← whole; standAt e.pos; holding [v] (truthy v))) : PT X e (tT W Hin f) :=
  PT.mono (pt_val h he) fun σ H Q ⟨env, b, st, e, q⟩ => ⟨env, _, st, e, fun v H' s r => ⟨b, by simpa [RelR, Rep] using r, q H' s⟩⟩
theorem se_fin {X : Cx} {Hin : Hp} {pe : Expr} {e : E} (h : PE X pe (tE W Hin (ev G e))) (he : ∀ whole, isTrue pe X.env whole = (do let v ← whole; standAt pe.pos; holding [v] (truthy v))) :
    PE X pe (tE W Hin (ev G e)) ∧ (tst e = true → PT X pe (tT W Hin (ev G e))) := ⟨h, fun _ => pt_of h he⟩

def tCd (W : Wd) (Hin : Hp) (f : Env → Option Bool) : TT := fun σ H Q => ∃ env b, StR W Hin H σ env ∧ f env = some b ∧ ∀ H', Same W H H' → Q b H'
/-- an expression keeps its word -/
def SE (W : Wd) (g : Gi) (G : Gm) (e : E) : Prop := ∀ (Hin : Hp) (T : Tc) (X : Cx) (pe : Expr), okE g T e pe = true → Cok W g G T X →
  PE X pe (tE W Hin (ev G e)) ∧ (tst e = true → PT X pe (tT W Hin (ev G e)))
structure SEs (W : Wd) (g : Gi) (G : Gm) (es : Es) : Prop where
  v : ∀ (Hin : Hp) (T : Tc) (X : Cx) (xs : List Expr), okEs g T es xs = true → Cok W g G T X → PA X xs (tV W Hin (evV G es))
  d : ∀ (Hin : Hp) (T : Tc) (X : Cx) (xs : List Expr), okEs g T es xs = true → Cok W g G T X → PA X xs (tD W Hin (evD G es))
  a : ∀ (Hin : Hp) (T : Tc) (X : Cx) (xs : List Expr), okEs g T es xs = true → Cok W g G T X → PA X xs (tAA W Hin (evA G es))
  r : ∀ (ms : List Bool) (Hin : Hp) (T : Tc) (X : Cx) (xs : List Expr), okEs g T es xs = true → Cok W g G T X → PA X xs (tM W Hin (evM G es ms))
  andE : ∀ (Hin : Hp) (T : Tc) (X : Cx) (x : Expr) (xs : List Expr) (pos : Pos), okEs g T es (x :: xs) = true → Cok W g G T X → PE X (.BoolOp .And (x :: xs) pos) (tE W Hin (evAnd G es))
  orE : ∀ (Hin : Hp) (T : Tc) (X : Cx) (x : Expr) (xs : List Expr) (pos : Pos), okEs g T es (x :: xs) = true → Cok W g G T X → PE X (.BoolOp .Or (x :: xs) pos) (tE W Hin (evOr G es))
  andT : ∀ (Hin : Hp) (T : Tc) (X : Cx) (x : Expr) (xs : List Expr) (pos : Pos), okEs g T es (x :: xs) = true → es.tst = true → Cok W g G T X → PW X (.BoolOp .And (x :: xs) pos) (tT W Hin (evAnd G es))
  orT : ∀ (Hin : Hp) (T : Tc) (X : Cx) (x : Expr) (xs : List Expr) (pos : Pos), okEs g T es (x :: xs) = true → es.tst = true → Cok W g G T X → PW X (.BoolOp .Or (x :: xs) pos) (tT W Hin (evOr G es))
structure SO (W : Wd) (g : Gi) (G : Gm) (oe : Oe) : Prop where
  o : ∀ (Hin : Hp) (T : Tc) (X : Cx) (p : Option Expr), okO g T oe p = true → Cok W g G T X → PO X p (tO W Hin (evO G oe))
  c : ∀ (Hin : Hp) (T : Tc) (X : Cx) (p : List Expr), okIf g T oe p = true → Cok W g G T X → PTs X p (tCd W Hin (evC G oe))
def SS (W : Wd) (g : Gi) (G : Gm) (s : Src) : Prop := ∀ (Hin : Hp) (T : Tc) (X : Cx) (tg pe : Expr), okSrc g T s pe = true → Cok W g G T X → (okNm s = true ∨ ∃ elts k pos, tg = .Tuple elts k pos) → PI X tg pe (tI W Hin (evS G s))

/-! #### one constructor after another -/
theorem se_slot (i : Nat) : SE W g G (.slot i) := by
  intro Hin T X pe h c
  cases pe <;> try (simp only [okE] at h; cases h; done)
  simp only [okE, Bool.and_eq_true, decide_eq_true_eq] at h
  obtain ⟨⟨h1, h2⟩, h3⟩ := h
  have pd := plain_dbg h3
  refine se_fin (PE.mono (pe_var (X := X) (i := i) (by rw [c.N]; exact h1) (c.vis h2) pd.1 pd.2.1) fun σ H Q ⟨env, r, st, e, q⟩ => ?_) (fun _ => rfl)
  simp only [ev] at e
  split at e
  · rename_i d hd
    cases e
    obtain ⟨v, e1, e2⟩ := st.rel i _ hd
    exact ⟨v, e1, q v H (.refl _) e2⟩
  · rename_i d hd
    cases e
    obtain ⟨v, e1, e2⟩ := st.rel i _ hd
    exact ⟨v, e1, q v H (.refl _) e2⟩
  · rename_i d hd
    cases e
    obtain ⟨v, e1, e2⟩ := st.rel i _ hd
    exact ⟨v, e1, q v H (.refl _) e2⟩
  · cases e
theorem se_const {X : Cx} {Hin : Hp} {pe : Expr} {v : V} {d : D} {f : Env → Option R} (hf : ∀ env, f env = some (.val d)) (h : PE X pe (tC v)) (r : ∀ H, Rep W H d v) : PE X pe (tE W Hin f) :=
  PE.mono h fun σ H Q ⟨env, r', st, e, q⟩ => by
    rw [hf] at e
    cases e
    exact q v H (.refl _) (r H)
theorem se_int (i : Int) : SE W g G (.int i) := by
  intro Hin T X pe h c
  cases pe <;> try (simp only [okE] at h; cases h; done)
  rename_i k _ _
  cases k <;> try (simp only [okE] at h; cases h; done)
  simp only [okE, decide_eq_true_eq] at h
  subst h
  exact se_fin (se_const (W := W) (Hin := Hin) (f := ev G (.int i)) (fun env => by simp only [ev]) (pe_int (X := X)) (fun H => rep_int)) (fun _ => rfl)
theorem se_str (l : List Nat) : SE W g G (.str l) := by
  intro Hin T X pe h c
  cases pe <;> try (simp only [okE] at h; cases h; done)
  rename_i k _ _
  cases k <;> try (simp only [okE] at h; cases h; done)
  simp only [okE, decide_eq_true_eq] at h
  subst h
  exact se_fin (se_const (W := W) (Hin := Hin) (f := ev G (.str l)) (fun env => by simp only [ev]) (pe_str (X := X)) (fun H => rep_str)) (fun _ => rfl)
theorem se_bl (b : Bool) : SE W g G (.bl b) := by
  intro Hin T X pe h c
  cases pe <;> try (simp only [okE] at h; cases h; done)
  rename_i k _ _
  cases k <;> try (simp only [okE] at h; cases h; done)
  simp only [okE, decide_eq_true_eq] at h
  subst h
  exact se_fin (se_const (W := W) (Hin := Hin) (f := ev G (.bl b)) (fun env => by simp only [ev]) (pe_bl (X := X)) (fun H => rep_bl)) (fun _ => rfl)
theorem se_non : SE W g G .non := by
  intro Hin T X pe h c
  cases pe <;> try (simp only [okE] at h; cases h; done)
  rename_i k _ _
  cases k <;> try (simp only [okE] at h; cases h; done)
  exact se_fin (se_const (W := W) (Hin := Hin) (f := ev G .non) (fun env => by simp only [ev]) (pe_non (X := X)) (fun H => rep_non)) (fun _ => rfl)
theorem se_gint (x : Str) (i : Int) : SE W g G (.gint x i) := by
  intro Hin T X pe h c
  cases pe <;> try (simp only [okE] at h; cases h; done)
  simp only [okE, Bool.and_eq_true, decide_eq_true_eq] at h
  obtain ⟨⟨⟨rfl, h2⟩, h3⟩, h4⟩ := h
  have pd := plain_dbg h4
  obtain ⟨t, ht⟩ := c.cst _ _ h3
  exact se_fin (se_const (W := W) (Hin := Hin) (f := ev G (.gint x i)) (fun env => by simp only [ev]) (pe_glob (X := X) (v := .int i) (c.gl h2) ht ⟨_, rfl⟩ pd.1) (fun H => rep_int)) (fun _ => rfl)
theorem se_bin (op : Bop) (a b : E) (ha : SE W g G a) (hb : SE W g G b) : SE W g G (.bin op a b) := by
  intro Hin T X pe h c
  cases pe <;> try (simp only [okE] at h; cases h; done)
  simp only [okE, Bool.and_eq_true, decide_eq_true_eq] at h
  obtain ⟨⟨rfl, h2⟩, h3⟩ := h
  refine se_fin (PE.mono (pe_op (op_bin c.K Hin op) (ha Hin T X _ h2 c).1 (hb Hin T X _ h3 c).1) fun σ H Q ⟨env, r, st, e, q⟩ => ?_) (fun _ => rfl)
  simp only [ev] at e
  split at e <;> try (cases e; done)
  rename_i x e1
  split at e <;> try (cases e; done)
  rename_i y e2
  exact tE_2 st e1 e2 fun v w H' s r1 r2 => ⟨_, _, r, r1.t (st.same.trans s), r2.t (st.same.trans s), e, fun v H'' s2 r3 => q v H'' (s.trans s2) (r3.pre s)⟩
theorem se_neg (a : E) (ha : SE W g G a) : SE W g G (.neg a) := by
  intro Hin T X pe h c
  cases pe <;> try (simp only [okE] at h; cases h; done)
  rename_i o _ _
  cases o <;> try (simp only [okE] at h; cases h; done)
  simp only [okE] at h
  refine se_fin (PE.mono (pe_un un_neg (ha Hin T X _ h c).1) fun σ H Q ⟨env, r, st, e, q⟩ => ?_) (fun _ => rfl)
  simp only [ev] at e
  split at e <;> try (cases e; done)
  rename_i i e1
  cases e
  refine tE_of st e1 fun v H' s r1 => ⟨i, by simpa [RelR, Rep] using r1, q _ H' s rel_int⟩
theorem cmp_val {op : Cop} {f g' : Env → Option R} {env : Env} {Hin H : Hp} {σ : L2.St} {k : Bool} {x y : R} (st : StR W Hin H σ env) (e1 : f env = some x) (e2 : g' env = some y) (e : cmpD op x.data y.data = some k) {Q : VK} (q : ∀ H', Same W H H' → Q (.bl k) H') :
    tOp (rC W op) (tE W Hin f) (tE W Hin g') σ H Q :=
  tE_2 st e1 e2 fun v w H' s r1 r2 => ⟨_, _, k, r1.t (st.same.trans s), r2.t (st.same.trans s), e, q H' s⟩
theorem se_cmp (op : Cop) (a b : E) (ha : SE W g G a) (hb : SE W g G b) : SE W g G (.cmp op a b) := by
  intro Hin T X pe h c
  cases pe <;> try (simp only [okE] at h; cases h; done)
  rename_i l ops cs pos
  cases ops with
  | nil => simp only [okE] at h; cases h
  | cons o ops => cases ops with
    | cons _ _ => simp only [okE] at h; cases h
    | nil => cases cs with
      | nil => simp only [okE] at h; cases h
      | cons r cs => cases cs with
        | cons _ _ => simp only [okE] at h; cases h
        | nil =>
          simp only [okE, Bool.and_eq_true, decide_eq_true_eq, Bool.not_eq_true'] at h
          obtain ⟨⟨⟨rfl, h2⟩, h3⟩, h4⟩ := h
          refine ⟨PE.mono (pe_cmpR (op_cmp c.K c.un op) (ha Hin T X _ h2 c).1 (hb Hin T X _ h3 c).1 h4) fun σ H Q ⟨env, r, st, e, q⟩ => ?_, fun _ => PT.mono (pt_cmpR (op_cmp c.K c.un op) (ha Hin T X _ h2 c).1 (hb Hin T X _ h3 c).1 h4) fun σ H Q ⟨env, k, st, e, q⟩ => ?_⟩
          · simp only [ev] at e
            split at e <;> try (cases e; done)
            rename_i x e1
            split at e <;> try (cases e; done)
            rename_i y e2
            obtain ⟨k, e3, rfl⟩ := Option.map_eq_some_iff.mp e
            exact cmp_val st e1 e2 e3 fun H' s => q _ H' s rel_bl
          · simp only [ev] at e
            split at e <;> try (cases e; done)
            rename_i x e1
            split at e <;> try (cases e; done)
            rename_i y e2
            obtain ⟨k', e3, e4⟩ := Option.map_eq_some_iff.mp e
            cases e4
            exact cmp_val st e1 e2 e3 fun H' s => ⟨k, rfl, q H' s⟩
theorem se_chain (o1 o2 : Cop) (a b d : E) (ha : SE W g G a) (hb : SE W g G b) (hd : SE W g G d) : SE W g G (.chain o1 o2 a b d) := by
  intro Hin T X pe h c
  cases pe <;> try (simp only [okE] at h; cases h; done)
  rename_i l ops cs pos
  match ops, cs, h with
  | [p1, p2], [r1, r2], h =>
    simp only [okE, Bool.and_eq_true, decide_eq_true_eq, Bool.not_eq_true'] at h
    obtain ⟨⟨⟨⟨⟨⟨rfl, rfl⟩, h2⟩, h3⟩, h4⟩, h5⟩, h6⟩ := h
    have key : ∀ (σ : L2.St) (H : Hp) (Q : VK) (env : Env) (r : R), StR W Hin H σ env → ev G (.chain o1 o2 a b d) env = some r → (∀ v H', Same W H H' → RelR W Hin H H' v r → Q v H') → tChain (rC W o1) (rC W o2) (tE W Hin (ev G a)) (tE W Hin (ev G b)) (tE W Hin (ev G d)) σ H Q := by
      intro σ H Q env r st e q
      simp only [ev] at e
      split at e <;> try (cases e; done)
      rename_i x e1
      split at e <;> try (cases e; done)
      rename_i y e2
      refine tE_2 st e1 e2 fun v w H' s r1 r2 => ?_
      split at e <;> try (cases e; done)
      · rename_i e3
        cases e
        exact ⟨_, _, false, r1.t (st.same.trans s), r2.t (st.same.trans s), e3, false, rfl, iteF (q _ H' s rel_bl)⟩
      · rename_i e3
        split at e <;> try (cases e; done)
        rename_i z e4
        obtain ⟨k, e5, rfl⟩ := Option.map_eq_some_iff.mp e
        refine ⟨_, _, true, r1.t (st.same.trans s), r2.t (st.same.trans s), e3, true, rfl, iteT ?_⟩
        refine tE_of (st.mono s) e4 fun u H'' s2 r3 => ?_
        exact ⟨_, _, k, (r2.t (st.same.trans s)).mono s2, r3.t ((st.same.trans s).trans s2), e5, q _ H'' (s.trans s2) rel_bl⟩
    refine ⟨PE.mono (pe_chain (op_cmp c.K c.un o1) (op_cmp c.K c.un o2) (ha Hin T X _ h2 c).1 (hb Hin T X _ h3 c).1 (hd Hin T X _ h4 c).1 h6) fun σ H Q ⟨env, r, st, e, q⟩ => key σ H Q env r st e q,
      fun _ => PT.mono (pt_chain (op_cmp c.K c.un o1) (op_cmp c.K c.un o2) (ha Hin T X _ h2 c).1 (hb Hin T X _ h3 c).1 (hd Hin T X _ h4 c).1 h6) fun σ H Q ⟨env, k, st, e, q⟩ => ?_⟩
    exact key σ H _ env _ st e fun v H' s r => ⟨k, rel_blE r, q H' s⟩
  | [], _, h => simp only [okE] at h; cases h
  | [_], _, h => simp only [okE] at h; cases h
  | _ :: _ :: _ :: _, _, h => simp only [okE] at h; cases h
  | [_, _], [], h => simp only [okE] at h; cases h
  | [_, _], [_], h => simp only [okE] at h; cases h
  | [_, _], _ :: _ :: _ :: _, h => simp only [okE] at h; cases h
theorem se_not (a : E) (ha : SE W g G a) : SE W g G (.not a) := by
  intro Hin T X pe h c
  cases pe <;> try (simp only [okE] at h; cases h; done)
  rename_i o _ _
  cases o <;> try (simp only [okE] at h; cases h; done)
  simp only [okE, Bool.and_eq_true] at h
  refine ⟨PE.mono (pe_not (ha Hin T X _ h.1 c).1) fun σ H Q ⟨env, r, st, e, q⟩ => ?_, fun _ => PT.mono (pt_not ((ha Hin T X _ h.1 c).2 h.2)) fun σ H Q ⟨env, k, st, e, q⟩ => ?_⟩
  · simp only [ev] at e
    split at e <;> try (cases e; done)
    rename_i b e1
    cases e
    exact tE_of st e1 fun v H' s r1 => ⟨b, rel_blE r1, q _ H' s rel_bl⟩
  · simp only [ev] at e
    split at e <;> try (cases e; done)
    rename_i b e1
    cases e
    exact ⟨env, b, st, e1, q⟩
theorem se_ite (t a b : E) (ht : SE W g G t) (ha : SE W g G a) (hb : SE W g G b) : SE W g G (.ite t a b) := by
  intro Hin T X pe h c
  cases pe <;> try (simp only [okE] at h; cases h; done)
  simp only [okE, Bool.and_eq_true] at h
  obtain ⟨⟨⟨h1, h2⟩, h3⟩, h4⟩ := h
  refine ⟨PE.mono (pe_ifExp ((ht Hin T X _ h1 c).2 h2) (ha Hin T X _ h3 c).1 (hb Hin T X _ h4 c).1) fun σ H Q ⟨env, r, st, e, q⟩ => ?_, fun z => by cases z⟩
  simp only [ev] at e
  split at e <;> try (cases e; done)
  · rename_i e1
    exact ⟨env, true, st, e1, fun H' s => iteT ⟨env, r, st.mono s, e, fun v H'' s2 r2 => q v H'' (s.trans s2) (r2.pre s)⟩⟩
  · rename_i e1
    exact ⟨env, false, st, e1, fun H' s => iteF ⟨env, r, st.mono s, e, fun v H'' s2 r2 => q v H'' (s.trans s2) (r2.pre s)⟩⟩
theorem se_and (es : Es) (h' : SEs W g G es) : SE W g G (.and es) := by
  intro Hin T X pe h c
  cases es with
  | nil => cases pe <;> (simp only [okE] at h; cases h)
  | cons e0 es0 =>
    cases pe <;> try (simp only [okE] at h; cases h; done)
    rename_i o xs _
    cases o <;> try (simp only [okE] at h; cases h; done)
    simp only [okE, Bool.and_eq_true] at h
    cases xs with
    | nil => simp only [okEs] at h; cases h.1
    | cons x xs =>
      have e : ev G (.and (.cons e0 es0)) = evAnd G (.cons e0 es0) := by funext env; simp only [ev]
      rw [e]
      exact ⟨h'.andE Hin T X x xs _ h.1 c, fun _ => (h'.andT Hin T X x xs _ h.1 h.2 c).pt⟩
theorem se_or (es : Es) (h' : SEs W g G es) : SE W g G (.or es) := by
  intro Hin T X pe h c
  cases es with
  | nil => cases pe <;> (simp only [okE] at h; cases h)
  | cons e0 es0 =>
    cases pe <;> try (simp only [okE] at h; cases h; done)
    rename_i o xs _
    cases o <;> try (simp only [okE] at h; cases h; done)
    simp only [okE, Bool.and_eq_true] at h
    cases xs with
    | nil => simp only [okEs] at h; cases h.1
    | cons x xs =>
      have e : ev G (.or (.cons e0 es0)) = evOr G (.cons e0 es0) := by funext env; simp only [ev]
      rw [e]
      exact ⟨h'.orE Hin T X x xs _ h.1 c, fun _ => (h'.orT Hin T X x xs _ h.1 h.2 c).pt⟩
theorem se_lst (es : Es) (h' : SEs W g G es) : SE W g G (.lst es) := by
  intro Hin T X pe h c
  cases pe <;> try (simp only [okE] at h; cases h; done)
  simp only [okE] at h
  refine se_fin (PE.mono (pe_lst (h'.v Hin T X _ h c)) fun σ H Q ⟨env, r, st, e, q⟩ => ?_) (fun _ => rfl)
  simp only [ev] at e
  split at e <;> try (cases e; done)
  rename_i ds e1
  split at e <;> try (cases e; done)
  rename_i hl
  cases e
  refine ⟨env, ds, st, e1, fun vs H' s r => ⟨by rw [← r.length, ← LINE_eq]; exact hl, offresh (fun v H'' s2 r2 => q v H'' (s.trans s2) (r2.pre s)) r⟩⟩
theorem se_tup (es : Es) (h' : SEs W g G es) : SE W g G (.tup es) := by
  intro Hin T X pe h c
  cases pe <;> try (simp only [okE] at h; cases h; done)
  simp only [okE] at h
  refine se_fin (PE.mono (pe_tup (h'.v Hin T X _ h c)) fun σ H Q ⟨env, r, st, e, q⟩ => ?_) (fun _ => rfl)
  simp only [ev] at e
  split at e <;> try (cases e; done)
  rename_i ds e1
  split at e <;> try (cases e; done)
  rename_i hl
  cases e
  refine ⟨env, ds, st, e1, fun vs H' s r => ⟨by rw [← r.length, ← LINE_eq]; exact hl, fun p hp => ?_⟩⟩
  refine q _ _ (s.trans (same_new hp)) ?_
  show Rep W _ (.tup ds) _
  simp only [Rep]
  exact ⟨p, vs, rfl, .of upd_same, RepL.fx (.of_same (same_new (W := W) hp)) _ _ r⟩
theorem okE_noSlice {T : Tc} {e : E} {pe : Expr} (h : okE g T e pe = true) : PlainIx pe := by
  intro o i
  cases pe <;> first | rfl | skip
  rename_i l u st p
  cases e <;> (simp only [okE] at h; cases h)
theorem se_sub (a b : E) (ha : SE W g G a) (hb : SE W g G b) : SE W g G (.sub a b) := by
  intro Hin T X pe h c
  cases pe <;> try (simp only [okE] at h; cases h; done)
  simp only [okE, Bool.and_eq_true] at h
  refine se_fin (PE.mono (pe_ix (ix_sub c.K) (ha Hin T X _ h.1 c).1 (hb Hin T X _ h.2 c).1 (okE_noSlice h.2)) fun σ H Q ⟨env, r, st, e, q⟩ => ?_) (fun _ => rfl)
  simp only [ev] at e
  split at e <;> try (cases e; done)
  rename_i x e1
  split at e <;> try (cases e; done)
  rename_i y e2
  obtain ⟨d, e3, rfl⟩ := Option.map_eq_some_iff.mp e
  exact tE_2 st e1 e2 fun v w H' s r1 r2 => ⟨_, _, d, r1.t (st.same.trans s), r2.t (st.same.trans s), e3, fun v r3 => q v H' s r3⟩
theorem se_slice (a : E) (lo hi : Oe) (ha : SE W g G a) (hl : SO W g G lo) (hh : SO W g G hi) : SE W g G (.slice a lo hi) := by
  intro Hin T X pe h c
  cases pe <;> try (simp only [okE] at h; cases h; done)
  rename_i v0 sl _
  cases sl <;> try (simp only [okE] at h; cases h; done)
  rename_i l u stp _
  cases stp with
  | some _ => simp only [okE] at h; cases h
  | none =>
    simp only [okE, Bool.and_eq_true] at h
    obtain ⟨⟨h1, h2⟩, h3⟩ := h
    refine se_fin (PE.mono (pe_slice (sl_cut c.K Hin) (ha Hin T X _ h1 c).1 (hl.o Hin T X _ h2 c) (hh.o Hin T X _ h3 c)) fun σ H Q ⟨env, r, st, e, q⟩ => ?_) (fun _ => rfl)
    simp only [ev] at e
    split at e <;> try (cases e; done)
    rename_i x e1
    split at e <;> try (cases e; done)
    rename_i l' e2
    split at e <;> try (cases e; done)
    rename_i u' e3
    split at e <;> try (cases e; done)
    rename_i ds e4
    cases e
    refine tE_of st e1 fun v H1 s1 r1 => ⟨env, l', st.mono s1, e2, fun H2 s2 => ⟨env, u', (st.mono s1).mono s2, e3, fun H3 s3 => ⟨ds, ?_, fun v H'' s4 r4 => q v H'' (((s1.trans s2).trans s3).trans s4) (r4.pre ((s1.trans s2).trans s3))⟩⟩⟩
    have := (r1.t (st.same.trans s1)).mono (s2.trans s3)
    rw [e4] at this
    exact this
theorem se_rev (a : E) (ha : SE W g G a) : SE W g G (.rev a) := by
  intro Hin T X pe h c
  unfold okE at h
  split at h <;> try (cases h; done)
  all_goals try contradiction
  rename_i a' v0 _ _ _ _ _ heq
  cases heq
  refine se_fin (PE.mono (pe_revL (ha Hin T X _ h c).1) fun σ H Q ⟨env, r, st, e, q⟩ => ?_) (fun _ => rfl)
  simp only [ev] at e
  split at e <;> try (cases e; done)
  rename_i x e1
  split at e <;> try (cases e; done)
  rename_i ds e2
  cases e
  refine tE_of st e1 fun v H1 s1 r1 => ?_
  have rt := r1.t (st.same.trans s1)
  rw [e2] at rt
  obtain ⟨p, vs, rfl, h1, r2⟩ := rt
  exact ⟨p, vs, rfl, by rw [c.K]; exact h1, offresh (fun v H'' s2 r3 => q v H'' (s1.trans s2) (r3.pre s1)) r2.reverse⟩
end
end Mc
namespace Mc
open PySem PySem.Spec PyProof.Rows L2

section
variable {W : Wd} {g : Gi} {G : Gm}
theorem RelR.plain {Hin Hin' H H' : Hp} {v : V} {r : R} (hp : r.plain = true) (h : RelR W Hin H H' v r) : RelR W Hin' H H' v r := by
  cases r with
  | val d => exact h
  | fresh ds => exact h
  | vown ds => cases hp
  | vpar ds => cases hp
theorem se_call (f : Nat) (es : Es) (h' : SEs W g G es) : SE W g G (.call f es) := by
  intro Hin T X pe h c
  cases es with
  | nil => cases pe <;> (simp only [okE] at h; cases h)
  | cons e0 es0 =>
    unfold okE at h
    split at h <;> try (cases h; done)
    all_goals try contradiction
    rename_i f' e' es' x p xs pos heq
    cases heq
    simp only [Bool.and_eq_true, decide_eq_true_eq] at h
    obtain ⟨⟨⟨h1, h2⟩, h3⟩, h4⟩ := h
    have pd := plain_dbg h3
    cases xs with
    | nil => simp only [okEs] at h4; cases h4
    | cons y ys =>
      have ns := okEs_star h4
      have hst : starEach (y :: ys) X.env = (false, eval y X.env) :: starEach ys X.env := star_ok (ns y List.mem_cons_self)
      have hpl : ∀ pos, (backTo pos (starEach ys X.env)).any (·.1) = false := fun pos => noany fun z hz => ns z (List.mem_cons_of_mem _ hz)
      cases hG : G f with
      | none =>
        refine se_fin ⟨fun pins s σ H Q I ⟨env, r, st, e, q⟩ => ?_⟩ (fun _ => rfl)
        simp only [ev, hG] at e
        split at e <;> cases e
      | some sem =>
        obtain ⟨k, ad, fd, ps, hr, hm, hk, hb, F⟩ := c.fns f x sem h1 hG
        refine se_fin (PE.mono (pe_call F hr (c.gl h2) hm hk hb .nil pass0 (h'.a Hin T X _ h4 c) pd.1 hst (hpl _)) fun σ H Q ⟨env, r, st, e, q⟩ => ?_) (fun _ => rfl)
        simp only [ev, hG] at e
        split at e <;> try (cases e; done)
        rename_i as e1
        split at e <;> try (cases e; done)
        rename_i r0 e2
        split at e <;> try (cases e; done)
        rename_i hp
        cases e
        refine ⟨env, as, st, e1, fun vs H' s ra => ?_⟩
        show spOf W sem (vs ++ []) H' Q E0
        rw [List.append_nil]
        exact ⟨as, r, ra, e2, hp, fun v H'' s2 r2 => q v H'' (s.trans s2) ((RelR.plain hp r2).pre s)⟩
theorem bi_ok {X : Cx} {T : Tc} (c : Cok W g G T X) (Hin : Hp) (b : Bi) {x : Str} {p pos : Pos} {y : Expr} {ys : List Expr} {t : TA} (hx : x = b.nm) (hg : gl T x = true) (ha : PA X (y :: ys) t)
    (hst : starEach (y :: ys) X.env = (false, eval y X.env) :: starEach ys X.env) (hpl : (backTo pos (starEach ys X.env)).any (·.1) = false) : PE X (.Call (.Name x p) (y :: ys) [] pos) (tCB (rBi W Hin b) t) := by
  subst hx
  have hm : ∀ z ∈ bnames, X.mg z = none := c.blt
  cases b with
  | len => exact pe_callB (cr_lenM c.K Hin) (c.gl hg) (hm _ (by decide +kernel)) (by decide +kernel) ha (by decide +kernel) (by decide +kernel) hst hpl
  | all => exact pe_callB (cr_allM c.K Hin c.calm) (c.gl hg) (hm _ (by decide +kernel)) (by decide +kernel) ha (by decide +kernel) (by decide +kernel) hst hpl
  | any => exact pe_callB (cr_anyM c.K Hin c.calm) (c.gl hg) (hm _ (by decide +kernel)) (by decide +kernel) ha (by decide +kernel) (by decide +kernel) hst hpl
  | sum => exact pe_callB (cr_sumM c.K Hin c.calm) (c.gl hg) (hm _ (by decide +kernel)) (by decide +kernel) ha (by decide +kernel) (by decide +kernel) hst hpl
  | abs => exact pe_callB (cr_absM Hin) (c.gl hg) (hm _ (by decide +kernel)) (by decide +kernel) ha (by decide +kernel) (by decide +kernel) hst hpl
  | min => exact pe_callB (cr_minM Hin c.calm) (c.gl hg) (hm _ (by decide +kernel)) (by decide +kernel) ha (by decide +kernel) (by decide +kernel) hst hpl
  | list => exact pe_callTy (cr_listM c.K Hin c.calm) (c.gl hg) (hm _ (by decide +kernel)) (by decide +kernel) ha (by decide +kernel) (by decide +kernel) hst hpl
  | sorted => exact pe_callB (cr_sortedM c.K Hin) (c.gl hg) (hm _ (by decide +kernel)) (by decide +kernel) ha (by decide +kernel) (by decide +kernel) hst hpl
theorem se_bi (b : Bi) (es : Es) (h' : SEs W g G es) : SE W g G (.bi b es) := by
  intro Hin T X pe h c
  cases es with
  | nil => cases pe <;> (simp only [okE] at h; cases h)
  | cons e0 es0 =>
    unfold okE at h
    split at h <;> try (cases h; done)
    all_goals try contradiction
    rename_i b' e' es' x p xs pos heq
    cases heq
    simp only [Bool.and_eq_true, decide_eq_true_eq] at h
    obtain ⟨⟨h1, h2⟩, h4⟩ := h
    cases xs with
    | nil => simp only [okEs] at h4; cases h4
    | cons y ys =>
      have ns := okEs_star h4
      have hst : starEach (y :: ys) X.env = (false, eval y X.env) :: starEach ys X.env := star_ok (ns y List.mem_cons_self)
      have hpl : ∀ pos, (backTo pos (starEach ys X.env)).any (·.1) = false := fun pos => noany fun z hz => ns z (List.mem_cons_of_mem _ hz)
      refine se_fin (PE.mono (bi_ok c Hin b h1 h2 (h'.d Hin T X _ h4 c) hst (hpl _)) fun σ H Q ⟨env, r, st, e, q⟩ => ?_) (fun _ => rfl)
      simp only [ev] at e
      split at e <;> try (cases e; done)
      rename_i as e1
      exact ⟨env, as, st, e1, fun vs H' s ra => ⟨as, r, ra, e, fun v H'' s2 r2 => q v H'' (s.trans s2) (r2.pre s)⟩⟩
theorem abase {o : Expr} {attr : Str} {env : PySem.Env} (h : noCall0 o = true) : attributeBase o attr env (eval o env) = eval o env := by
  unfold attributeBase
  split
  · simp [noCall0] at h
  · rfl
def Mt.ty : Mt → String
  | .index => "list"
  | _ => "str"
theorem mt_ty {m : Mt} {d : D} {ds : List D} {r : R} (h : mtD m d ds = some r) {H : Hp} {x : V} (rt : RepT W H d x) : tyV W.K m.ty x H := by
  unfold mtD at h
  split at h <;> try (cases h; done)
  · rw [rt.str]; rfl
  · rw [rt.str]; rfl
  · rw [rt.str]; rfl
  · obtain ⟨a, vs, rfl, h1, _⟩ := rt
    exact .inl ⟨rfl, vs, h1⟩
theorem se_meth (m : Mt) (a : E) (es : Es) (ha : SE W g G a) (h' : SEs W g G es) : SE W g G (.meth m a es) := by
  intro Hin T X pe h c
  unfold okE at h
  split at h <;> try (cases h; done)
  all_goals try contradiction
  rename_i m' a' e0 v n ap x p heq
  cases heq
  simp only [Bool.and_eq_true, decide_eq_true_eq] at h
  obtain ⟨⟨⟨⟨h1, h2⟩, h3⟩, h4⟩, h5⟩ := h
  have ns := okEs_star h4
  have hst : starEach [x] X.env = (false, eval x X.env) :: starEach [] X.env := star_ok (ns x List.mem_cons_self)
  have hfew : ∀ cpos : Pos, ((backTo cpos (starEach [x] X.env)).all (fun x => !x.1) && (backToKw cpos (keywordEach [] X.env)).all (fun x => x.1.isSome) && decide ([x].length + ([] : List Keyword).length + (if ([] : List Keyword).isEmpty then 0 else 1) < 30)) = true := fun cpos => by
    rw [hst]; rfl
  have key : ∀ (Ty : String) (r : V → List V → Hp → VK → Prop), Ty = m.ty → r = rMt W Hin m → PE X (.Call (.Attribute v n ap) [x] [] p) (tBM X.K Ty r (tE W Hin (ev G a)) (tD W Hin (evD G (.cons e0 .nil)))) := by
    intro Ty r hT hr
    subst h1 hT hr
    cases m with
    | join => exact pe_bm PySem.F.plainAttrs_str PySem.F.slot_str_join PySem.F.type_str_join (mt_joinM c.K Hin) (ha Hin T X _ h2 c).1 (h'.d Hin T X _ h4 c) (abase h3) (hfew _) h5 hst rfl
    | count => exact pe_bm PySem.F.plainAttrs_str PySem.F.slot_str_count PySem.F.type_str_count (mt_countM Hin) (ha Hin T X _ h2 c).1 (h'.d Hin T X _ h4 c) (abase h3) (hfew _) h5 hst rfl
    | strip => exact pe_bm PySem.F.plainAttrs_str PySem.F.slot_str_strip PySem.F.type_str_strip (mt_stripM Hin) (ha Hin T X _ h2 c).1 (h'.d Hin T X _ h4 c) (abase h3) (hfew _) h5 hst rfl
    | index => exact pe_bm PySem.F.plainAttrs_list PySem.F.slot_list_index PySem.F.type_list_index (mt_indexM c.K Hin c.un) (ha Hin T X _ h2 c).1 (h'.d Hin T X _ h4 c) (abase h3) (hfew _) h5 hst rfl
  refine se_fin (PE.mono (key _ _ rfl rfl) fun σ H Q ⟨env, r, st, e, q⟩ => ?_) (fun _ => rfl)
  simp only [ev] at e
  split at e <;> try (cases e; done)
  rename_i xx e1
  split at e <;> try (cases e; done)
  rename_i as e2
  refine tE_of st e1 fun v H' s r1 => ⟨?_, env, as, st.mono s, e2, fun vs H'' s2 ra => ⟨_, as, r, (r1.t (st.same.trans s)).mono s2, ra, e, fun v H3 s3 r3 => q v H3 ((s.trans s2).trans s3) (r3.pre (s.trans s2))⟩⟩
  rw [c.K]
  exact mt_ty e (r1.t (st.same.trans s))
theorem Ty.nmS_eq (t : Ty) (h : t.builtin = true) : t.nmS = Str.ofString t.nm ∧ t.nmS ∈ bnames ∧ bootBuiltins t.nmS = some (.type t.nm) ∧ t.nmS ≠ "__name__" ∧ (t.nmS == ("__debug__" : Str)) = false := by
  cases t <;> first | (refine ⟨by decide +kernel, by decide +kernel, by decide +kernel, by decide +kernel, by decide +kernel⟩) | cases h
theorem se_isi (a : E) (t : Ty) (ha : SE W g G a) : SE W g G (.isi a t) := by
  intro Hin T X pe h c
  unfold okE at h
  split at h <;> try (cases h; done)
  all_goals try contradiction
  rename_i a' t' x px y z pz pos heq
  cases heq
  simp only [Bool.and_eq_true, decide_eq_true_eq] at h
  obtain ⟨⟨⟨⟨⟨⟨h1, h2⟩, h3⟩, h4⟩, h5⟩, h6⟩, h7⟩ := h
  have hst : starEach [y, .Name z pz] X.env = (false, eval y X.env) :: starEach [.Name z pz] X.env := star_ok h4
  have nt := Ty.nmS_eq t h5
  subst h6
  have hz : PE X (.Name t.nmS pz) (tC (.ty t.nm)) := pe_bltn (c.gl h7) (c.blt _ nt.2.1) nt.2.2.1 rfl nt.2.2.2.1 nt.2.2.2.2
  have hpa : PA X [y, .Name t.nmS pz] (tCons (tE W Hin (ev G a)) (tCons (tC (.ty t.nm)) tNil)) := pa_cons (ha Hin T X _ h3 c).1 (pa_cons hz pa_nil) hst
  subst h1
  refine se_fin (PE.mono (pe_callB (cr_isiM c.K t h5) (c.gl h2) (c.blt _ (by decide +kernel)) (by decide +kernel) hpa (by decide +kernel) (by decide +kernel) hst rfl) fun σ H Q ⟨env, r, st, e, q⟩ => ?_) (fun _ => rfl)
  simp only [ev] at e
  split at e <;> try (cases e; done)
  rename_i xx e1
  obtain ⟨k, e2, rfl⟩ := Option.map_eq_some_iff.mp e
  exact tE_of st e1 fun v H' s r1 => ⟨_, k, v, rfl, r1.t (st.same.trans s), e2, q _ H' s rel_bl⟩

theorem pe_sl {X : Cx} {Hin : Hp} {e : Expr} {f : Env → Option R} (m : Bool) (h : PE X e (tE W Hin f)) : PE X e (fun σ H Q => ∃ env s, StR W Hin H σ env ∧ (f env).bind (R.asSl m) = some s ∧ ∀ v H', Same W H H' → SlM W H H' v s → Q v H') := by
  refine PE.mono (PE.freeze h) fun σ H Q ⟨env, d, st, e, q⟩ => ?_
  obtain ⟨r, e1, e2⟩ := Option.bind_eq_some_iff.mp e
  refine ⟨env, r, st, e1, fun v H' s rr => ?_⟩
  cases r with
  | val d' => cases e2; exact .inl (q v H' s rr)
  | fresh ds =>
    obtain ⟨a, vs, rfl, n, h1, r1⟩ := rr
    cases m with
    | true =>
      cases e2
      exact .inl (q _ _ s ⟨a, vs, rfl, n, h1, r1⟩)
    | false =>
      cases e2
      refine .inr ⟨a, vs, rfl, h1, fun o => q _ _ (same_frz s n h1) ?_⟩
      show Rep W _ (.lst ds) _
      simp only [Rep]
      exact ⟨a, vs, rfl, .inl ⟨o, upd_same⟩, RepL.fx (FX.upd h1) _ _ r1⟩
  | vown ds => cases e2
  | vpar ds => cases e2

/-! #### lists of expressions -/
theorem ses_nil : SEs W g G .nil where
  v := fun Hin T X xs h c => by
    cases xs with
    | cons _ _ => simp only [okEs] at h; cases h
    | nil => exact PA.mono pa_nil fun σ H Q ⟨env, ds, st, e, q⟩ => by simp only [evV] at e; cases e; exact q _ H (.refl _) .nil
  d := fun Hin T X xs h c => by
    cases xs with
    | cons _ _ => simp only [okEs] at h; cases h
    | nil => exact PA.mono pa_nil fun σ H Q ⟨env, ds, st, e, q⟩ => by simp only [evD] at e; cases e; exact q _ H (.refl _) .nil
  a := fun Hin T X xs h c => by
    cases xs with
    | cons _ _ => simp only [okEs] at h; cases h
    | nil => exact PA.mono pa_nil fun σ H Q ⟨env, ds, st, e, q⟩ => by simp only [evA] at e; cases e; exact q _ H (.refl _) (.nil st.tab)
  r := fun ms Hin T X xs h c => by
    cases xs with
    | cons _ _ => simp only [okEs] at h; cases h
    | nil =>
      refine PA.mono pa_nil fun σ H Q ⟨env, ds, st, e, q⟩ => ?_
      cases ms with
      | nil => simp only [evM] at e; cases e; exact q _ H (Same.refl H)
      | cons _ _ => simp only [evM] at e; cases e
  andE := fun Hin T X x xs pos h c => by simp only [okEs] at h; cases h
  orE := fun Hin T X x xs pos h c => by simp only [okEs] at h; cases h
  andT := fun Hin T X x xs pos h _ c => by simp only [okEs] at h; cases h
  orT := fun Hin T X x xs pos h _ c => by simp only [okEs] at h; cases h
theorem ses_cons (e : E) (es : Es) (he : SE W g G e) (hs : SEs W g G es) : SEs W g G (.cons e es) where
  v := fun Hin T X xs h c => by
    cases xs with
    | nil => simp only [okEs] at h; cases h
    | cons x xs =>
      simp only [okEs, Bool.and_eq_true] at h
      obtain ⟨⟨h1, h2⟩, h3⟩ := h
      refine PA.mono (pa_cons (pe_frz (he Hin T X _ h2 c).1) (hs.v Hin T X _ h3 c) (star_ok h1)) fun σ H Q ⟨env, ds, st, e, q⟩ => ?_
      simp only [evV] at e
      split at e <;> try (cases e; done)
      rename_i d e1
      split at e <;> try (cases e; done)
      rename_i ds' e2
      cases e
      exact ⟨env, d, st, e1, fun v H' s r => ⟨env, ds', st.mono s, e2, fun vs H'' s2 r2 => q _ H'' (s.trans s2) (.cons (Rep.fx (.of_same s2) _ _ r) r2)⟩⟩
  d := fun Hin T X xs h c => by
    cases xs with
    | nil => simp only [okEs] at h; cases h
    | cons x xs =>
      simp only [okEs, Bool.and_eq_true] at h
      obtain ⟨⟨h1, h2⟩, h3⟩ := h
      refine PA.mono (pa_cons (he Hin T X _ h2 c).1 (hs.d Hin T X _ h3 c) (star_ok h1)) fun σ H Q ⟨env, ds, st, e, q⟩ => ?_
      simp only [evD] at e
      split at e <;> try (cases e; done)
      rename_i d e1
      split at e <;> try (cases e; done)
      rename_i ds' e2
      cases e
      exact tE_of st e1 fun v H' s r => ⟨env, ds', st.mono s, e2, fun vs H'' s2 r2 => q _ H'' (s.trans s2) (.cons ((r.t (st.same.trans s)).mono s2) r2)⟩
  a := fun Hin T X xs h c => by
    cases xs with
    | nil => simp only [okEs] at h; cases h
    | cons x xs =>
      simp only [okEs, Bool.and_eq_true] at h
      obtain ⟨⟨h1, h2⟩, h3⟩ := h
      refine PA.mono (pa_cons (pe_arg (he Hin T X _ h2 c).1) (hs.a Hin T X _ h3 c) (star_ok h1)) fun σ H Q ⟨env, ds, st, e, q⟩ => ?_
      simp only [evA] at e
      split at e <;> try (cases e; done)
      rename_i d e1
      split at e <;> try (cases e; done)
      rename_i ds' e2
      cases e
      refine ⟨env, d, st, e1, fun v H' s r => ⟨env, ds', st.mono s, e2, fun vs H'' s2 r2 => q _ H'' (s.trans s2) (.cons ?_ (arg_noown d) r2)⟩⟩
      have := (ArgL.cons r (arg_noown d) (.nil (Tabs.same s st.tab))).mono s2
      cases this with | cons a _ _ => exact a
  r := fun ms Hin T X xs h c => by
    cases xs with
    | nil => simp only [okEs] at h; cases h
    | cons x xs =>
      simp only [okEs, Bool.and_eq_true] at h
      obtain ⟨⟨h1, h2⟩, h3⟩ := h
      cases ms with
      | nil =>
        refine ⟨fun pos pins s σ H Q I ⟨env, ds, st, e, q⟩ => ?_⟩
        simp only [evM] at e
        cases e
      | cons m ms =>
        refine PA.mono (pa_cons (pe_sl m (he Hin T X _ h2 c).1) (hs.r ms Hin T X _ h3 c) (star_ok h1)) fun σ H Q ⟨env, ds, st, e, q⟩ => ?_
        simp only [evM] at e
        split at e <;> try (cases e; done)
        rename_i d e1
        split at e <;> try (cases e; done)
        rename_i ds' e2
        cases e
        exact ⟨env, d, st, e1, fun v H' s r => ⟨env, ds', st.mono s, e2, fun vs H'' r2 => q _ H'' ⟨H', s, r2.same, r, r2⟩⟩⟩
  andE := fun Hin T X x xs pos h c => by
    simp only [okEs, Bool.and_eq_true] at h
    obtain ⟨⟨h1, h2⟩, h3⟩ := h
    cases xs with
    | nil =>
      cases es with
      | cons _ _ => simp only [okEs] at h3; cases h3
      | nil =>
        refine PE.mono (pe_one (he Hin T X _ h2 c).1) fun σ H Q ⟨env, r, st, e, q⟩ => ?_
        simp only [evAnd] at e
        split at e <;> try (cases e; done)
        · rename_i e1; cases e; exact ⟨env, _, st, e1, q⟩
        · rename_i e1; cases e; exact ⟨env, _, st, e1, q⟩
    | cons y ys =>
      refine PE.mono (pe_and (he Hin T X _ h2 c).1 (hs.andE Hin T X y ys pos h3 c)) fun σ H Q ⟨env, r, st, e, q⟩ => ?_
      simp only [evAnd] at e
      split at e <;> try (cases e; done)
      · rename_i e1; cases e; exact tE_of st e1 fun v H' s r => ⟨false, rel_blE r, iteF (q _ H' s rel_bl)⟩
      · rename_i e1; exact tE_of st e1 fun v H' s r' => ⟨true, rel_blE r', iteT ⟨env, r, st.mono s, e, fun v H'' s2 r2 => q v H'' (s.trans s2) (r2.pre s)⟩⟩
  orE := fun Hin T X x xs pos h c => by
    simp only [okEs, Bool.and_eq_true] at h
    obtain ⟨⟨h1, h2⟩, h3⟩ := h
    cases xs with
    | nil =>
      cases es with
      | cons _ _ => simp only [okEs] at h3; cases h3
      | nil =>
        refine PE.mono (pe_one (he Hin T X _ h2 c).1) fun σ H Q ⟨env, r, st, e, q⟩ => ?_
        simp only [evOr] at e
        split at e <;> try (cases e; done)
        · rename_i e1; cases e; exact ⟨env, _, st, e1, q⟩
        · rename_i e1; cases e; exact ⟨env, _, st, e1, q⟩
    | cons y ys =>
      refine PE.mono (pe_or (he Hin T X _ h2 c).1 (hs.orE Hin T X y ys pos h3 c)) fun σ H Q ⟨env, r, st, e, q⟩ => ?_
      simp only [evOr] at e
      split at e <;> try (cases e; done)
      · rename_i e1; cases e; exact tE_of st e1 fun v H' s r => ⟨true, rel_blE r, iteT (q _ H' s rel_bl)⟩
      · rename_i e1; exact tE_of st e1 fun v H' s r' => ⟨false, rel_blE r', iteF ⟨env, r, st.mono s, e, fun v H'' s2 r2 => q v H'' (s.trans s2) (r2.pre s)⟩⟩
  andT := fun Hin T X x xs pos h ht c => by
    simp only [okEs, Bool.and_eq_true] at h
    simp only [Es.tst, Bool.and_eq_true] at ht
    obtain ⟨⟨h1, h2⟩, h3⟩ := h
    cases xs with
    | nil =>
      cases es with
      | cons _ _ => simp only [okEs] at h3; cases h3
      | nil =>
        refine PW.mono (pw_and1 ((he Hin T X _ h2 c).2 ht.1)) fun σ H Q ⟨env, r, st, e, q⟩ => ?_
        simp only [evAnd] at e
        split at e <;> try (cases e; done)
        · rename_i e1; cases e; exact ⟨env, _, st, e1, q⟩
        · rename_i e1; cases e; exact ⟨env, _, st, e1, q⟩
    | cons y ys =>
      refine PW.mono (pw_and ((he Hin T X _ h2 c).2 ht.1) (hs.andT Hin T X y ys pos h3 ht.2 c)) fun σ H Q ⟨env, r, st, e, q⟩ => ?_
      simp only [evAnd] at e
      split at e <;> try (cases e; done)
      · rename_i e1; cases e; exact ⟨env, false, st, e1, fun H' s => iteF (q H' s)⟩
      · rename_i e1; exact ⟨env, true, st, e1, fun H' s => iteT ⟨env, r, st.mono s, e, fun H'' s2 => q H'' (s.trans s2)⟩⟩
  orT := fun Hin T X x xs pos h ht c => by
    simp only [okEs, Bool.and_eq_true] at h
    simp only [Es.tst, Bool.and_eq_true] at ht
    obtain ⟨⟨h1, h2⟩, h3⟩ := h
    cases xs with
    | nil =>
      cases es with
      | cons _ _ => simp only [okEs] at h3; cases h3
      | nil =>
        refine PW.mono (pw_or1 ((he Hin T X _ h2 c).2 ht.1)) fun σ H Q ⟨env, r, st, e, q⟩ => ?_
        simp only [evOr] at e
        split at e <;> try (cases e; done)
        · rename_i e1; cases e; exact ⟨env, _, st, e1, q⟩
        · rename_i e1; cases e; exact ⟨env, _, st, e1, q⟩
    | cons y ys =>
      refine PW.mono (pw_or ((he Hin T X _ h2 c).2 ht.1) (hs.orT Hin T X y ys pos h3 ht.2 c)) fun σ H Q ⟨env, r, st, e, q⟩ => ?_
      simp only [evOr] at e
      split at e <;> try (cases e; done)
      · rename_i e1; cases e; exact ⟨env, true, st, e1, fun H' s => iteT (q H' s)⟩
      · rename_i e1; exact ⟨env, false, st, e1, fun H' s => iteF ⟨env, r, st.mono s, e, fun H'' s2 => q H'' (s.trans s2)⟩⟩
theorem so_non : SO W g G .non where
  o := fun Hin T X p h c => by
    cases p with
    | some _ => simp only [okO] at h; cases h
    | none => exact ⟨fun pins s σ H Q I ⟨env, o, st, e, q⟩ => po_none.run pins s σ H Q I (by simp only [evO] at e; cases e; exact q H (.refl _))⟩
  c := fun Hin T X p h c => by
    cases p with
    | cons _ _ => simp only [okIf] at h; cases h
    | nil => exact ⟨fun pins s σ H Q I ⟨env, o, st, e, q⟩ => pts_nil.run pins s σ H Q I (by simp only [evC] at e; cases e; exact q H (.refl _))⟩
theorem so_one (e : E) (he : SE W g G e) : SO W g G (.one e) where
  o := fun Hin T X p h c => by
    cases p with
    | none => simp only [okO] at h; cases h
    | some x =>
      simp only [okO] at h
      refine ⟨fun pins s σ H Q I ⟨env, o, st, e, q⟩ => (po_some (he Hin T X _ h c).1).run pins s σ H Q I ?_⟩
      simp only [evO] at e
      split at e <;> try (cases e; done)
      rename_i i e1
      cases e
      exact tE_of st e1 fun v H' s r => ⟨i, rel_intE r, q H' s⟩
  c := fun Hin T X p h c => by
    unfold okIf at h
    split at h <;> try (cases h; done)
    all_goals try contradiction
    rename_i e' x heq
    cases heq
    simp only [Bool.and_eq_true] at h
    refine ⟨fun pins s σ H Q I ⟨env, b, st, e, q⟩ => (pts_one ((he Hin T X _ h.1 c).2 h.2)).run pins s σ H Q I ?_⟩
    simp only [evC] at e
    split at e <;> try (cases e; done)
    rename_i i e1
    cases e
    exact ⟨env, b, st, e1, q⟩
end
end Mc
namespace Mc
open PySem PySem.Spec PyProof.Rows L2
theorem mem_lk {α β : Type} [BEq α] [LawfulBEq α] : ∀ {l : List (α × β)} {a : α} {b : β}, l.lookup a = some b → (a, b) ∈ l
  | [], _, _, h => by simp [List.lookup] at h
  | (x, y) :: l, a, b, h => by
    rw [List.lookup_cons] at h
    split at h
    · rename_i e
      cases h
      rw [eq_of_beq e]
      exact List.mem_cons_self
    · exact List.mem_cons_of_mem _ (mem_lk h)
/-! ### a slice with a step -/
theorem pick_step {α : Type} (k : Nat) (hk : 0 < k) : ∀ (fuel : Nat) (l : List α) (m : Nat), l.length ≤ fuel → l.length ≤ k * m → (List.range m).filterMap (fun j => l[k * j]?) = stepL k fuel l
  | fuel, [], m, _, _ => by
    have : (List.range m).filterMap (fun j => ([] : List α)[k * j]?) = [] := by
      rw [List.filterMap_eq_nil_iff]; intro a _; simp
    rw [this]
    cases fuel <;> rfl
  | 0, x :: r, m, h, _ => by simp at h
  | fuel + 1, x :: r, 0, _, h => by simp at h
  | fuel + 1, x :: r, m + 1, h, g => by
    rw [List.range_succ_eq_map, List.filterMap_cons, List.filterMap_map]
    have e0 : (x :: r)[k * 0]? = some x := by simp
    rw [e0]
    have e1 : ((fun j => (x :: r)[k * j]?) ∘ Nat.succ) = fun j => (r.drop (k - 1))[k * j]? := by
      funext j
      show (x :: r)[k * (j + 1)]? = _
      rw [List.getElem?_drop, show k * (j + 1) = (k - 1 + k * j) + 1 by rw [Nat.mul_add]; omega, List.getElem?_cons_succ]
    rw [e1]
    simp only [stepL]
    rw [pick_step k hk fuel (r.drop (k - 1)) m]
    · rw [List.length_drop]; simp at h; omega
    · rw [List.length_drop]
      simp only [List.length_cons, Nat.mul_add] at g
      omega
theorem slice_step (items : Array Value) (i k : Nat) (hk : 0 < k) : slicePick items (some (i : Int)) none (some (k : Int)) = (stepL k items.size (items.toList.drop i)).toArray := by
  have hb : sliceBounds (some (i : Int)) none (some (k : Int)) items.size = (((min i items.size : Nat) : Int), (items.size : Int), (k : Int)) := by
    unfold sliceBounds
    have h1 : (k : Int) > 0 := by omega
    have h2 : ¬ ((i : Int) < 0) := by omega
    simp only [Option.getD_some, h1, if_true, h2, if_false]
    congr 1
    omega
  unfold slicePick
  rw [hb]
  show ((sliceRange ((min i items.size : Nat) : Int) (items.size : Int) (k : Int)).filterMap (items[·]?)).toArray = _
  congr 1
  unfold sliceRange
  have h1 : (k : Int) > 0 := by omega
  simp only [h1, if_true]
  by_cases h : ((min i items.size : Nat) : Int) < (items.size : Int)
  · have hi : i < items.size := by omega
    have em : min i items.size = i := by omega
    rw [if_pos h, em]
    have ec : ((items.size : Int) - (i : Int) + (k : Int) - 1) / (k : Int) = (((items.size - i + k - 1) / k : Nat) : Int) := by
      have : (items.size : Int) - (i : Int) + (k : Int) - 1 = ((items.size - i + k - 1 : Nat) : Int) := by omega
      rw [this]; norm_cast
    rw [ec, Int.toNat_natCast, List.filterMap_map]
    have ef : ((fun x => items[x]?) ∘ fun (j : Nat) => ((i : Int) + (k : Int) * (j : Int)).toNat) = fun j => (items.toList.drop i)[k * j]? := by
      funext j
      show items[((i : Int) + (k : Int) * (j : Int)).toNat]? = _
      have e : ((i : Int) + (k : Int) * (j : Int)).toNat = i + k * j := by
        have : (i : Int) + (k : Int) * (j : Int) = ((i + k * j : Nat) : Int) := by push_cast; rfl
        rw [this, Int.toNat_natCast]
      rw [e, List.getElem?_drop, Array.getElem?_toList]
    rw [ef]
    apply pick_step k hk
    · rw [List.length_drop, Array.length_toList]; omega
    · rw [List.length_drop, Array.length_toList]
      have a1 := Nat.div_add_mod (items.size - i + k - 1) k
      have a2 := Nat.mod_lt (items.size - i + k - 1) hk
      omega
  · rw [if_neg h]
    have : items.toList.drop i = [] := by
      rw [List.drop_eq_nil_iff, Array.length_toList]; omega
    rw [this]
    cases items.size <;> rfl
theorem stepL_len {α β : Type} (k : Nat) : ∀ (n : Nat) (l : List α), (stepL k n l).length ≤ l.length
  | 0, l => by simp [stepL]
  | n + 1, [] => by simp [stepL]
  | n + 1, x :: r => by
    simp only [stepL, List.length_cons]
    have := stepL_len (β := β) k n (r.drop (k - 1))
    rw [List.length_drop] at this
    omega
theorem vals_drop : ∀ (i : Nat) {xs : List V} {us : List Value}, Vals xs us → Vals (xs.drop i) (us.drop i)
  | 0, _, _, h => h
  | i + 1, _, _, .nil => .nil
  | i + 1, _, _, .cons r t => vals_drop i t
theorem vals_step (k : Nat) : ∀ (n : Nat) {xs : List V} {us : List Value}, Vals xs us → Vals (stepL k n xs) (stepL k n us)
  | 0, _, _, _ => .nil
  | n + 1, _, _, .nil => .nil
  | n + 1, _, _, .cons r t => .cons r (vals_step k n (vals_drop (k - 1) t))
theorem RepL.step {W : Wd} {H : Hp} (k : Nat) : ∀ (n : Nat) {ds : List D} {vs : List V}, RepL W H ds vs → RepL W H (stepL k n ds) (stepL k n vs)
  | 0, _, _, _ => .nil
  | n + 1, [], _, h => by simp only [RepL] at h; subst h; exact .nil
  | n + 1, d :: ds, _, h => by
    simp only [RepL] at h
    obtain ⟨v, r, rfl, q, t⟩ := h
    exact .cons q (RepL.step k n (RepL.drop (k - 1) t))
def tStep (K : PySem.W.Frag) (te tl : TE) (k : Nat) : TE := fun σ H Q => te σ H fun x H1 => tl σ H1 fun y H2 => ∃ i : Int, y = .int i ∧ ∃ (a : Addr) (xs : List V) (j : Nat), some i = some (j : Int) ∧ x = .ref a ∧ SqL K H2 a xs ∧
  ∀ p, H2 p = none → Q (.ref p) (upd H2 p (.lst (stepL k xs.length (xs.drop j))))
theorem pe_stepL {X : Cx} {e l : Expr} {te tl : TE} {k : Nat} {n : Nat} {p1 p3 pos : Pos} (hk : 0 < k) (he : PE X e te) (hl : PE X l tl) : PE X (.Subscript e (.Slice (some l) none (some (.Constant (.int (k : Int)) n p1)) p3) pos) (tStep X.K te tl k) := by
  refine ⟨fun pins s σ H Q I h => ?_⟩
  refine Subscript_ (thn (he.run pins s σ H _ I h) fun v s1 ⟨x, H1, I1, r1, q1⟩ => ?_)
  have hst : PO X (some (.Constant (.int (k : Int)) n p1)) (tPart (tC (.int (k : Int)))) := po_some pe_int
  have hlo : PO X (some l) (tPart tl) := po_some hl
  refine wpAny_Slice (thn (hlo.run pins s1 σ H1 (fun o H2 => ∃ (a : Addr) (xs : List V) (j : Nat), o = some (j : Int) ∧ x = .ref a ∧ SqL X.K H2 a xs ∧ ∀ p, H2 p = none → Q (.ref p) (upd H2 p (.lst (stepL k xs.length (xs.drop j))))) I1 q1) fun vl s2 ⟨o1, H2, I2, pl, q2⟩ => ?_)
  obtain ⟨a, xs, j, rfl, rfl, hx, q⟩ := q2
  cases r1
  refine thn (po_none.run pins s2 σ H2 (fun o H3 => o = none ∧ H3 = H2) I2 ⟨rfl, rfl⟩) fun vu s3 ⟨u, H3, I3, pu, eu, e3⟩ => ?_
  subst eu e3
  refine thn (hst.run pins s3 σ H3 (fun o H4 => o = some (k : Int) ∧ H4 = H3) I3 ⟨(k : Int), rfl, rfl, rfl⟩) fun vs s4 ⟨o, H4, I4, ps, eo, e4⟩ => ?_
  subst eo e4
  let so : Obj := { cls := .type "slice", data := .fields #[vl, vu, vs] }
  have I5 : Inv X pins σ H4 { s4 with heap := s4.heap.push so } := I4.kept (t' := s4.toks) fun b ob z => Heap.get?_push_of_some _ z
  obtain ⟨its, r, ht, hz⟩ := I5.list hx
  have hlen := r.length
  show wpAny (model X.prog X.w) X.A (subscriptTail e (.Slice (some l) none (some (.Constant (.int (k : Int)) n p1)) p3) (.ref a) (.ref s4.heap.objs.size)) (EP X pins σ Q) X.xe { s4 with heap := s4.heap.push so }
  refine tail_any (ops := [.ref a, .ref s4.heap.objs.size]) ht.isList.typeIs (PySem.slot_list_getitem.lookup) ?_ (by with_unfolding_all rfl)
  refine wpAny_getItem_list_slice ht.isList (Heap.IsSliceOf.new _ vl vu vs) pl pu ps (by intro z; have z := Option.some.inj z; omega) ?_ (by rw [List.size_toArray]; omega)
  rw [slice_step _ _ _ hk]
  refine ⟨.ref _, _, I5.laid (t' := s4.toks) (o := .lst (stepL k xs.length (xs.drop j))) (fun b ob z => Heap.get?_push_of_some _ z) (Nat.le_refl _) ?_, rfl, q _ (I5.hok.fresh (Nat.le_refl _))⟩
  have hsz : its.toArray.size = xs.length := by rw [List.size_toArray, hlen]
  refine ⟨?_, _, 0, ?_, Heap.get?_push_size _ rfl⟩
  · have := stepL_len (β := Nat) k xs.length (xs.drop j)
    rw [List.length_drop] at this
    omega
  · rw [hsz]
    exact vals_step k _ (vals_drop j r)

section
variable {W : Wd} {g : Gi} {G : Gm}
theorem strs_reps : ∀ {ds : List D} {xs : List (List Nat)} {H : Hp} {vs : List V}, strsD ds = some xs → RepL W H ds vs → vs = xs.map fun x => V.str (mkS x)
  | [], xs, H, vs, h, r => by
    simp only [strsD] at h; cases h
    simp only [RepL] at r; subst r; rfl
  | d :: ds, xs, H, vs, h, r => by
    cases d <;> simp only [strsD] at h <;> try (cases h; done)
    obtain ⟨ys, h1, rfl⟩ := Option.map_eq_some_iff.mp h
    simp only [RepL] at r
    obtain ⟨v, t, rfl, r1, r2⟩ := r
    rw [strs_reps h1 r2]
    simp only [Rep] at r1
    subst r1
    rfl
theorem se_step (a lo : E) (k : Nat) (ha : SE W g G a) (hl : SE W g G lo) : SE W g G (.step a lo k) := by
  intro Hin T X pe h c
  unfold okE at h
  split at h <;> try (cases h; done)
  all_goals try contradiction
  rename_i a' lo' k' v l j n p1 p3 pos heq
  cases heq
  simp only [Bool.and_eq_true, decide_eq_true_eq] at h
  obtain ⟨⟨⟨h1, h2⟩, rfl⟩, h4⟩ := h
  refine se_fin (PE.mono (pe_stepL h4 (ha Hin T X _ h1 c).1 (hl Hin T X _ h2 c).1) fun σ H Q ⟨env, r, st, e, q⟩ => ?_) (fun _ => rfl)
  simp only [ev] at e
  split at e <;> try (cases e; done)
  rename_i x e1
  split at e <;> try (cases e; done)
  rename_i i e2
  split at e <;> try (cases e; done)
  rename_i ds e3
  split at e <;> try (cases e; done)
  rename_i hi
  cases e
  refine tE_of st e1 fun v H1 s1 r1 => tE_of (st.mono s1) e2 fun y H2 s2 r2 => ?_
  have rt := (r1.t (st.same.trans s1)).mono s2
  rw [e3] at rt
  obtain ⟨p, vs, rfl, hq, rl⟩ := rt
  refine ⟨i, rel_intE r2, p, vs, i.toNat, by rw [Int.toNat_of_nonneg hi], rfl, by rw [c.K]; exact hq, ?_⟩
  have hlen := rl.length
  rw [← hlen]
  exact offresh (fun v H'' s3 r3 => q v H'' ((s1.trans s2).trans s3) (r3.pre (s1.trans s2))) (RepL.step k _ (RepL.drop _ rl))
theorem se_lset (a : E) (ha : SE W g G a) : SE W g G (.lset a) := by
  intro Hin T X pe h c
  unfold okE at h
  split at h <;> try (cases h; done)
  all_goals try contradiction
  rename_i a' x px y py p q pos heq
  cases heq
  simp only [Bool.and_eq_true, decide_eq_true_eq] at h
  obtain ⟨⟨⟨⟨⟨rfl, h2⟩, rfl⟩, h4⟩, h5⟩, h6⟩ := h
  refine se_fin (PE.mono (pe_lenS c.calm (c.gl h2) (c.blt _ (by decide +kernel)) (c.gl h4) (c.blt _ (by decide +kernel)) (ha Hin T X _ h5 c).1 (star_ok h6)) fun σ H Q ⟨env, r, st, e, q⟩ => ?_) (fun _ => rfl)
  simp only [ev] at e
  split at e <;> try (cases e; done)
  rename_i x e1
  split at e <;> try (cases e; done)
  rename_i ds e2
  split at e <;> try (cases e; done)
  rename_i xs e3
  split at e <;> try (cases e; done)
  rename_i hl
  cases e
  refine tE_of st e1 fun v H1 s1 r1 => ?_
  have rt := r1.t (st.same.trans s1)
  rw [e2] at rt
  obtain ⟨p, vs, rfl, hq, rl⟩ := rt
  have ev := strs_reps e3 rl
  subst ev
  exact ⟨p, xs, rfl, by rw [c.K]; exact hq, hl, q _ H1 s1 rel_int⟩
/-! ### classes -/
theorem cls_at {c : Nat} {x : Str} (h : (g.cls[c]?).map (·.1) = some x) : ∃ fs, g.cls[c]? = some (x, fs) ∧ g.fs c = fs := by
  obtain ⟨p, h1, h2⟩ := Option.map_eq_some_iff.mp h
  refine ⟨p.2, ?_, ?_⟩
  · rw [h1, ← h2]
  · unfold Gi.fs; rw [h1]; rfl
theorem cls_lt {c : Nat} (h : c < g.cls.length) : ∃ x fs, g.cls[c]? = some (x, fs) ∧ g.fs c = fs := by
  refine ⟨(g.cls[c]).1, (g.cls[c]).2, ?_, ?_⟩
  · rw [List.getElem?_eq_getElem h]
  · unfold Gi.fs; rw [List.getElem?_eq_getElem h]; rfl
theorem evV_len {env : Env} : ∀ {es : Es} {ds : List D}, evV G es env = some ds → ds.length = es.len
  | .nil, ds, h => by simp only [evV] at h; cases h; rfl
  | .cons e es, ds, h => by
    simp only [evV] at h
    split at h <;> try (cases h; done)
    split at h <;> try (cases h; done)
    rename_i ds' h2
    cases h
    simp [Es.len, evV_len h2]
theorem same_make {W : Wd} {H : Hp} {x dx : Addr} {C : Addr} {fs : List (Str × V)} (h1 : H x = none) (h2 : H dx = none) : Same W H (upd (upd (upd H dx (.own x)) x (.ins C dx [])) x (.ins C dx fs)) := .of fun b o e => by
  rw [upd_ne (ne_of_none e h1), upd_ne (ne_of_none e h1), upd_ne (ne_of_none e h2)]
  exact e
theorem se_new (cc : Nat) (es : Es) (h' : SEs W g G es) : SE W g G (.new cc es) := by
  intro Hin T X pe h c
  cases es with
  | nil => cases pe <;> (simp only [okE] at h; cases h)
  | cons e0 es0 =>
    unfold okE at h
    split at h <;> try (cases h; done)
    all_goals try contradiction
    rename_i f' e' es' x p xs pos heq
    cases heq
    simp only [Bool.and_eq_true, decide_eq_true_eq] at h
    obtain ⟨⟨⟨⟨h1, h2⟩, h3⟩, h4⟩, h5⟩ := h
    have pd := plain_dbg h3
    obtain ⟨fs, hc, hfs⟩ := cls_at h1
    rw [hfs] at h5
    cases xs with
    | nil => simp only [okEs] at h4; cases h4
    | cons y ys =>
      have ns := okEs_star h4
      have hst : starEach (y :: ys) X.env = (false, eval y X.env) :: starEach ys X.env := star_ok (ns y List.mem_cons_self)
      have hpl : ∀ pos, (backTo pos (starEach ys X.env)).any (·.1) = false := fun pos => noany fun z hz => ns z (List.mem_cons_of_mem _ hz)
      obtain ⟨hm, hf, ck⟩ := c.cls cc x fs hc
      obtain ⟨k, ad, fd, ps, hr, M, hb, F⟩ := c.make cc x fs hc (by intro z; rw [z] at h5; simp [Es.len] at h5)
      refine se_fin (PE.mono (pe_make M F hr (c.gl h2) hm hb .nil pass0 (h'.v Hin T X _ h4 c) pd.1 hst (hpl _)) fun σ H Q ⟨env, r, st, e, q⟩ => ?_) (fun _ => rfl)
      simp only [ev] at e
      split at e <;> try (cases e; done)
      rename_i ds e1
      cases e
      have hl := evV_len e1
      refine ⟨env, ds, st, e1, fun vs H1 s1 rv x dx nx ndx ne => ?_⟩
      have hv := rv.length
      refine ⟨x, dx, vs, by rw [List.append_nil], upd_same, by omega, rfl, q _ _ (s1.trans (same_make nx ndx)) ?_⟩
      show Rep W _ (.ins cc ds) _
      simp only [Rep]
      refine ⟨x, dx, vs, rfl, by rw [upd_same, hf], by rw [hf]; omega, RepL.fx (.of_same (same_make (W := W) nx ndx)) _ _ rv⟩
theorem lookup_zip : ∀ {fs : List Str} {vs : List V} {i : Nat} {n : Str} {v : V}, fs[i]? = some n → vs[i]? = some v → (∀ j, j < i → fs[j]? ≠ some n) → (fs.zip vs).lookup n = some v
  | [], _, i, n, v, h, _, _ => by simp at h
  | _ :: _, [], i, n, v, _, h, _ => by simp at h
  | f :: fs, u :: vs, 0, n, v, h, k, _ => by
    simp at h k
    subst h k
    simp [List.lookup]
  | f :: fs, u :: vs, i + 1, n, v, h, k, m => by
    have hne : f ≠ n := fun z => m 0 (Nat.succ_pos _) (by simp [z])
    rw [List.zip_cons_cons, List.lookup_cons]
    have : (n == f) = false := beq_eq_false_iff_ne.mpr (Ne.symm hne)
    rw [this]
    exact lookup_zip (by simpa using h) (by simpa using k) fun j hj z => m (j + 1) (Nat.succ_lt_succ hj) (by simpa using z)
theorem lookup_no : ∀ {fs : List Str} {vs : List V} {n : Str}, n ∉ fs → (fs.zip vs).lookup n = none
  | [], _, _, _ => rfl
  | _ :: _, [], _, _ => rfl
  | f :: fs, u :: vs, n, h => by
    simp only [List.mem_cons, not_or] at h
    rw [List.zip_cons_cons, List.lookup_cons]
    have : (n == f) = false := beq_eq_false_iff_ne.mpr h.1
    rw [this]
    exact lookup_no h.2
theorem ixOf_ok {fs : List Str} {i : Nat} {n : Str} (h : fs.idxOf? n = some i) : fs[i]? = some n ∧ ∀ j, j < i → fs[j]? ≠ some n := by
  rw [List.idxOf?, List.findIdx?_eq_some_iff_getElem] at h
  obtain ⟨h1, h2, h3⟩ := h
  refine ⟨by rw [List.getElem?_eq_getElem h1]; simpa using h2, fun j hj z => ?_⟩
  have := h3 j hj
  rw [List.getElem?_eq_getElem (by omega)] at z
  simp at z
  simp [z] at this
theorem se_fld (a : E) (cc i : Nat) (ha : SE W g G a) : SE W g G (.fld a cc i) := by
  intro Hin T X pe h c
  unfold okE at h
  split at h <;> try (cases h; done)
  all_goals try contradiction
  rename_i a' cc' i' v n pos heq
  cases heq
  simp only [Bool.and_eq_true, decide_eq_true_eq] at h
  obtain ⟨⟨⟨h1, h2⟩, h3⟩, h4⟩ := h
  obtain ⟨x, fs, hc, hfs⟩ := cls_lt h3
  rw [hfs] at h4
  obtain ⟨hm, hf, ck⟩ := c.cls cc x fs hc
  obtain ⟨k1, k2⟩ := ixOf_ok h4
  refine se_fin (PE.mono (pe_fld (ha Hin T X _ h1 c).1 (abase h2)) fun σ H Q ⟨env, r, st, e, q⟩ => ?_) (fun _ => rfl)
  simp only [ev] at e
  split at e <;> try (cases e; done)
  rename_i c' ds e1
  split at e <;> try (cases e; done)
  rename_i ec
  subst ec
  obtain ⟨d, e2, rfl⟩ := Option.map_eq_some_iff.mp e
  refine tE_of st e1 fun v H1 s1 r1 => ?_
  have r1 : Rep W H1 (.ins c' ds) v := r1
  simp only [Rep] at r1
  obtain ⟨p, dx, vs, rfl, hp, hl, rl⟩ := r1
  obtain ⟨u, hu, ru⟩ := rl.get e2
  refine ⟨p, W.cls c', dx, _, u, rfl, hp, ck.cl, ck.no n (List.mem_of_getElem? k1), ?_, q u H1 s1 ru⟩
  rw [hf]
  exact lookup_zip k1 hu k2
theorem PE.all {X : Cx} {e : Expr} {ι : Type} {t : ι → TE} (h : ∀ i, PE X e (t i)) : PE X e (fun σ H Q => ∃ i, t i σ H Q) := ⟨fun pins s σ H Q I ⟨i, w⟩ => (h i).run pins s σ H Q I w⟩
theorem PE.never {X : Cx} {e : Expr} : PE X e (fun _ _ _ => False) := ⟨fun pins s σ H Q I w => w.elim⟩
theorem mc_form {o y : Expr} {ys : List Expr} {m : Str} {apos pos : Pos} {env : PySem.Env} (hb : attributeBase o m env (eval o env) = eval o env) (hs : ∀ z ∈ y :: ys, noStar z = true) (hl : (y :: ys).length < 20) (hp : (apos.endLine == pos.line) = true) :
    eval (.Call (.Attribute o m apos) (y :: ys) [] pos) env = (do
      let ov ← eval o env
      standAt apos.atName
      let (f, first) ← holding [ov] (getMethod ov m (do return (← importBound o env).getD true))
      callWith pos f first (backTo pos (starEach (y :: ys) env)) (backToKw pos (keywordEach [] env))) := by
  rw [arm_eval_Call, hb]
  have hf : methodCallForm ((y :: ys).length + ([] : List Keyword).length) (backTo pos (starEach (y :: ys) env)) (backToKw pos (keywordEach [] env)) = true := by
    unfold methodCallForm
    have h1 : (backTo pos (starEach (y :: ys) env)).all (fun x => !x.1) = true := by
      have := noany (es := y :: ys) (env := env) (pos := pos) hs
      rw [List.all_eq_true]
      intro x hx
      have h2 := List.any_eq_false.mp this x hx
      simpa using h2
    rw [h1]
    have h3 : (backToKw pos (keywordEach [] env)).all (fun x => x.1.isSome) = true := rfl
    have h4 : (backToKw pos (keywordEach [] env)).isEmpty = true := rfl
    rw [h3, h4]
    simp only [List.length_nil, Nat.add_zero, if_true, Bool.true_and, decide_eq_true_eq]
    omega
  unfold methodCall
  rw [hf]
  unfold calleeOf methodCallPos
  simp only [if_true, Bool.not_true, Bool.false_or, hp, pure_bind]
theorem se_mcall (m : Str) (tb : List (Nat × Nat)) (a : E) (es : Es) (ha : SE W g G a) (h' : SEs W g G es) : SE W g G (.mcall m tb a es) := by
  intro Hin T X pe h c
  cases es with
  | nil => cases pe <;> (simp only [okE] at h; cases h)
  | cons e0 es0 =>
    unfold okE at h
    split at h <;> try (cases h; done)
    all_goals try contradiction
    rename_i m' tb' a' e' es' v n ap xs p heq
    cases heq
    simp only [Bool.and_eq_true, decide_eq_true_eq, List.all_eq_true] at h
    obtain ⟨⟨⟨⟨⟨⟨rfl, h2⟩, h3⟩, h4⟩, h5⟩, h6⟩, h7⟩ := h
    cases xs with
    | nil => simp only [okEs] at h4; cases h4
    | cons y ys =>
      have ns := okEs_star h4
      have hst : starEach (y :: ys) X.env = (false, eval y X.env) :: starEach ys X.env := star_ok (ns y List.mem_cons_self)
      have hpl : ∀ pos, (backTo pos (starEach ys X.env)).any (·.1) = false := fun pos => noany fun z hz => ns z (List.mem_cons_of_mem _ hz)
      have key : ∀ cc : Nat, PE X (.Call (.Attribute v n ap) (y :: ys) [] p) (fun σ H Q => ∃ env r fs, ev G a env = some (.val (.ins cc fs)) ∧ StR W Hin H σ env ∧ ev G (.mcall n tb a (.cons e0 es0)) env = some r ∧ ∀ v H', Same W H H' → RelR W Hin H H' v r → Q v H') := by
        intro cc
        cases hL : tb.lookup cc with
        | none =>
          refine PE.mono PE.never fun σ H Q ⟨env, r, fs, e0, st, e, q⟩ => ?_
          simp only [ev, e0, hL] at e
          split at e <;> cases e
        | some f =>
          cases hG : G f with
          | none =>
            refine PE.mono PE.never fun σ H Q ⟨env, r, fs, e0, st, e, q⟩ => ?_
            simp only [ev, e0, hL, hG] at e
            split at e <;> cases e
          | some sem =>
            obtain ⟨⟨h8, h9⟩, h10⟩ := h7 (cc, f) (mem_lk hL)
            obtain ⟨x, fs0, hc, hfs⟩ := cls_lt h10
            obtain ⟨hm, hf, ck⟩ := c.cls cc x fs0 hc
            obtain ⟨k, ad, fd, ps, hr, M, hb, F⟩ := c.meth cc n f sem h8 hG
            refine PE.mono (pe_meth (ha Hin T X _ h2 c).1 ck.cl M F hr hb .nil pass0 (h'.a Hin T X _ h4 c) hst (hpl _) (mc_form (abase h3) ns h6 h5)) fun σ H Q ⟨env, r, fs, e0, st, e, q⟩ => ?_
            simp only [ev, e0, hL, hG] at e
            split at e <;> try (cases e; done)
            rename_i as e1
            split at e <;> try (cases e; done)
            rename_i r0 e2
            split at e <;> try (cases e; done)
            rename_i hp
            cases e
            refine tE_of st e0 fun v H1 s1 r1 => ?_
            have r1' : Rep W H1 (.ins cc fs) v := r1
            simp only [Rep] at r1'
            obtain ⟨pp, dx, vs, ev', hpp, hl, rl⟩ := r1'
            refine ⟨pp, dx, _, ev', hpp, ?_, env, as, st.mono s1, e1, fun ws H2 s2 ra => ?_⟩
            · rw [hf]
              exact lookup_no (by rw [← hfs]; exact h9)
            · refine ⟨.fz (.ins cc fs) :: as, r, .cons ?_ (fun _ z => by cases z) (by rw [List.append_nil]; exact ra), e2, hp, fun v H3 s3 r3 => q v H3 ((s1.trans s2).trans s3) ?_⟩
              · show Rep W H2 _ _
                exact Rep.fx (.of_same s2) _ _ r1
              · cases r with
                | val d => exact r3
                | fresh ds => obtain ⟨a, vs, e, n, q, r⟩ := r3; exact ⟨a, vs, e, (s1.trans s2).free n, q, r⟩
                | vown ds => cases hp
                | vpar ds => cases hp
      refine se_fin (PE.mono (PE.all key) fun σ H Q ⟨env, r, st, e, q⟩ => ?_) (fun _ => rfl)
      have e' := e
      simp only [ev] at e'
      split at e' <;> try (cases e'; done)
      rename_i cc fs e1
      exact ⟨cc, env, r, fs, e1, st, e, q⟩
theorem se_isic (a : E) (cc : Nat) (tb : List (Nat × Bool)) (ha : SE W g G a) : SE W g G (.isic a cc tb) := by
  intro Hin T X pe h c
  unfold okE at h
  split at h <;> try (cases h; done)
  all_goals try contradiction
  rename_i a' cc' tb' x px y z pz pos heq
  cases heq
  simp only [Bool.and_eq_true, decide_eq_true_eq, List.all_eq_true] at h
  obtain ⟨⟨⟨⟨⟨⟨⟨rfl, h2⟩, h3⟩, h4⟩, h5⟩, h6⟩, h7⟩, h8⟩ := h
  have hst : starEach [y, .Name z pz] X.env = (false, eval y X.env) :: starEach [.Name z pz] X.env := star_ok h4
  have pd := plain_dbg h6
  obtain ⟨fs0, hc, hfs⟩ := cls_at h7
  obtain ⟨hm, hf, ck⟩ := c.cls cc z fs0 hc
  have hz : PE X (.Name z pz) (tC (.ref (W.cls cc))) := pe_glob (v := .ref (W.cls cc)) (c.gl h5) hm rfl pd.1
  have hpa : PA X [y, .Name z pz] (tCons (tE W Hin (ev G a)) (tCons (tC (.ref (W.cls cc))) tNil)) := pa_cons (ha Hin T X _ h3 c).1 (pa_cons hz pa_nil) hst
  refine se_fin (PE.mono (pe_callB call_isi (c.gl h2) (c.blt _ (by decide +kernel)) (by decide +kernel) hpa (by decide +kernel) (by decide +kernel) hst rfl) fun σ H Q ⟨env, r, st, e, q⟩ => ?_) (fun _ => rfl)
  simp only [ev] at e
  split at e <;> try (cases e; done)
  rename_i c1 fs e1
  obtain ⟨k, e2, rfl⟩ := Option.map_eq_some_iff.mp e
  obtain ⟨h9, h10⟩ := h8 (c1, k) (mem_lk e2)
  obtain ⟨x1, fs1, hc1, hfs1⟩ := cls_lt h10
  obtain ⟨hm1, hf1, ck1⟩ := c.cls c1 x1 fs1 hc1
  refine tE_of st e1 fun v H1 s1 r1 => ?_
  have r1 : Rep W H1 (.ins c1 fs) v := r1
  simp only [Rep] at r1
  obtain ⟨pp, dx, vs, rfl, hpp, hl, rl⟩ := r1
  exact ⟨.ref pp, .ref (W.cls cc), _, _, k, rfl, .own _, .base (.ins hpp ck1.cl ck1.ha ck1.hn ck1.htk ck1.hm), c.isa _ _ _ h9, q _ H1 s1 rel_bl⟩
end
end Mc
namespace Mc
open PySem PySem.Spec PyProof.Rows L2
/-! ### sorted(rows, key=len) -/
def leB {α : Type} (a b : α × Nat) : Bool := decide (a.2 ≤ b.2)
def tSortl (K : PySem.W.Frag) (ta : TE) : TE := fun σ H Q => ta σ H fun x H1 => ∃ (l : Addr) (bs : List (V × Nat)), x = .ref l ∧ SqL K H1 l (bs.map (·.1)) ∧ (∀ b ∈ bs, ∃ a ys, b.1 = .ref a ∧ SqL K H1 a ys ∧ ys.length = b.2) ∧
  ∀ p, H1 p = none → Q (.ref p) (upd H1 p (.lst ((bs.mergeSort leB).map (·.1))))
theorem each_of : ∀ {bs : List (V × Nat)} {us : List Value}, Vals (bs.map (·.1)) us → PySem.W.EachIs (fun (u : Value) (x : V × Nat) => RelV x.1 u) us bs
  | [], _, .nil => .nil
  | b :: bs, _, .cons r t => .cons r (each_of t)
theorem of_each : ∀ {bs : List (V × Nat)} {us : List Value}, PySem.W.EachIs (fun (u : Value) (x : V × Nat) => RelV x.1 u) us bs → Vals (bs.map (·.1)) us
  | _, _, .nil => .nil
  | _, _, .cons r t => .cons r (of_each t)
theorem pe_sortl {X : Cx} {a : Expr} {ta : TE} {p p2 kp pos : Pos} (hu : X.A.units + 65 < cLine) (hg : Gl X "sorted") (hm : X.mg "sorted" = none) (hg2 : Gl X "len") (hm2 : X.mg "len" = none) (ha : PE X a ta)
    (na : starEach [a] X.env = (false, eval a X.env) :: starEach [] X.env) : PE X (.Call (.Name "sorted" p) [a] [⟨some "key", .Name "len" p2, kp⟩] pos) (tSortl X.K ta) := by
  refine ⟨fun pins s σ H Q I h => ?_⟩
  refine wpAny_Call_Name_kw (ld_blt (u := .builtin "sorted") I hg hm (by decide +kernel) ?_)
  refine PyProof.Rows.callWith_kw (id := "sorted") (thn ((pa_cons ha pa_nil na).run pos pins s σ H (fun vs H1 => match vs with
    | [x] => ∃ (l : Addr) (bs : List (V × Nat)), x = .ref l ∧ SqL X.K H1 l (bs.map (·.1)) ∧ (∀ b ∈ bs, ∃ a ys, b.1 = .ref a ∧ SqL X.K H1 a ys ∧ ys.length = b.2) ∧
      ∀ p, H1 p = none → Q (.ref p) (upd H1 p (.lst ((bs.mergeSort leB).map (·.1))))
    | _ => False) I h) fun us s1 ⟨vs, H1, I1, r1, q1⟩ => ?_) (by rw [na]; rfl) (by rw [na]; rfl) rfl rfl
  show wpAny _ _ (evalAll [(do let v ← eval (.Name "len" p2) X.env; standAt pos; pure v)]) _ _ s1
  refine wpAny_evalAll_cons (wpAny_bind (ld_blt I1 hg2 hm2 boot_len (wpAny_bind (wpAny_standAt (wpAny_pure (wpAny_evalAll_nil ?_))))))
  cases r1 with
  | nil => exact q1.elim
  | cons rx rr =>
   cases rr with
   | cons _ _ => exact q1.elim
   | nil =>
    obtain ⟨l, bs, e, hq, hall, q⟩ := q1
    cases e
    cases rx
    obtain ⟨its, r, pl, hz⟩ := I1.list hq
    have hlen : bs.length ≤ sizeLine := by rw [List.length_map] at hz; exact hz
    show wpAny (model X.prog X.w) X.A (call (.builtin "sorted") [.ref l] [(Str.ofString "key", .builtin "len")]) _ _ s1
    refine PySem.W.sorted_key_data (β := V × Nat) (R := fun (u : Value) (x : V × Nat) => RelV x.1 u) (vs := its) (bs := bs) (b := false) (f := .builtin "len") (fun x => .int (x.2 : Int)) pl.isList (each_of r) ?_ ?_ hlen ?_ (ksk_s1 _ _) (fun x => ksk_l1 _ _) (fun x => ksk_t4 "len" x) ?_ ?_
    · intro d hd d' hd'
      obtain ⟨x, _, rfl⟩ := List.mem_map.1 hd
      obtain ⟨y, _, rfl⟩ := List.mem_map.1 hd'
      rfl
    · right
      intro d hd
      obtain ⟨x, _, rfl⟩ := List.mem_map.1 hd
      exact ⟨fun z => (by cases z), fun xs z => (by cases z)⟩
    · intro x _
      show X.A.units + 2 + 0 < cLine
      omega
    · intro v x hR hx h tk keep
      obtain ⟨a, ys, e1, hs, hl⟩ := hall x hx
      have hR : RelV x.1 v := hR
      rw [e1] at hR
      cases hR
      obtain ⟨its2, r2, pl2, hz2⟩ := I1.list hs
      have hL : h.IsList a its2.toArray := by
        obtain ⟨o, ho, hc, n, hd⟩ := pl2.isList
        exact ⟨o, keep _ _ ho, hc, n, hd⟩
      have hn2 := r2.length
      have hsz : its2.toArray.size = x.2 := by rw [List.size_toArray, ← hn2, hl]
      have hn := line63
      refine Calls.call_len_list (s := { s1 with heap := h, toks := tk }) hL (by rw [hsz, ← hl]; omega) ?_
      refine ⟨h, tk + 1 + 1, rfl, fun b o e => e, ?_⟩
      rw [hsz]
      exact .int _ _
    · intro out c h' tk keep fresh hD hl he
      have e2 : bs.mergeSort (PySem.W.dataLe false fun x => .int (x.2 : Int)) = bs.mergeSort leB := by
        rw [PySem.W.dataLe_int]
        congr 1
        funext a b
        unfold leB
        rw [Bool.eq_iff_iff, decide_eq_true_eq, decide_eq_true_eq]
        omega
      rw [e2] at he
      have hv := of_each he
      refine ⟨.ref _, _, I1.laid (t' := tk) (o := .lst ((bs.mergeSort leB).map (·.1))) keep (Nat.le_succ _) ?_, rfl, q _ (I1.hok.fresh (Nat.le_succ _))⟩
      refine ⟨?_, out, c, hv, hD⟩
      rw [List.length_map, List.length_mergeSort]
      exact hlen
/-! the small language's own sort is that one -/
def leN (a b : Nat × D) : Bool := decide (a.1 ≤ b.1)
theorem ins_at (x : Nat × D) : ∀ (l1 l2 : List (Nat × D)), (∀ b ∈ l1, (!leN x b) = true) → (∀ b ∈ l2, leN x b = true) → insL x (l1 ++ l2) = l1 ++ x :: l2
  | [], [], _, _ => rfl
  | [], y :: r, _, h => by
    have := h y (List.mem_cons_self ..)
    have h1 : x.1 ≤ y.1 := of_decide_eq_true this
    simp [insL, h1]
  | y :: l1, l2, h1, h2 => by
    have := h1 y (List.mem_cons_self ..)
    have h3 : ¬ x.1 ≤ y.1 := by
      intro z
      unfold leN at this
      rw [decide_eq_true z] at this
      cases this
    rw [List.cons_append, insL, if_neg h3, ins_at x l1 l2 (fun b hb => h1 b (List.mem_cons_of_mem _ hb)) h2]
    rfl
theorem leN_trans (a b c : Nat × D) (h1 : leN a b = true) (h2 : leN b c = true) : leN a c = true := by
  unfold leN at *
  simp only [decide_eq_true_eq] at *
  omega
theorem leN_total (a b : Nat × D) : (leN a b || leN b a) = true := by
  unfold leN
  simp only [Bool.or_eq_true, decide_eq_true_eq]
  omega
theorem sortL_eq : ∀ l : List (Nat × D), sortL l = l.mergeSort leN
  | [] => by simp [sortL]
  | x :: l => by
    obtain ⟨l1, l2, h1, h2, h3⟩ := List.mergeSort_cons leN_trans leN_total x l
    rw [sortL, sortL_eq l, h2, h1]
    have hs := List.pairwise_mergeSort leN_trans leN_total (x :: l)
    rw [h1, List.pairwise_append] at hs
    exact ins_at x l1 l2 h3 (List.pairwise_cons.1 hs.2.1).1
section
variable {W : Wd} {g : Gi} {G : Gm}
theorem lens_reps {H : Hp} : ∀ {ds : List D} {xs : List (Nat × D)} {vs : List V}, lensD ds = some xs → RepL W H ds vs → ∃ ts : List (Nat × D × V), xs = ts.map (fun t => (t.1, t.2.1)) ∧ vs = ts.map (fun t => t.2.2) ∧ ∀ t ∈ ts, Rep W H t.2.1 t.2.2 ∧ ∃ a ys, t.2.2 = .ref a ∧ SqL W.K H a ys ∧ ys.length = t.1
  | [], xs, vs, h, r => by
    simp only [lensD] at h; cases h
    simp only [RepL] at r; subst r
    exact ⟨[], rfl, rfl, by simp⟩
  | d :: ds, xs, vs, h, r => by
    simp only [RepL] at r
    obtain ⟨v, t, rfl, r1, r2⟩ := r
    rw [lensD] at h
    cases hd : lenD d with
    | none => rw [hd] at h; cases h
    | some n =>
      rw [hd] at h
      obtain ⟨ys, h1, rfl⟩ := Option.map_eq_some_iff.1 h
      obtain ⟨ts, e1, e2, e3⟩ := lens_reps h1 r2
      refine ⟨(n, d, v) :: ts, by simp [e1], by simp [e2], ?_⟩
      intro t ht
      rcases List.mem_cons.1 ht with rfl | ht
      · refine ⟨r1, ?_⟩
        cases d with
        | lst es =>
          simp only [lenD] at hd
          cases hd
          simp only [Rep] at r1
          obtain ⟨a, ws, e, q, rl⟩ := r1
          exact ⟨a, ws, e, q.sq, rl.length.symm⟩
        | _ => simp only [lenD] at hd; cases hd
      · exact e3 t ht
theorem reps_map {H : Hp} : ∀ (ts : List (Nat × D × V)), (∀ t ∈ ts, Rep W H t.2.1 t.2.2) → RepL W H (ts.map fun t => t.2.1) (ts.map fun t => t.2.2)
  | [], _ => .nil
  | t :: ts, h => .cons (h t (List.mem_cons_self ..)) (reps_map ts fun u hu => h u (List.mem_cons_of_mem _ hu))
theorem se_sortl (a : E) (ha : SE W g G a) : SE W g G (.sortl a) := by
  intro Hin T X pe h c
  unfold okE at h
  split at h <;> try (cases h; done)
  all_goals try contradiction
  rename_i a' x px p y z pz pk pos heq
  cases heq
  simp only [Bool.and_eq_true, decide_eq_true_eq] at h
  obtain ⟨⟨⟨⟨⟨⟨rfl, h2⟩, rfl⟩, rfl⟩, h5⟩, h6⟩, h7⟩ := h
  refine se_fin (PE.mono (pe_sortl c.un (c.gl h2) (c.blt _ (by decide +kernel)) (c.gl h5) (c.blt _ (by decide +kernel)) (ha Hin T X _ h6 c).1 (star_ok h7)) fun σ H Q ⟨env, r, st, e, q⟩ => ?_) (fun _ => rfl)
  simp only [ev] at e
  split at e <;> try (cases e; done)
  rename_i x e1
  split at e <;> try (cases e; done)
  rename_i ds e2
  split at e <;> try (cases e; done)
  rename_i xs e3
  split at e <;> try (cases e; done)
  cases e
  refine tE_of st e1 fun v H1 s1 r1 => ?_
  have rt := r1.t (st.same.trans s1)
  rw [e2] at rt
  obtain ⟨p, vs, rfl, hq, rl⟩ := rt
  obtain ⟨ts, t1, t2, t3⟩ := lens_reps e3 rl
  subst t1 t2
  have k1 : (ts.mergeSort fun a b => decide (a.1 ≤ b.1)).map (fun t => (t.1, t.2.1)) = (ts.map fun t => (t.1, t.2.1)).mergeSort leN := List.map_mergeSort (r := fun (a b : Nat × D × V) => decide (a.1 ≤ b.1)) (fun a _ b _ => rfl)
  have k2 : (ts.mergeSort fun a b => decide (a.1 ≤ b.1)).map (fun t => (t.2.2, t.1)) = (ts.map fun t => (t.2.2, t.1)).mergeSort leB := List.map_mergeSort (r := fun (a b : Nat × D × V) => decide (a.1 ≤ b.1)) (fun a _ b _ => rfl)
  refine ⟨p, ts.map fun t => (t.2.2, t.1), rfl, by rw [c.K, List.map_map]; exact hq, ?_, ?_⟩
  · intro b hb
    obtain ⟨t, ht, rfl⟩ := List.mem_map.1 hb
    obtain ⟨a, ys, h1, h2, h3⟩ := (t3 t ht).2
    exact ⟨a, ys, h1, by rw [c.K]; exact h2, h3⟩
  · rw [sortL_eq, ← k1, List.map_map] at q
    rw [← k2, List.map_map]
    have hperm := List.mergeSort_perm ts (fun a b => decide (a.1 ≤ b.1))
    have hr := reps_map (W := W) (H := H1) (ts.mergeSort fun a b => decide (a.1 ≤ b.1)) fun t ht => (t3 t (hperm.mem_iff.1 ht)).1
    exact offresh (fun v H'' s2 r3 => q v H'' (s1.trans s2) (r3.pre s1)) hr
end
/-! ### a text turned about -/
def tRevS (te : TE) : TE := fun σ H Q => te σ H fun x H1 => ∃ l : List Nat, x = .str ⟨⟨l⟩⟩ ∧ l.length ≤ sizeLine ∧ Q (.str ⟨⟨l.reverse⟩⟩) H1
theorem rev_pick (l : List Nat) : (Builtin.Str.strSliceIndices none none (-1) l.length).filterMap ((⟨l⟩ : Array Nat)[·]?) = l.reverse := by
  have e : Builtin.Str.strSliceIndices none none (-1) l.length = (List.range l.length).map fun k => l.length - 1 - k := by
    show sliceRange ((l.length : Int) - 1) (-1) (-1) = _
    exact PySem.W.krv_sliceRange _
  rw [e, PySem.W.krv_range, List.filterMap_reverse]
  have := PySem.W.krv_all (⟨l⟩ : Array Nat)
  rw [show (⟨l⟩ : Array Nat).size = l.length from rfl] at this
  rw [this]
theorem pe_revS {X : Cx} {e : Expr} {te : TE} {k : Nat} {p1 p2 p3 pos : Pos} (he : PE X e te) : PE X (.Subscript e (.Slice none none (some (.UnaryOp .USub (.Constant (.int 1) k p1) p2)) p3) pos) (tRevS te) := by
  refine ⟨fun pins s σ H Q I h => ?_⟩
  refine Subscript_ (thn (he.run pins s σ H _ I h) fun v s1 ⟨x, H1, I1, r1, q1⟩ => ?_)
  obtain ⟨l, ex, hl, q⟩ := q1
  subst ex
  obtain ⟨t, rfl⟩ := r1
  have hst : PO X (some (.UnaryOp .USub (.Constant (.int 1) k p1) p2)) (tPart (tUn (rU fun i => .int (-i)) (tC (.int 1)))) := po_some (pe_un un_neg pe_int)
  refine wpAny_Slice (thn (po_none.run pins s1 σ H1 (fun o H2 => o = none ∧ H2 = H1) I1 ⟨rfl, rfl⟩) fun vl s2 ⟨lo, H2, I2, pl, el, e2⟩ => ?_)
  subst el e2
  refine thn (po_none.run pins s2 σ H2 (fun o H3 => o = none ∧ H3 = H2) I2 ⟨rfl, rfl⟩) fun vu s3 ⟨u, H3, I3, pu, eu, e3⟩ => ?_
  subst eu e3
  refine thn (hst.run pins s3 σ H3 (fun o H4 => o = some (-1) ∧ H4 = H3) I3 ⟨1, rfl, -1, rfl, rfl, rfl⟩) fun vs s4 ⟨o, H4, I4, ps, eo, e4⟩ => ?_
  subst eo e4
  obtain rfl : vl = .none := by cases pl; rfl
  obtain rfl : vu = .none := by cases pu; rfl
  obtain ⟨tk, rfl⟩ : ∃ tk, vs = .int (-1) tk := by
    cases ps with
    | int i t => exact ⟨t, rfl⟩
  let so : Obj := { cls := .type "slice", data := .fields #[.none, .none, .int (-1) tk] }
  have I5 : Inv X pins σ H4 { s4 with heap := s4.heap.push so } := I4.kept (t' := s4.toks) fun b ob z => Heap.get?_push_of_some _ z
  show wpAny (model X.prog X.w) X.A (subscriptTail e (.Slice none none (some (.UnaryOp .USub (.Constant (.int 1) k p1) p2)) p3) (.str ⟨⟨l⟩⟩ t) (.ref s4.heap.objs.size)) (EP X pins σ Q) X.xe { s4 with heap := s4.heap.push so }
  refine tail_any (ops := [.str ⟨⟨l⟩⟩ t, .ref s4.heap.objs.size]) (typeIs_str _ _ _) (PySem.F.slot_str_getitem.lookup) ?_ (by with_unfolding_all rfl)
  refine wpAny_getItem_str_slice (l := none) (u := none) (st := some (-1, tk)) ⟨so, Heap.get?_push_size _ rfl, rfl, rfl⟩ rfl ?_
  have e5 : sliceMade ⟨⟨l⟩⟩ t none none (some (-1, tk)) = .str ⟨⟨l.reverse⟩⟩ := by
    unfold sliceMade slicePicked
    have hne : (((some ((-1 : Int), tk)).map (·.1)).getD 1 == 1) = false := rfl
    rw [hne, Bool.false_and]
    simp only [Bool.false_eq_true, if_false]
    congr 1
    have := rev_pick l
    exact congrArg (fun z => Str.mk (List.toArray z)) this
  rw [e5]
  exact ⟨by show l.reverse.length ≤ sizeLine; rw [List.length_reverse]; exact hl, .str ⟨⟨l.reverse⟩⟩, H4, I5.tok _, ⟨_, rfl⟩, q⟩
section
variable {W : Wd} {g : Gi} {G : Gm}
theorem se_revs (a : E) (ha : SE W g G a) : SE W g G (.revs a) := by
  intro Hin T X pe h c
  unfold okE at h
  split at h <;> try (cases h; done)
  all_goals try contradiction
  rename_i a' v0 _ _ _ _ _ heq
  cases heq
  refine se_fin (PE.mono (pe_revS (ha Hin T X _ h c).1) fun σ H Q ⟨env, r, st, e, q⟩ => ?_) (fun _ => rfl)
  simp only [ev] at e
  split at e <;> try (cases e; done)
  rename_i l e1
  split at e <;> try (cases e; done)
  rename_i hl
  cases e
  refine tE_of st e1 fun v H1 s1 r1 => ?_
  have rt := r1.t (st.same.trans s1)
  exact ⟨l, rt.str, by rw [← LINE_eq]; exact hl, q _ H1 s1 (rep_str : Rep W H1 _ _)⟩
end
end Mc
namespace Mc
open PySem PySem.Spec PyProof.Rows L2
open Builtin Builtin.Str
/-! ### text.replace(one sign, another, 1), where a token is out -/
theorem repl1_of (x y : Nat) : ∀ (pre post : List Nat), x ∉ pre → repl1 x y (pre ++ x :: post) = pre ++ y :: post
  | [], post, _ => by simp [repl1]
  | c :: pre, post, h => by
    have h1 : ¬ c = x := fun e => h (by simp [e])
    have h2 : x ∉ pre := fun e => h (by simp [e])
    show (if c = x then _ else _) = _
    have := repl1_of x y pre post h2
    rw [if_neg h1]
    exact congrArg (c :: ·) this
theorem repl1_no (x y : Nat) : ∀ (l : List Nat), x ∉ l → repl1 x y l = l
  | [], _ => rfl
  | c :: l, h => by
    have h1 : ¬ c = x := fun e => h (by simp [e])
    have h2 : x ∉ l := fun e => h (by simp [e])
    show (if c = x then _ else _) = _
    rw [if_neg h1, repl1_no x y l h2]
theorem repl1_len (x y : Nat) : ∀ (l : List Nat), (repl1 x y l).length = l.length
  | [] => rfl
  | c :: l => by
    show (if c = x then _ else _ : List Nat).length = _
    split
    · rfl
    · simp [repl1_len x y l]
theorem occ1 (l : List Nat) (x y : Nat) : (occurrences ⟨⟨l⟩⟩ ⟨⟨[x]⟩⟩ 0 l.length 1 = [] ∧ repl1 x y l = l) ∨
    ∃ i, occurrences ⟨⟨l⟩⟩ ⟨⟨[x]⟩⟩ 0 l.length 1 = [i] ∧ glued ⟨⟨[y]⟩⟩ (partsBetween ⟨⟨l⟩⟩ [i] 1) = ⟨⟨repl1 x y l⟩⟩ := by
  have hlen := StrLaws.occ_length_le ⟨⟨l⟩⟩ ⟨⟨[x]⟩⟩ 0 l.length 1
  rcases StrLaws.occ_head ⟨⟨l⟩⟩ ⟨⟨[x]⟩⟩ 1 (Nat.le_refl _) with ⟨h1, h2⟩ | ⟨i, r, h1, h2, h3⟩
  · refine .inl ⟨h1, repl1_no x y l fun hm => ?_⟩
    obtain ⟨j, hj⟩ := List.mem_iff_getElem?.1 hm
    exact h2 j ((StrLaws.subAt_one ⟨⟨l⟩⟩ x j).2 hj)
  · have h1' : occurrences ⟨⟨l⟩⟩ ⟨⟨[x]⟩⟩ 0 l.length 1 = i :: r := h1
    rw [h1'] at hlen
    have hr : r = [] := by cases r with | nil => rfl | cons a b => simp at hlen
    subst hr
    refine .inr ⟨i, h1', ?_⟩
    have hi : l[i]? = some x := (StrLaws.subAt_one ⟨⟨l⟩⟩ x i).1 h2
    obtain ⟨hlt, hx⟩ := List.getElem?_eq_some_iff.1 hi
    have hsp : l = l.take i ++ x :: l.drop (i + 1) := by
      rw [← hx]; simp
    have hno : x ∉ l.take i := fun hm => by
      obtain ⟨j, hj⟩ := List.mem_iff_getElem?.1 hm
      have hji : j < i := by
        have := (List.getElem?_eq_some_iff.1 hj).1
        rw [List.length_take] at this; omega
      rw [List.getElem?_take_of_lt hji] at hj
      exact h3 j hji ((StrLaws.subAt_one ⟨⟨l⟩⟩ x j).2 hj)
    have er : repl1 x y l = l.take i ++ y :: l.drop (i + 1) := by
      conv => lhs; rw [hsp]
      exact repl1_of x y _ _ hno
    rw [er]
    have e1 : (⟨l⟩ : Array Nat).extract 0 i = ⟨l.take i⟩ := by
      apply Array.toList_inj.1; simp
    have e2 : (⟨l⟩ : Array Nat).extract (i + 1) l.length = ⟨l.drop (i + 1)⟩ := by
      apply Array.toList_inj.1
      simp only [Array.toList_extract, List.extract_eq_take_drop]
      exact List.take_of_length_le (by rw [List.length_drop]; exact Nat.le_refl _)
    show (⟨((⟨l⟩ : Array Nat).extract 0 i) ++ (⟨[y]⟩ : Array Nat) ++ ((⟨l⟩ : Array Nat).extract (i + 1) l.length)⟩ : Str) = _
    rw [e1, e2]
    simp
theorem gives_repl1 (l : List Nat) (x y : Nat) (t u v k : Tok) (hxy : x ≠ y) (hu : u ≠ 0) (hv : v ≠ 0) (huv : u ≠ v) (hl : l.length ≤ 1000) :
    Gives («str.replace» ⟨[.str ⟨⟨l⟩⟩ t, .str ⟨⟨[x]⟩⟩ u, .str ⟨⟨[y]⟩⟩ v, .int 1 k], []⟩) (if (occurrences ⟨⟨l⟩⟩ ⟨⟨[x]⟩⟩ 0 l.length 1).isEmpty = true then .val (.str ⟨⟨l⟩⟩ t) else .str ⟨⟨repl1 x y l⟩⟩) := by
  show Gives (if ((occurrences ⟨⟨l⟩⟩ ⟨⟨[x]⟩⟩ 0 l.length 1).isEmpty || false) = true then (do rule "str.replace.nothing"; ret (.str ⟨⟨l⟩⟩ t)) else
          (do let same ← isSame (.str ⟨⟨[x]⟩⟩ u) (.str ⟨⟨[y]⟩⟩ v)
              if same = true then (do rule "str.replace.old-is-new"; ret (.str ⟨⟨l⟩⟩ t)) else
              if tooLong (l.length + (occurrences ⟨⟨l⟩⟩ ⟨⟨[x]⟩⟩ 0 l.length 1).length * 1) = true then unsupported "str.replace:memory" else
              retStr (glued ⟨⟨[y]⟩⟩ (partsBetween ⟨⟨l⟩⟩ (occurrences ⟨⟨l⟩⟩ ⟨⟨[x]⟩⟩ 0 l.length 1) 1)))) _
  rcases occ1 l x y with ⟨h1, h2⟩ | ⟨i, h1, h2⟩
  · rw [h1]
    exact .rule (.of_eq rfl)
  · rw [h1, h2, isSame_str_other _ _ u v (by simp [hu, hv]) (by simp [huv]) (by
      apply Bool.eq_false_iff.2
      intro z
      have z := eq_of_beq z
      injection z with z
      have z := congrArg Array.toList z
      simp at z
      exact hxy z)]
    have ht : tooLong (l.length + [i].length * 1) = false := by
      unfold tooLong sizeLine
      exact decide_eq_false (by simp; omega)
    rw [ht]
    exact .of_eq rfl
theorem meth3 {prog : Program} {w : World} {A : Around} {E : Value → Shared → Prop} {s : Shared} {env : PySem.Env} {o a b c : Expr} {name : Str} {apos pos : Pos} {Q : Value → Shared → Prop}
    (h0 : attributeBase o name env (eval o env) = eval o env) (h1 : starEach [a, b, c] env = [(false, eval a env), (false, eval b env), (false, eval c env)]) (h2 : (apos.endLine == pos.line) = true)
    (h : wpAny (model prog w) A (eval o env) (fun v t => MethodOnS prog w A E name v pos [(false, eval a env), (false, eval b env), (false, eval c env)] Q t) E s) : wpAny (model prog w) A (eval (.Call (.Attribute o name apos) [a, b, c] [] pos) env) Q E s := by
  refine wpAny_Call_method_lateS h0 (by rw [h1]; (rfl)) h2 ?_
  rw [h1]
  exact (h)
def tRepl (x y : Nat) (k : Nat) (tS tA : TE) : TE := fun σ H Q => tS σ H fun v H1 => ∃ i : Int, v = .int i ∧
  ((i < (k : Int) → tA σ H1 fun v2 H2 => ∃ l : List Nat, v2 = .str ⟨⟨l⟩⟩ ∧ l.length ≤ 1000 ∧ Q (.str ⟨⟨repl1 x y l⟩⟩) H2) ∧ (¬ i < (k : Int) → tA σ H1 Q))
theorem pe_repl {X : Cx} {eS eA eB : Expr} {tS tA : TE} {x y k j0 j1 j2 j3 : Nat} {p0 p1 p2 p3 p4 apos pos pos2 : Pos} (hxy : x ≠ y) (hS : PE X eS tS) (hA : PE X eA tA) (hB : PE X eB tA)
    (hst : starEach [.Constant (.str ⟨⟨[x]⟩⟩) j1 p1, .Constant (.str ⟨⟨[y]⟩⟩) j2 p2, .Constant (.int 1) j3 p3] X.env = [(false, eval (.Constant (.str ⟨⟨[x]⟩⟩) j1 p1) X.env), (false, eval (.Constant (.str ⟨⟨[y]⟩⟩) j2 p2) X.env), (false, eval (.Constant (.int 1) j3 p3) X.env)] := by rfl)
    (hbase : attributeBase eA "replace" X.env (eval eA X.env) = eval eA X.env) (hline : (apos.endLine == pos.line) = true) :
    PE X (.IfExp (.Compare eS [.Lt] [.Constant (.int (k : Int)) j0 p0] p4) (.Call (.Attribute eA "replace" apos) [.Constant (.str ⟨⟨[x]⟩⟩) j1 p1, .Constant (.str ⟨⟨[y]⟩⟩) j2 p2, .Constant (.int 1) j3 p3] [] pos) eB pos2) (tRepl x y k tS tA) := by
  refine ⟨fun pins s σ H Q I h => ?_⟩
  refine wpAny_IfExp (wpAny_isTrue_Compare1 (thn (hS.run pins s σ H _ I h) fun v s1 ⟨xx, H1, I1, r1, i, e1, qT, qF⟩ => ?_) (nomark _))
  subst e1
  obtain ⟨ti, rfl⟩ := r1
  refine wpAny_Constant_int ?_
  refine wpAny_mono (PySem.wpAny_toks (op_lt pins { s1 with toks := s1.toks + 1 } σ H1 (.int i) (.int (k : Int)) _ _ (fun z H2 => z = .bl (decide (i < (k : Int))) ∧ H2 = H1) (I1.tok _) ⟨_, rfl⟩ ⟨_, rfl⟩ ⟨_, _, rfl, rfl, rfl, rfl⟩)) (fun c s3 q3 => ?_) fun _ _ z => z.2
  obtain ⟨hk, z, H3, I3, r3, e3, e4⟩ := q3
  subst e3 e4
  cases r3
  have hk1 : 1 ≤ s3.toks := Nat.le_trans (Nat.le_add_left 1 s1.toks) hk
  refine wpAny_truthy_bool ?_
  by_cases hc : i < (k : Int)
  · rw [decide_eq_true hc]
    show wpAny _ _ (eval (.Call _ _ _ _) X.env) _ _ s3
    refine meth3 hbase hst hline (wpAny_mono (PySem.wpAny_toks (hA.run pins s3 σ H3 _ I3 (qT hc))) (fun v s4 q => ?_) fun _ _ z => z.2)
    obtain ⟨hk4, v', H4, I4, r4, l, e5, hl, q⟩ := q
    subst e5
    obtain ⟨tx, rfl⟩ := r4
    have hk5 : 1 ≤ s4.toks := Nat.le_trans hk1 hk4
    refine ⟨"str", _, PySem.F.plainAttrs_str, PySem.F.slot_str_replace, PySem.F.type_str_replace, typeIs_str _ _ _, (fun _ e => nomatch e), Calls.callWith_builtin rfl (Calls.evalArgs_plain (Calls.spliced_cons ?_))⟩
    refine Calls.Constant_str (Calls.spliced_cons (Calls.Constant_str (Calls.spliced_cons (wpAny_Constant_int (Calls.spliced_nil ?_)))))
    refine call_gives F.slot_str_replace (typeIs_str _ _ _) F.entry_str_replace (F.args_str_replace_4 _ _ _ _)
      (gives_repl1 l x y tx _ _ _ hxy (by show s4.toks ≠ 0; omega) (by show s4.toks + 1 ≠ 0; omega) (by show s4.toks ≠ s4.toks + 1; omega) hl) ?_
    rcases occ1 l x y with ⟨h1, h2⟩ | ⟨i, h1, h2⟩
    · rw [h1]
      rw [h2] at q
      exact ⟨.str ⟨⟨l⟩⟩, H4, I4.tok _, ⟨_, rfl⟩, q⟩
    · rw [h1]
      refine ⟨?_, .str ⟨⟨repl1 x y l⟩⟩, H4, I4.tok _, ⟨_, rfl⟩, q⟩
      show (repl1 x y l).length ≤ sizeLine
      rw [repl1_len]
      exact Nat.le_trans hl (by decide)
  · rw [decide_eq_false hc]
    exact hB.run pins s3 σ H3 Q I3 (qF hc)
section
variable {W : Wd} {g : Gi} {G : Gm}
theorem se_repl (s k a x y : Nat) : SE W g G (.repl s k a x y) := by
  intro Hin T X pe h c
  unfold okE at h
  split at h <;> try (cases h; done)
  all_goals try contradiction
  rename_i s' k' a' x' y' ns pn j _ _ _ na _ m ap y1 _ _ y2 _ _ c1 _ _ p nb _ _ heq
  cases heq
  simp only [Bool.and_eq_true, decide_eq_true_eq] at h
  obtain ⟨⟨⟨⟨⟨⟨⟨⟨⟨hs, ha⟩, rfl⟩, rfl⟩, rfl⟩, rfl⟩, rfl⟩, rfl⟩, hxy⟩, hline⟩ := h
  have os : ∀ q, okE g T (.slot s) (.Name ns q) = true := fun q => by simp only [okE, Bool.and_eq_true, decide_eq_true_eq]; exact hs
  have oa : ∀ q, okE g T (.slot a) (.Name nb q) = true := fun q => by simp only [okE, Bool.and_eq_true, decide_eq_true_eq]; exact ha
  refine ⟨PE.mono (pe_repl hxy (se_slot s Hin T X _ (os _) c).1 (se_slot a Hin T X _ (oa _) c).1 (se_slot a Hin T X _ (oa _) c).1 rfl rfl hline) fun σ H Q ⟨env, r, st, e, q⟩ => ?_, fun z => by cases z⟩
  simp only [ev] at e
  split at e <;> try (cases e; done)
  rename_i i l e1 e2
  split at e <;> try (cases e; done)
  rename_i hl
  cases e
  have f1 : ev G (.slot s) env = some (.val (.int i)) := by simp only [ev, e1]
  have f2 : ev G (.slot a) env = some (.val (.str l)) := by simp only [ev, e2]
  refine tE_of st f1 fun v H1 s1 r1 => ⟨i, rel_intE r1, fun hc => ?_, fun hc => ?_⟩
  · refine tE_of (st.mono s1) f2 fun v H2 s2 r2 => ?_
    have rt := r2.t ((st.same.trans s1).trans s2)
    rw [if_pos hc] at q
    exact ⟨l, rt.str, hl, q _ H2 (s1.trans s2) (rep_str : Rep W H2 _ _)⟩
  · rw [if_neg hc] at q
    exact tE_of (st.mono s1) f2 fun v H2 s2 r2 => q _ H2 (s1.trans s2) (r2.pre s1)
end
end Mc
namespace Mc
open PySem PySem.Spec PyProof.Rows L2
section
variable {W : Wd} {g : Gi} {G : Gm}
theorem se_fnv (x : Str) (f : Nat) : SE W g G (.fnv x f) := by
  intro Hin T X pe h c
  cases pe <;> try (simp only [okE] at h; cases h; done)
  simp only [okE, Bool.and_eq_true, decide_eq_true_eq] at h
  obtain ⟨⟨⟨rfl, h2⟩, h3⟩, h4⟩ := h
  have pd := plain_dbg h4
  exact se_fin (se_const (W := W) (Hin := Hin) (d := .fn f) (f := ev G (.fnv x f)) (fun env => by simp only [ev]) (pe_glob (X := X) (v := .ref (W.fn f)) (c.gl h2) (c.fvs _ _ h3).1 rfl pd.1) (fun H => by show Rep W H (.fn f) _; simp only [Rep])) (fun _ => rfl)
theorem se_dict0 : SE W g G .dict0 := by
  intro Hin T X pe h c
  unfold okE at h
  split at h <;> try (cases h; done)
  all_goals try contradiction
  refine se_fin (PE.mono pe_dnewK fun σ H Q ⟨env, r, st, e, q⟩ => ?_) (fun _ => rfl)
  simp only [ev] at e
  cases e
  intro p hp
  refine q _ _ (same_new hp) ?_
  show Rep W _ .dic _
  simp only [Rep]
  exact ⟨p, [], rfl, upd_same⟩
theorem se_callv (i : Nat) (tb : List Nat) (es : Es) (h' : SEs W g G es) : SE W g G (.callv i tb es) := by
  intro Hin T X pe h c
  cases es with
  | nil => cases pe <;> (simp only [okE] at h; cases h)
  | cons e0 es0 =>
    unfold okE at h
    split at h <;> try (cases h; done)
    all_goals try contradiction
    rename_i i' tb' e' es' x p xs pos heq
    cases heq
    simp only [Bool.and_eq_true, decide_eq_true_eq] at h
    obtain ⟨⟨⟨⟨h1, h2⟩, h3⟩, h4⟩, h5⟩ := h
    have pd := plain_dbg h3
    cases xs with
    | nil => simp only [okEs] at h4; cases h4
    | cons y ys =>
      have ns := okEs_star h4
      have hst : starEach (y :: ys) X.env = (false, eval y X.env) :: starEach ys X.env := star_ok (ns y List.mem_cons_self)
      have hpl : ∀ pos, (backTo pos (starEach ys X.env)).any (·.1) = false := fun pos => noany fun z hz => ns z (List.mem_cons_of_mem _ hz)
      refine se_fin ⟨fun pins s σ H Q I ⟨env, r, st, e, q⟩ => ?_⟩ (fun _ => rfl)
      simp only [ev] at e
      split at e <;> try (cases e; done)
      rename_i f e0
      split at e <;> try (cases e; done)
      rename_i hf
      split at e <;> try (cases e; done)
      rename_i as e1
      split at e <;> try (cases e; done)
      rename_i sem hG
      split at e <;> try (cases e; done)
      rename_i r0 e2
      split at e <;> try (cases e; done)
      rename_i hp
      cases e
      have hx := List.all_eq_true.1 h5 f hf
      simp only [Bool.and_eq_true, decide_eq_true_eq, Option.isSome_iff_exists] at hx
      obtain ⟨⟨z, hz⟩, hz2⟩ := hx
      obtain ⟨k, ad, fd, ps, hr, hm, hk, hb, F⟩ := c.fns f z sem (by rw [← hz2, hz]) hG
      have hv := (c.fvs f z hz).1
      rw [hm] at hv
      have ead : ad = W.fn f := by injection hv with hv; injection hv
      obtain ⟨v0, hs0, rs0⟩ := st.rel i _ e0
      have rs0 : Rep W H (.fn f) v0 := rs0
      simp only [Rep] at rs0
      subst rs0
      refine (pe_callL (i := i) (f := ad) (dvs := []) F hr (by rw [c.N]; exact h1) (c.vis h2) hk hb .nil pass0 (h'.a Hin T X _ h4 c) pd.1 pd.2.1 hst (hpl _)).run pins s σ H Q I ⟨by rw [ead]; exact hs0, ?_⟩
      refine ⟨env, as, st, e1, fun vs H' s ra => ?_⟩
      show spOf W sem (vs ++ []) H' Q E0
      rw [List.append_nil]
      exact ⟨as, r, ra, e2, hp, fun v H'' s2 r2 => q v H'' (s.trans s2) ((RelR.plain hp r2).pre s)⟩
end
end Mc
namespace Mc
open PySem PySem.Spec PyProof.Rows L2
open LamX (TabS Tabs CodeO TabB)
section
variable {X : Cx} {pins : List (Addr × Obj)} {σ : L2.St} {H : Hp} {s : Shared}
theorem clo_nil {cells : List (Str × Addr)} : ∀ (names : List (Str × NameKind)) (acc : List (Str × Addr)), (∀ y ∈ names, y.2 ≠ .free) → cloFrom cells names acc = acc
  | [], acc, _ => rfl
  | (x, k) :: r, acc, h => by
    have h1 : k ≠ .free := h (x, k) List.mem_cons_self
    have ih := clo_nil (cells := cells) r acc fun y hy => h y (List.mem_cons_of_mem _ hy)
    cases k <;> first | exact absurd rfl h1 | exact ih
theorem lamO_ok {P : Program} {w : World} {H : Hp} {h : Heap} {a c : Addr} {q : Str} {params : Arguments} {body : Expr} {scope : Scope} {pm ctv : Value} (e : h.get? a = some (PySem.W.kla_obj "<lambda>" q params body scope [] pm c ctv)) : ObjOk P w H h a (LamO q params body scope a c) :=
  ⟨⟨pm, ctv, e⟩, ⟨_, e⟩, fun h1 h2 ⟨pm, ctv, e⟩ st => ⟨pm, ctv, st _ e⟩⟩
/-- a lambda that holds nothing is made: its code object is new, or found in the table -/
theorem lam_make3 {W : Wd} {c P : Addr} {params : Arguments} {body : Expr} {scope : Scope} {pos : Pos} {E : Value → Shared → Prop} {Q : Value → Shared → Prop} (I : Inv X pins σ H s) (TB : TabB X.base X.mg c P) (hcode : X.env.code = .ref c)
    (hm : (P, X.env.qual ++ "<lambda>") ∈ W.T) (hu : ∀ p ∈ W.T, p.1 = P → p.2 = X.env.qual ++ "<lambda>") (hT : Tabs W.T H) (hdef : defaultsOf params X.env = ([], [])) (hfree : ∀ y ∈ scope.names, y.2 ≠ .free)
    (h : ∀ (a c' : Addr) (H1 : Hp) (s' : Shared), Inv X pins σ H1 s' → Same W H H1 → H1 a = some (LamO (X.env.qual ++ "<lambda>") params body scope a c') → H1 c' = some (CodeO c' (X.env.qual ++ "<lambda>")) → Q (.ref a) s') :
    wpAny (model X.prog X.w) X.A (eval (.Lambda params body scope pos) X.env) Q E s := by
  obtain ⟨ps, hP, ht, ha⟩ := hT _ hm
  have hfree' : ∀ y ∈ scope.names, y.2 = .free → ∃ c, X.env.cells.lookup y.1 = some c := fun y hy e => absurd e (hfree y hy)
  have eclo : cloFrom X.env.cells scope.names [] = [] := clo_nil _ _ hfree
  refine PySem.W.kla_eval hdef ?_
  have bP : s.heap.BuiltinsAt X.mg P := TB.bm.keeps I.bk
  have hP' : s.heap.get? P = some { cls := .none, data := .fields ps } := I.hok P _ hP
  cases hc : codeAmong pos ps.toList with
  | none =>
    refine PySem.W.kla_makeFunction (mg := X.mg) (c := c) (P := P) (ps := ps) (closure_ok hfree') I.ok.glob (I.mod.glob.keeps I.bk) hcode (TB.code.keeps I.bk) hP' ht hc TB.gP bP fun c' ctv h' tk hx hge hlt hrec htb => ?_
    obtain ⟨c2, oc, vs, t, e2, hoc, hd, hv⟩ := hrec
    cases e2
    rw [eclo]
    have nC : H c' = none := I.hok.fresh hge
    have I0 : Inv X pins σ (upd (upd H P (.tbl (ps ++ #[rawInt pos.line, rawInt pos.col, .ref c']))) c' (CodeO c' (X.env.qual ++ "<lambda>"))) { s with heap := h', toks := tk } :=
      LamX.inv_table (t' := tk) (more := #[rawInt pos.line, rawInt pos.col, .ref c']) (h' := h') I hP (fun b o hb e => hx b o hb e) htb hge ⟨oc, vs, t, hoc, hd, hv⟩
    generalize eH : upd (upd H P (.tbl (ps ++ #[rawInt pos.line, rawInt pos.col, .ref c']))) c' (CodeO c' (X.env.qual ++ "<lambda>")) = Hc at I0
    have nA : Hc h'.objs.size = none := I0.hok.fresh (Nat.le_refl _)
    have I1 := I0.laid (t' := tk) (h' := h'.push (PySem.W.kla_obj "<lambda>" (X.env.qual ++ "<lambda>") params body scope [] ((X.mg "__name__").getD .none) c' ctv)) (fun b o e => Heap.get?_push_of_some _ e) (Nat.le_refl _) (lamO_ok (Heap.get?_push_size _ rfl))
    have hcc : Hc c' = some (CodeO c' (X.env.qual ++ "<lambda>")) := by rw [← eH]; exact upd_same
    have nPc : P ≠ c' := ne_of_none hP nC
    have hPc : Hc P = some (.tbl (ps ++ #[rawInt pos.line, rawInt pos.col, .ref c'])) := by rw [← eH, upd_ne nPc, upd_same]
    have keep : ∀ b o, H b = some o → b ≠ P → Hc b = some o := fun b o e hb => by rw [← eH, upd_ne (ne_of_none e nC), upd_ne hb]; exact e
    have eL : (ps ++ #[rawInt pos.line, rawInt pos.col, .ref c']).toList = ps.toList ++ [rawInt pos.line, rawInt pos.col, .ref c'] := by simp
    have cne : ∀ c0 : Addr, H c0 = some (CodeO c0 (X.env.qual ++ "<lambda>")) → c0 ≠ P := fun c0 e z => by
      rw [z, hP] at e
      unfold CodeO at e
      cases e
    have sm : Same W H Hc := by
      refine ⟨fun b o e n => keep b o e fun z => n ps (Option.some.inj (e.symm.trans (by rw [z]; exact hP))), fun b qs e => ?_, fun hT p hp => ?_⟩
      · by_cases hb : b = P
        · rw [hb]; exact ⟨_, hPc⟩
        · exact ⟨_, keep b _ e hb⟩
      · by_cases hb : p.1 = P
        · rw [hu p hp hb, hb]
          refine ⟨_, hPc, by rw [eL]; exact PySem.TriplesOk_snoc _ _ _ _ ht, fun p' cv hcv => ?_⟩
          rw [eL] at hcv
          rcases LamX.among_app _ ht hcv with z | z
          · obtain ⟨c0, e1, e2⟩ := ha p' cv z
            exact ⟨c0, e1, keep _ _ e2 (cne c0 e2)⟩
          · exact ⟨c', z, hcc⟩
        · obtain ⟨ps', a1, a2, a3⟩ := hT p hp
          refine ⟨ps', keep _ _ a1 hb, a2, fun p' cv hcv => ?_⟩
          obtain ⟨c0, e1, e2⟩ := a3 p' cv hcv
          exact ⟨c0, e1, keep _ _ e2 fun z => by
            rw [z, hP] at e2
            unfold CodeO at e2
            cases e2⟩
    exact h _ c' _ _ I1 (sm.trans (same_new nA)) upd_same (by rw [upd_ne (ne_of_none hcc nA)]; exact hcc)
  | some cv =>
    obtain ⟨c', e, hco⟩ := ha pos cv hc
    subst e
    refine PySem.W.kla_makeFunctionHit (mg := X.mg) (c := c) (P := P) (ps := ps) (closure_ok hfree') I.ok.glob (I.mod.glob.keeps I.bk) hcode (TB.code.keeps I.bk) hP' ht hc bP fun ctv h' tk hx hsz => ?_
    rw [eclo]
    have I0 : Inv X pins σ H { s with heap := h', toks := tk } := I.kept fun b o e => hx b o e
    have nA : H h'.objs.size = none := I0.hok.fresh (Nat.le_refl _)
    have I1 := I0.laid (t' := tk) (h' := h'.push (PySem.W.kla_obj "<lambda>" (X.env.qual ++ "<lambda>") params body scope [] ((X.mg "__name__").getD .none) c' ctv)) (fun b o e => Heap.get?_push_of_some _ e) (Nat.le_refl _) (lamO_ok (Heap.get?_push_size _ rfl))
    exact h _ c' _ _ I1 (same_new nA) upd_same (by rw [upd_ne (ne_of_none hco nA)]; exact hco)
/-- a call of the lambda that the i-th slot holds -/
theorem pe_callM {W : Wd} {k i : Nat} {a c : Addr} {q : Str} {params : Arguments} {body : Expr} {scope : Scope} {sp : Sp} {CX : CXT} {E : L2.St → XK} {x : Str} {p pos : Pos} {e : Expr} {es : List Expr} {t : TA}
    (F : LamOk X.prog X.w X.K X.mg X.base CX k q params body scope sp) (hr : Room k X.A) (hN : X.N[i]? = some x) (hv : Vis X.env.scope x) (hx : ∀ σ, PassesAt CX X σ (E σ)) (ha : PA X (e :: es) t)
    (hdb : (x == ("__debug__" : Str)) = false) (hcd : (x == ("__classdict__" : Str)) = false) (he : starEach (e :: es) X.env = (false, eval e X.env) :: starEach es X.env) (hpl : (backTo pos (starEach es X.env)).any (·.1) = false) :
    PE X (.Call (.Name x p) (e :: es) [] pos) (fun σ H Q => σ[i]? = some (some (.ref a)) ∧ H a = some (LamO q params body scope a c) ∧ t σ H fun vs H1 => H1 a = some (LamO q params body scope a c) ∧ H1 c = some (CodeO c q) ∧ sp vs H1 Q (E σ)) := by
  refine ⟨fun pins s σ H Q I h => ?_⟩
  obtain ⟨hs, hl, ht⟩ := h
  refine wpAny_Call_Name_kw (thn ((pe_var (pos := p) hN hv hdb hcd).run pins s σ H (fun v H1 => v = .ref a ∧ H1 = H) I ⟨.ref a, hs, rfl, rfl⟩) fun u s1 ⟨v, H1, I1, r1, q1⟩ => ?_)
  obtain ⟨e1, e2⟩ := q1
  subst e1 e2
  cases r1
  have fnAt : ∀ {H' : Hp} {s' : Shared} {pins' : List (Addr × Obj)} {σ' : L2.St}, Inv X pins' σ' H' s' → H' a = some (LamO q params body scope a c) → PySem.W.FnAt a s'.heap := fun {H' s' pins' σ'} I' e => by
    obtain ⟨⟨pm, ctv, e⟩, _, _⟩ := I'.hok a _ e
    exact ⟨_, _, _, _, e⟩
  refine PySem.W.callWith_F (first := []) (fnAt I1 hl) (thn (ha.run pos pins s1 σ _ _ I1 ht) fun us s2 ⟨vs, H2, I2, r, h1, h2, q⟩ => ?_) he hpl
  refine ⟨fnAt I2 h1, ?_⟩
  have rc := F.run X.A X.stack s2 H2 a c us vs Q (E σ) hr I2.env0 h1 h2 r q
  refine wpAny_call (codeAny_mono rc fun r s' hq => ?_)
  cases r with
  | error e => exact hx σ pins H2 s2 e s' I2 hq
  | ok fl =>
    cases fl with
    | ret u => exact I2.after hq
    | next => exact False.elim hq
    | brk => exact False.elim hq
    | cont => exact False.elim hq
end
section
variable {W : Wd} {g : Gi} {G : Gm}
theorem se_lam (j : Nat) : SE W g G (.lam j) := by
  intro Hin T X pe h c
  cases pe <;> try (simp only [okE] at h; cases h; done)
  rename_i params body scope pos
  simp only [okE, Bool.and_eq_true] at h
  obtain ⟨c0, P, hcode, TB, hm, hu⟩ := c.mkr h.1
  obtain ⟨wl, hd, hf⟩ := c.lamk j (X.env.qual ++ "<lambda>") params body scope h.2
  refine se_fin ⟨fun pins s σ H Q I ⟨env, r, st, e, q⟩ => ?_⟩ (fun _ => rfl)
  simp only [ev] at e
  cases e
  refine lam_make3 I TB hcode hm hu st.tab (hd _) hf fun a c' H1 s' I1 sm h1 h2 => ⟨.ref a, H1, I1, rfl, q _ H1 sm ?_⟩
  show Rep W H1 (.lam j) _
  simp only [Rep]
  exact ⟨a, c', _, _, _, _, rfl, wl, h1, h2⟩
theorem se_calll (i : Nat) (tl : List Nat) (es : Es) (h' : SEs W g G es) : SE W g G (.calll i tl es) := by
  intro Hin T X pe h c
  cases es with
  | nil => cases pe <;> (simp only [okE] at h; cases h)
  | cons e0 es0 =>
    unfold okE at h
    split at h <;> try (cases h; done)
    all_goals try contradiction
    rename_i i' tb' e' es' x p xs pos heq
    cases heq
    simp only [Bool.and_eq_true, decide_eq_true_eq] at h
    obtain ⟨⟨⟨⟨h1, h2⟩, h3⟩, h4⟩, h5⟩ := h
    have pd := plain_dbg h3
    cases xs with
    | nil => simp only [okEs] at h4; cases h4
    | cons y ys =>
      have ns := okEs_star h4
      have hst : starEach (y :: ys) X.env = (false, eval y X.env) :: starEach ys X.env := star_ok (ns y List.mem_cons_self)
      have hpl : ∀ pos, (backTo pos (starEach ys X.env)).any (·.1) = false := fun pos => noany fun z hz => ns z (List.mem_cons_of_mem _ hz)
      refine se_fin ⟨fun pins s σ H Q I ⟨env, r, st, e, q⟩ => ?_⟩ (fun _ => rfl)
      simp only [ev] at e
      split at e <;> try (cases e; done)
      rename_i f e0
      split at e <;> try (cases e; done)
      rename_i hf
      split at e <;> try (cases e; done)
      rename_i as e1
      split at e <;> try (cases e; done)
      rename_i sem hG
      split at e <;> try (cases e; done)
      rename_i r0 e2
      split at e <;> try (cases e; done)
      rename_i hp
      cases e
      have hx := List.all_eq_true.1 h5 f hf
      simp only [decide_eq_true_eq] at hx
      obtain ⟨k, hr, F⟩ := c.lam f sem hx hG
      obtain ⟨v0, hs0, rs0⟩ := st.rel i _ e0
      have rs0 : Rep W H (.lam f) v0 := rs0
      simp only [Rep] at rs0
      obtain ⟨a, cc, q0, params, body, scope, rfl, wl, ha, hc⟩ := rs0
      refine (pe_callM (W := W) (i := i) (a := a) (c := cc) (E := fun _ => E0) (F _ _ _ _ wl) hr (by rw [c.N]; exact h1) (c.vis h2) (fun σ pins H s e s' I z => z.elim) (h'.a Hin T X _ h4 c) pd.1 pd.2.1 hst (hpl _)).run pins s σ H Q I ⟨hs0, ha, ?_⟩
      refine ⟨env, as, st, e1, fun vs H' s ra => ⟨s.at _ _ ha, s.at _ _ hc, ?_⟩⟩
      exact ⟨as, r, ra, e2, hp, fun v H'' s2 r2 => q v H'' (s.trans s2) ((RelR.plain hp r2).pre s)⟩
theorem se_call0 (f : Nat) : SE W g G (.call0 f) := by
  intro Hin T X pe h c
  unfold okE at h
  split at h <;> try (cases h; done)
  all_goals try contradiction
  rename_i f' x p pos heq
  cases heq
  simp only [Bool.and_eq_true, decide_eq_true_eq] at h
  obtain ⟨⟨h1, h2⟩, h3⟩ := h
  have pd := plain_dbg h3
  cases hG : G f with
  | none =>
    refine se_fin ⟨fun pins s σ H Q I ⟨env, r, st, e, q⟩ => ?_⟩ (fun _ => rfl)
    simp only [ev, hG] at e
    cases e
  | some sem =>
    obtain ⟨k, ad, fd, ps, hr, hm, hk, hb, F⟩ := c.fns f x sem h1 hG
    refine se_fin (PE.mono (pe_call0 F hr (c.gl h2) hm hk hb .nil pass0 pd.1) fun σ H Q ⟨env, r, st, e, q⟩ => ?_) (fun _ => rfl)
    simp only [ev, hG] at e
    split at e <;> try (cases e; done)
    rename_i r0 e2
    split at e <;> try (cases e; done)
    rename_i hp
    cases e
    show spOf W sem ([] ++ []) H Q E0
    exact ⟨[], r, .nil st.tab, e2, hp, fun v H'' s2 r2 => q v H'' s2 (RelR.plain hp r2)⟩
theorem se_dict1 (k : List Nat) (i : Int) : SE W g G (.dict1 k i) := by
  intro Hin T X pe h c
  unfold okE at h
  split at h <;> try (cases h; done)
  all_goals try contradiction
  rename_i k' i' x n1 p1 j n2 p2 p3 heq
  cases heq
  simp only [Bool.and_eq_true, decide_eq_true_eq] at h
  obtain ⟨rfl, rfl⟩ := h
  refine se_fin (PE.mono (pe_disp (pps_cons pe_str pe_int pps_nil) rfl rfl (by simp) (by simp)) fun σ H Q ⟨env, r, st, e, q⟩ => ?_) (fun _ => rfl)
  simp only [ev] at e
  cases e
  intro p hp
  refine ⟨upd_same, [(.inr ⟨⟨k⟩⟩, .int i)], rfl, by simp, ?_⟩
  rw [upd_upd]
  refine q _ _ (same_new hp) ?_
  show Rep W _ .dic _
  simp only [Rep]
  exact ⟨p, _, rfl, upd_same⟩
theorem se_rep (a k : E) (ha : SE W g G a) (hb : SE W g G k) : SE W g G (.rep a k) := by
  intro Hin T X pe h c
  unfold okE at h
  split at h <;> try (cases h; done)
  all_goals try contradiction
  rename_i a' k' l r p heq
  cases heq
  simp only [Bool.and_eq_true] at h
  refine se_fin (PE.mono (pe_op op_rep (ha Hin T X _ h.1 c).1 (hb Hin T X _ h.2 c).1) fun σ H Q ⟨env, r, st, e, q⟩ => ?_) (fun _ => rfl)
  simp only [ev] at e
  split at e <;> try (cases e; done)
  rename_i ds e1
  split at e <;> try (cases e; done)
  rename_i j e2
  split at e <;> try (cases e; done)
  rename_i hj
  cases e
  refine tE_2 st e1 e2 fun v w H' s r1 r2 => ?_
  obtain ⟨p, vs, rfl, hn, hl, rl⟩ := r1
  have r2 : Rep W H' (.int j) w := r2
  simp only [Rep] at r2
  subst r2
  have hlen := rl.length
  have hs : sizeLine = 16777216 := by rw [sizeLine_eq]
  refine ⟨p, j, vs, rfl, rfl, hl, by omega, by omega, ?_, fun p' hp' => ?_⟩
  · rw [← hlen, hs]
    have : ds.length * j.toNat ≤ 1000 * 1000 := Nat.mul_le_mul hj.2.2 (by omega)
    omega
  · refine q _ _ (s.trans (same_new hp')) ⟨p', _, rfl, s.free hp', upd_same, ?_⟩
    refine RepL.fx (.of_same (same_new (W := W) hp')) _ _ ?_
    generalize j.toNat = n
    induction n with
    | zero => exact .nil
    | succ n ih =>
      rw [List.replicate_succ, List.replicate_succ, List.flatten_cons, List.flatten_cons]
      exact rl.append ih
end
end Mc
namespace Mc
open PySem PySem.Spec PyProof.Rows L2

section
variable {W : Wd} {g : Gi} {G : Gm}
theorem src_noset {T : Tc} {s : Src} {pe : Expr} (h : okSrc g T s pe = true) (env : PySem.Env) (x : Value) : foldedSetIterable pe env x = pure x := by
  cases pe <;> first | rfl | skip
  rename_i es k p
  cases s <;> (try (simp only [okSrc] at h; cases h; done))
  rename_i e
  simp only [okSrc] at h
  cases e <;> (simp only [okE] at h; cases h)
theorem lc_read {elt : E} {tg : Tg} {src : Src} {cond : Oe} {Hin : Hp} {σ : L2.St} {H : Hp} {Q : VK} (h : tE W Hin (ev G (.lc elt tg src cond)) σ H Q) :
    tLc (tI W Hin (evS G src)) (gT W.K tg) (tCd W Hin (evC G cond)) (tF W Hin (ev G elt)) tg.slots σ H Q := by
  obtain ⟨env, r, st, e, q⟩ := h
  simp only [ev] at e
  split at e <;> try (cases e; done)
  rename_i items e1
  obtain ⟨fin, e2, rfl⟩ := Option.map_eq_some_iff.mp e
  refine ⟨env, items, st, e1, fun J H1 s1 wd D hD => ?_⟩
  obtain ⟨n, Gd, Y, hn, wk, hG, hY⟩ := wd.ex
  subst hn
  have sD : Same W H1 (upd H1 D (.lst [])) := same_new hD
  refine lc_it wk (g := gT W.K tg) (tt := tCd W Hin (evC G cond)) (te := tF W Hin (ev G elt)) (vs := tg.slots) (σ := σ) (Qd := fun H => Q (.ref D) H) (fun i Hc => ∃ acc vs, lcLoop (fun d => bindT tg d (wipeE env tg.slots)) (evC G cond) (fun e => (ev G elt e).bind R.fz) (items.drop i) acc = some fin ∧ Same W H1 Hc ∧ Hc D = some (.lst vs) ∧ RepL W Hc acc vs)
    ⟨[], [], e2, sD, upd_same, .nil⟩ (fun i Hc _ ⟨_, _, _, s, _⟩ => hG Hc s) (fun i x Hc Hc' hi ⟨acc, vs, l1, s2, d1, ra⟩ y => ?_) (fun Hc ⟨acc, vs, l1, s2, d1, ra⟩ => ?_)
  · obtain ⟨s3, d, ed, rd⟩ := hY i Hc x Hc' s2 hi y
    have edrop : items.drop i = d :: items.drop (i + 1) := by
      rw [List.drop_eq_getElem_cons hi]
      have := (List.getElem?_eq_some_iff.mp ed).2
      rw [this]
    rw [edrop] at l1
    simp only [lcLoop] at l1
    split at l1 <;> try (cases l1; done)
    rename_i env1 eb
    have st3 : StR W Hin Hc' (L2.wipe σ tg.slots) (wipeE env tg.slots) := ((st.mono (s1.trans (s2.trans s3)))).wipe tg.slots
    refine gT_ok st3 rd eb fun σ2 but st4 => ⟨wipe_but but, ?_⟩
    split at l1 <;> try (cases l1; done)
    · rename_i ec
      refine ⟨env1, false, st4, ec, fun H3 s4 => iteF ⟨acc, vs, l1, (s2.trans s3).trans s4, (s3.trans s4).at _ _ d1, RepL.fx (.of_same (s3.trans s4)) _ _ ra⟩⟩
    · rename_i ec
      refine ⟨env1, true, st4, ec, fun H3 s4 => iteT ?_⟩
      split at l1 <;> try (cases l1; done)
      rename_i y' ey
      split at l1 <;> try (cases l1; done)
      rename_i hl
      refine ⟨env1, y', st4.mono s4, ey, fun v H4 s5 r5 => ?_⟩
      have d4 : H4 D = some (.lst vs) := (s3.trans (s4.trans s5)).at _ _ d1
      have r4 := RepL.fx (.of_same (s3.trans (s4.trans s5))) _ _ ra
      refine ⟨vs, d4, by rw [← ra.length, ← LINE_eq]; exact hl, acc ++ [y'], vs ++ [v], l1, ?_, upd_same, ?_⟩
      · exact (s2.trans (s3.trans (s4.trans s5))).updN hD (.inr ⟨_, d4⟩)
      · exact (RepL.fx (FX.upd d4) _ _ r4).append (.one (Rep.fx (FX.upd d4) _ _ r5))
  · rw [List.drop_of_length_le (Nat.le_refl _)] at l1
    cases l1
    exact q _ Hc (s1.trans s2) ⟨D, vs, rfl, s1.free hD, d1, ra⟩

theorem se_lc (elt : E) (tg : Tg) (src : Src) (cond : Oe) (he : SE W g G elt) (hs : SS W g G src) (hc : SO W g G cond) : SE W g G (.lc elt tg src cond) := by
  intro Hin T X pe h c
  unfold okE at h
  split at h <;> try (cases h; done)
  all_goals try contradiction
  rename_i e' tg' src' cond' pelt t it ifs scope pos heq
  cases heq
  simp only [Bool.and_eq_true, decide_eq_true_eq, Bool.or_eq_true] at h
  obtain ⟨⟨⟨⟨⟨⟨h1, h2⟩, h3⟩, h4⟩, h5⟩, h6⟩, h7⟩ := h
  have htup : okNm src = true ∨ ∃ elts k pos, t = .Tuple elts k pos := by
    rcases h7 with h7 | h7
    · exact .inr (tup_of h1 h7)
    · exact .inl h7
  have blk : BlkOk X.N X.env.scope scope (ownOf T tg.slots) := by rw [c.N, c.sc]; exact blkOk_by h5
  refine se_fin (PE.mono (pe_lc (own := ownOf T tg.slots) (g := gT X.K tg) (tt := tCd W Hin (evC G cond)) (te := tF W Hin (ev G elt)) c.calm (by rw [c.N]; exact c.nd) (hs Hin T X t it h2 c htup) blk
    (fun s H C cl fp => pg_tg (c.blk scope s H C cl fp) h1) (fun s H C cl fp => hc.c Hin (T.blk scope) _ ifs h3 (c.blk scope s H C cl fp)) (fun s H C cl fp => pe_frz (he Hin (T.blk scope) _ pelt h4 (c.blk scope s H C cl fp)).1) (fun x => src_noset h2 _ x)) fun σ H Q ⟨env, r, st, e, q⟩ => ?_) (fun _ => rfl)
  rw [h6, c.K]
  exact lc_read ⟨env, r, st, e, q⟩

/-! #### sources -/
theorem pa_1 {X : Cx} {x : Expr} {t : TE} (hx : noStar x = true) (h : PE X x t) : PA X [x] (tCons t tNil) := pa_cons h pa_nil (star_ok hx)
theorem pa_2 {X : Cx} {x y : Expr} {t u : TE} (hx : noStar x = true) (hy : noStar y = true) (h : PE X x t) (k : PE X y u) : PA X [x, y] (tCons t (tCons u tNil)) := pa_cons h (pa_1 hy k) (star_ok hx)
theorem ss_seq (e : E) (he : SE W g G e) : SS W g G (.seq e) := by
  intro Hin T X tg pe h c ht
  simp only [okSrc] at h
  have hp := (he Hin T X pe h c).1
  refine PI.mono (PI.or (pi_list (tg := tg) hp) (PI.or (pi_tup hp) (pi_str hp))) fun σ H R ⟨env, items, st, e, q⟩ => ?_
  simp only [evS] at e
  split at e <;> try (cases e; done)
  rename_i x e1
  unfold seqD at e
  split at e <;> try (cases e; done)
  · rename_i ds e2
    cases e
    refine .inl (tE_of st e1 fun v H1 s r => ?_)
    have rt := r.t (st.same.trans s)
    rw [e2] at rt
    obtain ⟨a, vs, rfl, h1, r1⟩ := rt
    refine ⟨a, rfl, ⟨vs, by rw [c.K]; exact h1⟩, ?_⟩
    rw [c.K]
    exact q _ H1 s (walkD_list (fun H h => ⟨SqL.same h h1, .of_same h⟩) r1)
  · rename_i ds e2
    cases e
    refine .inr (.inl (tE_of st e1 fun v H1 s r => ?_))
    have rt := r.t (st.same.trans s)
    rw [e2] at rt
    obtain ⟨a, vs, rfl, h1, r1⟩ := rt.tup
    refine ⟨a, rfl, ⟨vs, by rw [c.K]; exact h1⟩, ?_⟩
    rw [c.K]
    exact q _ H1 s (walkD_tup (fun H h => ⟨SqT.fx (.of_same h) h1, .of_same h⟩) r1)
  · rename_i l e2
    cases e
    refine .inr (.inr (tE_of st e1 fun v H1 s r => ?_))
    have rt := r.t (st.same.trans s)
    rw [e2] at rt
    exact ⟨_, rt.str, q _ H1 s (walkD_str l)⟩
theorem small62_iff {i : Int} (h : small62 i = true) : -(2 ^ 62) ≤ i ∧ i < 2 ^ 62 := by
  unfold small62 at h
  simpa using h
theorem ss_rng1 (a : E) (ha : SE W g G a) : SS W g G (.rng1 a) := by
  intro Hin T X tg pe h c ht
  unfold okSrc at h
  split at h <;> try (cases h; done)
  all_goals try contradiction
  rename_i a' x px p pos heq
  cases heq
  simp only [Bool.and_eq_true, decide_eq_true_eq] at h
  obtain ⟨⟨⟨rfl, h2⟩, h3⟩, h4⟩ := h
  refine PI.mono (pi_range1 (c.gl h2) (c.blt _ (by decide +kernel)) (pa_1 h4 (ha Hin T X _ h3 c).1) (star_ok h4)) fun σ H R ⟨env, items, st, e, q⟩ => ?_
  simp only [evS] at e
  split at e <;> try (cases e; done)
  rename_i j e1
  split at e <;> try (cases e; done)
  rename_i hs
  cases e
  have hs := small62_iff hs
  exact tE_of st e1 fun v H1 s r => ⟨j, by rw [rel_intE r], hs.1, hs.2, q _ H1 s (walkD_rng 0 _)⟩
theorem ss_rng2 (a b : E) (ha : SE W g G a) (hb : SE W g G b) : SS W g G (.rng2 a b) := by
  intro Hin T X tg pe h c ht
  unfold okSrc at h
  split at h <;> try (cases h; done)
  all_goals try contradiction
  rename_i a' b' x px p p2 pos heq
  cases heq
  simp only [Bool.and_eq_true, decide_eq_true_eq] at h
  obtain ⟨⟨⟨⟨⟨rfl, h2⟩, h3⟩, h4⟩, h5⟩, h6⟩ := h
  refine PI.mono (pi_range2 (c.gl h2) (c.blt _ (by decide +kernel)) (pa_2 h4 h6 (ha Hin T X _ h3 c).1 (hb Hin T X _ h5 c).1) (by rw [star_ok h4, star_ok h6]; rfl) (star_ok h6)) fun σ H R ⟨env, items, st, e, q⟩ => ?_
  simp only [evS] at e
  split at e <;> try (cases e; done)
  rename_i i e1
  split at e <;> try (cases e; done)
  rename_i j e2
  split at e <;> try (cases e; done)
  rename_i hs
  cases e
  rw [Bool.and_eq_true] at hs
  have h1 := small62_iff hs.1
  have h2 := small62_iff hs.2
  exact tE_2 (Q := fun v w H2 => ∃ i j : Int, [v, w] = [V.int i, V.int j] ∧ (-(2 ^ 62) ≤ i ∧ i < 2 ^ 62 ∧ -(2 ^ 62) ≤ j ∧ j < 2 ^ 62) ∧ R (Itr i (j - i).toNat) H2) st e1 e2 fun v w H1 s r r2 => ⟨i, j, by rw [rel_intE r, rel_intE r2], ⟨h1.1, h1.2, h2.1, h2.2⟩, q _ H1 s (walkD_rng i _)⟩
theorem ss_rng3 (a b d : E) (ha : SE W g G a) (hb : SE W g G b) (hd : SE W g G d) : SS W g G (.rng3 a b d) := by
  intro Hin T X tg pe h c ht
  unfold okSrc at h
  split at h <;> try (cases h; done)
  all_goals try contradiction
  rename_i a' b' d' x px p p2 p3 pos heq
  cases heq
  simp only [Bool.and_eq_true, decide_eq_true_eq] at h
  obtain ⟨⟨⟨⟨⟨⟨⟨rfl, h2⟩, h3⟩, h4⟩, h5⟩, h6⟩, h7⟩, h8⟩ := h
  have hn : ∀ z ∈ [p2, p3], noStar z = true := by
    intro z hz
    simp only [List.mem_cons, List.not_mem_nil, or_false] at hz
    rcases hz with rfl | rfl <;> assumption
  refine PI.mono (pi_range3 (c.gl h2) (c.blt _ (by decide +kernel)) (pa_cons (ha Hin T X _ h3 c).1 (pa_2 h6 h8 (hb Hin T X _ h5 c).1 (hd Hin T X _ h7 c).1) (star_ok h4)) (star_ok h4) (noany hn)) fun σ H R ⟨env, items, st, e, q⟩ => ?_
  simp only [evS] at e
  split at e <;> try (cases e; done)
  rename_i i e1
  split at e <;> try (cases e; done)
  rename_i j e2
  split at e <;> try (cases e; done)
  rename_i k e3
  split at e <;> try (cases e; done)
  rename_i hs
  cases e
  simp only [Bool.and_eq_true, decide_eq_true_eq] at hs
  obtain ⟨⟨⟨k1, k2⟩, k3⟩, k4⟩ := hs
  refine tE_of st e1 fun v H1 s1 r1 => tE_of (st.mono s1) e2 fun w H2 s2 r2 => tE_of ((st.mono s1).mono s2) e3 fun u H3 s3 r3 => ?_
  refine ⟨i, j, k, (Builtin.Range.rangeSize i j k).toNat, by rw [rel_intE r1, rel_intE r2, rel_intE r3], ⟨k1, k2, k3, by omega⟩, q _ H3 ((s1.trans s2).trans s3) (walkD_rngC i k _)⟩
theorem ss_enum (e : E) (he : SE W g G e) : SS W g G (.enum e) := by
  intro Hin T X tg pe h c ht
  obtain ⟨elts, kk, tpos, rfl⟩ : ∃ elts k pos, tg = .Tuple elts k pos := by
    rcases ht with ht | ht
    · cases ht
    · exact ht
  unfold okSrc at h
  split at h <;> try (cases h; done)
  all_goals try contradiction
  rename_i a' x px p pos heq
  cases heq
  simp only [Bool.and_eq_true, decide_eq_true_eq] at h
  obtain ⟨⟨⟨rfl, h2⟩, h3⟩, h4⟩ := h
  have pa := pa_1 h4 (he Hin T X _ h3 c).1
  refine PI.mono (PI.or (pi_enum (c.gl h2) (c.blt _ (by decide +kernel)) pa (star_ok h4)) (pi_enumS (c.gl h2) (c.blt _ (by decide +kernel)) pa (star_ok h4))) fun σ H R ⟨env, items, st, e, q⟩ => ?_
  simp only [evS] at e
  split at e <;> try (cases e; done)
  rename_i x e1
  split at e <;> try (cases e; done)
  · rename_i ds e2
    cases e
    refine .inl (tE_of st e1 fun v H1 s r => ?_)
    have rt := r.t (st.same.trans s)
    rw [e2] at rt
    obtain ⟨a, vs, rfl, h1, r1⟩ := rt
    refine ⟨a, vs, rfl, by rw [c.K]; exact h1, ?_⟩
    rw [c.K]
    exact q _ H1 s (walkD_enum (fun H h => ⟨SqL.same h h1, .of_same h⟩) r1)
  · rename_i l e2
    cases e
    refine .inr (tE_of st e1 fun v H1 s r => ?_)
    have rt := r.t (st.same.trans s)
    rw [e2] at rt
    exact ⟨_, by rw [rt.str], q _ H1 s (walkD_enumS l)⟩
theorem ss_zip (a b : E) (ha : SE W g G a) (hb : SE W g G b) : SS W g G (.zip a b) := by
  intro Hin T X tg pe h c ht
  obtain ⟨elts, kk, tpos, rfl⟩ : ∃ elts k pos, tg = .Tuple elts k pos := by
    rcases ht with ht | ht
    · cases ht
    · exact ht
  unfold okSrc at h
  split at h <;> try (cases h; done)
  all_goals try contradiction
  rename_i a' b' x px p p2 pos heq
  cases heq
  simp only [Bool.and_eq_true, decide_eq_true_eq] at h
  obtain ⟨⟨⟨⟨⟨rfl, h2⟩, h3⟩, h4⟩, h5⟩, h6⟩ := h
  refine PI.mono (pi_zip (c.gl h2) (c.blt _ (by decide +kernel)) (pa_2 h4 h6 (ha Hin T X _ h3 c).1 (hb Hin T X _ h5 c).1) (star_ok h4) (by rw [star_ok h6]; rfl)) fun σ H R ⟨env, items, st, e, q⟩ => ?_
  simp only [evS] at e
  split at e <;> try (cases e; done)
  rename_i x e1
  split at e <;> try (cases e; done)
  rename_i y e2
  split at e <;> try (cases e; done)
  rename_i ds es e3 e4
  cases e
  refine tE_of st e1 fun v H1 s1 r1 => tE_of (st.mono s1) e2 fun w H2 s2 r2 => ?_
  have rt := (r1.t (st.same.trans s1)).mono s2
  have rt2 := r2.t ((st.same.trans s1).trans s2)
  rw [e3] at rt
  rw [e4] at rt2
  obtain ⟨p, vs, rfl, h1, q1⟩ := rt
  obtain ⟨p', ws, rfl, h2, q2⟩ := rt2
  refine ⟨p, p', vs, ws, rfl, by rw [c.K]; exact h1, by rw [c.K]; exact h2, ?_⟩
  rw [c.K]
  exact q _ H2 (s1.trans s2) (walkD_zip (fun H h => ⟨⟨SqL.same h h1, SqL.same h h2⟩, .of_same h⟩) q1 q2)

/-! #### all of them -/
mutual
theorem snd_E : ∀ e : E, SE W g G e
  | .slot i => se_slot i
  | .int i => se_int i
  | .str l => se_str l
  | .bl b => se_bl b
  | .non => se_non
  | .gint x i => se_gint x i
  | .bin op a b => se_bin op a b (snd_E a) (snd_E b)
  | .neg a => se_neg a (snd_E a)
  | .cmp op a b => se_cmp op a b (snd_E a) (snd_E b)
  | .chain o1 o2 a b c => se_chain o1 o2 a b c (snd_E a) (snd_E b) (snd_E c)
  | .and es => se_and es (snd_Es es)
  | .or es => se_or es (snd_Es es)
  | .not a => se_not a (snd_E a)
  | .ite c a b => se_ite c a b (snd_E c) (snd_E a) (snd_E b)
  | .lst es => se_lst es (snd_Es es)
  | .tup es => se_tup es (snd_Es es)
  | .sub a i => se_sub a i (snd_E a) (snd_E i)
  | .slice a lo hi => se_slice a lo hi (snd_E a) (snd_O lo) (snd_O hi)
  | .rev a => se_rev a (snd_E a)
  | .call f es => se_call f es (snd_Es es)
  | .bi b es => se_bi b es (snd_Es es)
  | .meth m a es => se_meth m a es (snd_E a) (snd_Es es)
  | .lc elt tg src cond => se_lc elt tg src cond (snd_E elt) (snd_S src) (snd_O cond)
  | .isi a t => se_isi a t (snd_E a)
  | .lset a => se_lset a (snd_E a)
  | .step a lo k => se_step a lo k (snd_E a) (snd_E lo)
  | .sortl a => se_sortl a (snd_E a)
  | .new c es => se_new c es (snd_Es es)
  | .fld a c i => se_fld a c i (snd_E a)
  | .mcall m tb a es => se_mcall m tb a es (snd_E a) (snd_Es es)
  | .isic a c tb => se_isic a c tb (snd_E a)
  | .repl s k a x y => se_repl s k a x y
  | .revs a => se_revs a (snd_E a)
  | .fnv x f => se_fnv x f
  | .callv i tb es => se_callv i tb es (snd_Es es)
  | .dict0 => se_dict0
  | .call0 f => se_call0 f
  | .lam j => se_lam j
  | .calll i tl es => se_calll i tl es (snd_Es es)
  | .dict1 k i => se_dict1 k i
  | .rep a k => se_rep a k (snd_E a) (snd_E k)
theorem snd_Es : ∀ es : Es, SEs W g G es
  | .nil => ses_nil
  | .cons e es => ses_cons e es (snd_E e) (snd_Es es)
theorem snd_O : ∀ o : Oe, SO W g G o
  | .non => so_non
  | .one e => so_one e (snd_E e)
theorem snd_S : ∀ s : Src, SS W g G s
  | .seq e => ss_seq e (snd_E e)
  | .rng1 a => ss_rng1 a (snd_E a)
  | .rng2 a b => ss_rng2 a b (snd_E a) (snd_E b)
  | .rng3 a b c => ss_rng3 a b c (snd_E a) (snd_E b) (snd_E c)
  | .enum e => ss_enum e (snd_E e)
  | .zip a b => ss_zip a b (snd_E a) (snd_E b)
end
end
end Mc
namespace Mc
open PySem PySem.Spec PyProof.Rows L2

/-! ### statements: the check -/
def noLC : Expr → Bool
  | .ListComp _ _ _ _ => false
  | .SetComp _ _ _ _ => false
  | .DictComp _ _ _ _ _ => false
  | _ => true
def isLoc (T : Tc) (x : Str) : Bool := match T.sc.names.lookup x with
  | some .local => true
  | _ => false
def isCell (T : Tc) (x : Str) : Bool := match T.sc.names.lookup x with
  | some .cell => true
  | _ => false
def lcSwap (T : Tc) (x : Str) (px : Pos) : Expr → Bool
  | .ListComp e [⟨t, it, ifs, 0⟩] scope pos => (isLoc T x && (px.line == pos.line) && !(scope.names.any fun (n, k) => n == x && (k == .local || k == .cell))) || isCell T x
  | _ => false
def noTup : Expr → Bool
  | .Tuple _ _ _ => false
  | _ => true
def noSlice : Expr → Bool
  | .Slice _ _ _ _ => false
  | _ => true
def tupFolded : Expr → Bool
  | .Tuple vs _ _ => vs.all (foldedForSure 8)
  | _ => true
def someCell (T : Tc) : List Expr → Bool
  | [] => false
  | .Name x _ :: r => !isLoc T x || someCell T r
  | _ :: r => someCell T r
def okPar (g : Gi) (T : Tc) (is : List Nat) (ms : List Bool) (es : Es) : Expr → Expr → Bool
  | .Tuple [.Name x px, .Name y py] _ _, .Tuple [a, b] _ _ => (match is with
    | [i, j] => decide (T.N[i]? = some x) && decide (T.N[j]? = some y) && decide (i ≠ j) && decide (x ≠ y) && isLoc T x && isLoc T y && (py.line == px.line) && okEs g T es [a, b] && !([a, b].all (foldedForSure 8)) && !([a, b].all (constantsAlone 8))
    | _ => false)
  | .Tuple [.Name x px, .Name y py, .Name z pz] _ _, .Tuple [a, b, c] _ _ => (match is with
    | [i, j, k] => decide (T.N[i]? = some x) && decide (T.N[j]? = some y) && decide (T.N[k]? = some z) && decide (i ≠ j) && decide (i ≠ k) && decide (j ≠ k) && decide (x ≠ y) && decide (x ≠ z) && decide (y ≠ z) && isLoc T x && isLoc T y && isLoc T z && (py.line == px.line) && (pz.line == px.line) && okEs g T es [a, b, c] && !([a, b, c].all (foldedForSure 8)) && !([a, b, c].all (constantsAlone 8))
    | _ => false)
  | _, _ => false
mutual
def okS (g : Gi) (T : Tc) : S → Stmt → Bool
  | .asg i m e, .Assign [.Name x px] v _ => decide (T.N[i]? = some x) && asgn T x && okE g T e v && (noLC v || lcSwap T x px v)
  | .par is ms es, .Assign [t] v _ => okPar g T is ms es t v
  | .unp is e, .Assign [.Tuple ts k p] v _ => okTg T (.tp is) (.Tuple ts k p) && okE g T e v && noLC v && (noTup v || tupFolded v || someCell T ts)
  | .aug i op e, .AugAssign (.Name x _) o v _ => decide (T.N[i]? = some x) && asgn T x && decide (o = op.py) && okE g T e v
  | .app i e, .Expr (.Call (.Attribute (.Name x p) n ap) [v] [] cp) _ => decide (T.N[i]? = some x) && vis T x && plainName x && decide (n = "append") && okE g T e v && noStar v && (ap.endLine == cp.line)
  | .pop i, .Expr (.Call (.Attribute (.Name x p) n ap) [] [] cp) _ => decide (T.N[i]? = some x) && vis T x && plainName x && decide (n = "pop") && (ap.endLine == cp.line)
  | .seti i k e, .Assign [.Subscript (.Name x p) kk _] v _ => decide (T.N[i]? = some x) && vis T x && plainName x && okE g T k kk && okE g T e v && noLC v
  | .ex e, .Expr v _ => okE g T e v && noLC v
  | .ife c a b, .If t xs ys _ => okE g T c t && tst c && okSs g T a xs && okSs g T b ys
  | .for tg src b, .For t it body [] _ => okTg T tg t && okSrc g T src it && okSs g T b body && (tg.isTp || okNm src)
  | .while _ c b, .While t body [] _ => okE g T c t && tst c && okSs g T b body
  | .ret e, .Return (some v) _ => okE g T e v
  | .stop, _ => true
  | .rvs i, .Expr (.Call (.Attribute (.Name x p) n ap) [] [] cp) _ => decide (T.N[i]? = some x) && vis T x && plainName x && decide (n = "reverse") && (ap.endLine == cp.line)
  | .mcal f i es, .Expr (.Call (.Name x _) (.Name y _ :: xs) [] _) _ => decide (g.muts.lookup f = some x) && gl T x && plainName x && decide (T.N[i]? = some y) && vis T y && plainName y && okEs g T es xs
  | .mcalE f e, .Expr (.Call (.Name x _) [p] [] _) _ => decide (g.muts.lookup f = some x) && gl T x && plainName x && okE g T e p && noStar p
  | .rais c x, .Raise (some (.Call (.Name y _) [.Constant (.str _) _ _] [] _)) none _ => decide (x = y) && gl T x && plainName x && decide (g.exs.lookup c = some x)
  | _, _ => false
def okSs (g : Gi) (T : Tc) : Ss → List Stmt → Bool
  | .nil, [] => true
  | .cons s ss, st :: sts => okS g T s st && okSs g T ss sts
  | .frz _ ss, sts => okSs g T ss sts
  | _, _ => false
end

/-! ### freezing at a statement's end, at a block's start -/
section
variable {X : Cx}
theorem PS.freeze {st : Stmt} {t : TS} (h : PS X st t) : PS X st (fun D σ H => t { D with nx := fun σ' H' => D.nx σ' H' ∨ ∃ a xs, H' a = some (.lst xs) ∧ ∀ o, D.nx σ' (upd H' a (.frz o (.lst xs))) } σ H) := by
  refine ⟨fun pins s σ H D I w => thn (h.run pins s σ H _ I w) fun f s1 q => ?_⟩
  cases f with
  | next =>
    obtain ⟨σ', H', I', q⟩ := q
    rcases q with q | ⟨a, xs, h1, q⟩
    · exact ⟨σ', H', I', q⟩
    · obtain ⟨o, I2⟩ := Inv.freeze I' h1
      exact ⟨σ', _, I2, q o⟩
  | brk => exact q
  | cont => exact q
  | ret v => exact q
theorem PSs.unfree {sts : List Stmt} {t : TS} (h : PSs X sts t) : PSs X sts (fun D σ H => t D σ H ∨ ∃ a xs, H a = some (.lst xs) ∧ ∀ o, t D σ (upd H a (.frz o (.lst xs)))) := by
  refine ⟨fun pins s σ H D I w => ?_⟩
  rcases w with w | ⟨a, xs, h1, w⟩
  · exact h.run pins s σ H D I w
  · obtain ⟨o, I2⟩ := Inv.freeze I h1
    exact h.run pins s σ _ D I2 (w o)
end

/-! ### states under stores -/
section
variable {W : Wd} {Hin H : Hp} {σ : L2.St} {env : Env}
/-- a fresh list becomes the slot's own -/
theorem StR.setOwn {i : Nat} {ds : List D} {a : Addr} {vs : List V} (st : StR W Hin H σ env) (hi : Hin a = none) (hno : ∀ (j : Nat) (es : List D), env[j]? = some (some (.own es)) → σ[j]? ≠ some (some (.ref a))) (h : H a = some (.lst vs)) (r : RepL W H ds vs) : StR W Hin H (σ.set i (some (.ref a))) (setE env i (.own ds)) := by
  refine ⟨st.same, fun j s hj => ?_, fun j k ds' es b hjk h1 h2 h3 h4 => ?_, by unfold setE; rw [List.length_set, List.length_set, st.len], st.tab⟩
  · rcases setE_get hj with ⟨rfl, rfl, hlt⟩ | ⟨hne, hj⟩
    · exact ⟨_, by rw [List.getElem?_set_self (by rw [← st.len]; exact hlt)], a, vs, rfl, hi, h, r⟩
    · obtain ⟨w, e1, e2⟩ := st.rel j s hj
      exact ⟨w, by rw [List.getElem?_set_ne (Ne.symm hne)]; exact e1, e2⟩
  · rcases setE_get h1 with ⟨rfl, z, hlt⟩ | ⟨hj, h1⟩
    · rcases setE_get h2 with ⟨rfl, _, _⟩ | ⟨hk, h2⟩
      · exact hjk rfl
      · rw [List.getElem?_set_self (by rw [← st.len]; exact hlt)] at h3
        rw [List.getElem?_set_ne (Ne.symm hk)] at h4
        simp only [Option.some.injEq, V.ref.injEq] at h3
        subst h3
        exact hno k es h2 h4
    · rename_i g1
      rw [List.getElem?_set_ne (Ne.symm hj)] at h3
      rcases setE_get h2 with ⟨e0, z, hlt⟩ | ⟨hk, g2⟩
      · rw [e0, List.getElem?_set_self (by rw [← st.len]; exact hlt)] at h4
        simp only [Option.some.injEq, V.ref.injEq] at h4
        subst h4
        exact hno j ds' h1 h3
      · rw [List.getElem?_set_ne (Ne.symm hk)] at h4
        exact st.dis j k ds' es b hjk h1 g2 h3 h4
theorem StR.noown {H0 : Hp} {a : Addr} (st : StR W Hin H0 σ env) (h : H0 a = none) : ∀ (j : Nat) (es : List D), env[j]? = some (some (.own es)) → σ[j]? ≠ some (some (.ref a)) := fun j es e z => by
  obtain ⟨v, e1, b, vs, rfl, _, h1, _⟩ := st.rel j _ e
  rw [z] at e1
  simp only [Option.some.injEq, V.ref.injEq] at e1
  subst e1
  rw [h] at h1; cases h1
/-- an own list is changed -/
theorem StR.ownUpd {i : Nat} {ds ds' : List D} {a : Addr} {vs vs' : List V} (st : StR W Hin H σ env) (he : env[i]? = some (some (.own ds))) (hs : σ[i]? = some (some (.ref a))) (h : H a = some (.lst vs)) (r : RepL W H ds' vs') :
    StR W Hin (upd H a (.lst vs')) σ (setE env i (.own ds')) := by
  obtain ⟨v0, e0, a0, vs0, rfl, hi, h0, r0⟩ := st.rel i _ he
  rw [hs] at e0
  simp only [Option.some.injEq, V.ref.injEq] at e0
  subst e0
  have fx : FX H (upd H a (.lst vs')) := FX.upd h
  have hli : i < env.length := (List.getElem?_eq_some_iff.mp he).1
  refine ⟨st.same.updN hi (.inr ⟨_, h⟩), fun j s hj => ?_, fun j k ds1 es b hjk h1 h2 h3 h4 => ?_, by unfold setE; rw [List.length_set, st.len], fun p hp => tab_upd (st.tab p hp) (.inr ⟨_, h⟩)⟩
  · rcases setE_get hj with ⟨rfl, rfl, hlt⟩ | ⟨hne, hj⟩
    · exact ⟨_, hs, a, vs', rfl, hi, upd_same, RepL.fx fx _ _ r⟩
    · obtain ⟨w, e1, e2⟩ := st.rel j s hj
      refine ⟨w, e1, ?_⟩
      cases s with
      | fz d => exact Rep.fx fx _ _ e2
      | vw es => exact e2
      | own es =>
        obtain ⟨b, ws, rfl, hb, hbl, rb⟩ := e2
        have hba : b ≠ a := fun z => by subst z; exact st.dis j i es ds b hne hj he e1 hs
        exact ⟨b, ws, rfl, hb, by rw [upd_ne hba]; exact hbl, RepL.fx fx _ _ rb⟩
  · have f : ∀ (j : Nat) (es : List D), (setE env i (.own ds'))[j]? = some (some (.own es)) → ∃ es', env[j]? = some (some (.own es')) := fun j es e => by
      rcases setE_get e with ⟨rfl, _, _⟩ | ⟨_, e⟩
      · exact ⟨_, he⟩
      · exact ⟨_, e⟩
    obtain ⟨_, g1⟩ := f j _ h1
    obtain ⟨_, g2⟩ := f k _ h2
    exact st.dis j k _ _ b hjk g1 g2 h3 h4
/-- a list is frozen -/
theorem StR.frzOther {a : Addr} {vs : List V} {o : Obj} (st : StR W Hin H σ env) (h : H a = some (.lst vs)) (hi : Hin a = none) (hno : ∀ (j : Nat) (es : List D), env[j]? = some (some (.own es)) → σ[j]? ≠ some (some (.ref a))) : StR W Hin (upd H a (.frz o (.lst vs))) σ env := by
  have fx : FX H (upd H a (.frz o (.lst vs))) := FX.upd h
  refine ⟨st.same.updN hi (.inr ⟨_, h⟩), fun j s hj => ?_, st.dis, st.len, fun p hp => tab_upd (st.tab p hp) (.inr ⟨_, h⟩)⟩
  obtain ⟨w, e1, e2⟩ := st.rel j s hj
  refine ⟨w, e1, ?_⟩
  cases s with
  | fz d => exact Rep.fx fx _ _ e2
  | vw es => exact e2
  | own es =>
    obtain ⟨b, ws, rfl, hb, hbl, rb⟩ := e2
    have hba : b ≠ a := fun z => by subst z; exact hno j es hj e1
    exact ⟨b, ws, rfl, hb, by rw [upd_ne hba]; exact hbl, RepL.fx fx _ _ rb⟩
theorem StR.frzOwn {i : Nat} {ds : List D} (st : StR W Hin H σ env) (he : env[i]? = some (some (.own ds))) : ∃ a vs, H a = some (.lst vs) ∧ ∀ o, StR W Hin (upd H a (.frz o (.lst vs))) σ (setE env i (.fz (.lst ds))) := by
  obtain ⟨v0, hs, a, vs, rfl, hi, h, r⟩ := st.rel i _ he
  refine ⟨a, vs, h, fun o => ?_⟩
  have fx : FX H (upd H a (.frz o (.lst vs))) := FX.upd h
  refine ⟨st.same.updN hi (.inr ⟨_, h⟩), fun j s hj => ?_, fun j k ds1 es b hjk h1 h2 h3 h4 => ?_, by unfold setE; rw [List.length_set, st.len], fun p hp => tab_upd (st.tab p hp) (.inr ⟨_, h⟩)⟩
  · rcases setE_get hj with ⟨rfl, rfl, hlt⟩ | ⟨hne, hj⟩
    · refine ⟨_, hs, ?_⟩
      show Rep W _ (.lst ds) _
      simp only [Rep]
      exact ⟨a, vs, rfl, .inl ⟨o, upd_same⟩, RepL.fx fx _ _ r⟩
    · obtain ⟨w, e1, e2⟩ := st.rel j s hj
      refine ⟨w, e1, ?_⟩
      cases s with
      | fz d => exact Rep.fx fx _ _ e2
      | vw es => exact e2
      | own es =>
        obtain ⟨b, ws, rfl, hb, hbl, rb⟩ := e2
        have hba : b ≠ a := fun z => by subst z; exact st.dis j i es ds b hne hj he e1 hs
        exact ⟨b, ws, rfl, hb, by rw [upd_ne hba]; exact hbl, RepL.fx fx _ _ rb⟩
  · rcases setE_get h1 with ⟨rfl, z, _⟩ | ⟨_, h1⟩
    · cases z
    · rcases setE_get h2 with ⟨rfl, z, _⟩ | ⟨_, h2⟩
      · cases z
      · exact st.dis j k _ _ b hjk h1 h2 h3 h4
end

/-! the slots that a statement may bind anew -/
mutual
def S.mods : S → List Nat
  | .asg i _ _ => [i]
  | .par is _ _ => is
  | .unp is _ => is
  | .aug i _ _ => [i]
  | .ife _ a b => a.mods ++ b.mods
  | .for tg _ b => tg.slots ++ b.mods
  | .while _ _ b => b.mods
  | _ => []
def Ss.mods : Ss → List Nat
  | .nil => []
  | .cons s ss => s.mods ++ ss.mods
  | .frz _ ss => ss.mods
end
theorem But.sub {is js : List Nat} {σ σ' : L2.St} (h : But is σ σ') (k : ∀ i ∈ is, i ∈ js) : But js σ σ' := ⟨h.1, fun j hj => h.2 j fun z => hj (k j z)⟩
/-- what a statement of the small language promises -/
def tS (W : Wd) (Hin : Hp) (ms : List Nat) (f : Env → Option Out) : TS := fun D σ H => ∃ env o, StR W Hin H σ env ∧ f env = some o ∧
  match o with
  | .next env' => ∀ σ' H', FX H H' → StR W Hin H' σ' env' → But ms σ σ' → D.nx σ' H'
  | .ret r => ∀ v H', Same W Hin H' → r.plain = true → RelR W Hin Hin H' v r → D.rt v H'

section
variable {W : Wd} {g : Gi} {G : Gm}
def SSt (W : Wd) (g : Gi) (G : Gm) (s : S) : Prop := ∀ (Hin : Hp) (T : Tc) (X : Cx) (st : Stmt), okS g T s st = true → T.sc.kind = .function → Cok W g G T X → PS X st (tS W Hin s.mods (exec G s))
def SSs (W : Wd) (g : Gi) (G : Gm) (s : Ss) : Prop := ∀ (Hin : Hp) (T : Tc) (X : Cx) (st : List Stmt), okSs g T s st = true → T.sc.kind = .function → Cok W g G T X → PSs X st (tS W Hin s.mods (execs G s))

theorem swap_no {v : Expr} {t : Option Expr} {l : Nat} {env : PySem.Env} (h : noLC v = true) : swapsWith v t l env = pure false := by
  cases v <;> first | rfl | (simp [noLC] at h)
/-- the end of x = e: the list is the slot's own, or it stays as it is -/
theorem put_ok {Hin H H1 : Hp} {σ : L2.St} {env env' : Env} {i : Nat} {m : Bool} {r : R} {v : V} {nx : L2.St → Hp → Prop} (st : StR W Hin H σ env) (s : Same W H H1) (rr : RelR W Hin H H1 v r) (e : put i m r env = some env') (q : ∀ σ' H', FX H H' → StR W Hin H' σ' env' → But [i] σ σ' → nx σ' H') :
    nx (σ.set i (some v)) H1 ∨ ∃ a xs, H1 a = some (.lst xs) ∧ ∀ o, nx (σ.set i (some v)) (upd H1 a (.frz o (.lst xs))) := by
  cases r with
  | val d => cases e; exact .inl (q _ _ (.of_same s) ((st.mono s).setFz rr) (.set (by simp)))
  | fresh ds =>
    obtain ⟨a, vs, rfl, n, h1, r1⟩ := rr
    cases m with
    | true =>
      cases e
      exact .inl (q _ _ (.of_same s) ((st.mono s).setOwn (st.same.free n) (st.noown n) h1 r1) (.set (by simp)))
    | false =>
      cases e
      refine .inr ⟨a, vs, h1, fun o => q _ _ ((FX.of_same s).trans (FX.upd h1)) ?_ (.set (by simp))⟩
      refine ((st.mono s).frzOther h1 (st.same.free n) (st.noown n)).setFz ?_
      simp only [Rep]
      exact ⟨a, vs, rfl, .inl ⟨o, upd_same⟩, RepL.fx (FX.upd h1) _ _ r1⟩
  | vown ds => cases e
  | vpar ds => cases e
theorem st_asg (i : Nat) (m : Bool) (e : E) : SSt W g G (.asg i m e) := by
  intro Hin T X st h hk c
  unfold okS at h
  split at h <;> try (cases h; done)
  all_goals try contradiction
  rename_i i' m' e' x px v pos heq
  cases heq
  simp only [Bool.and_eq_true, decide_eq_true_eq, Bool.or_eq_true] at h
  obtain ⟨⟨⟨h1, h2⟩, h3⟩, h4⟩ := h
  obtain ⟨l1, l2⟩ := c.asg h2
  have hN : X.N.Nodup := by rw [c.N]; exact c.nd
  have hi : X.N[i]? = some x := by rw [c.N]; exact h1
  have key : PS X (.Assign [.Name x px] v pos) (tAsg (tE W Hin (ev G e)) (gName i)) := by
    by_cases hl : noLC v = true
    · exact ps_set hN hi l1 (snd_E e Hin T X v h3 c).1 (swap_no hl) l2
    · have h4 : lcSwap T x px v = true := h4.resolve_left hl
      unfold lcSwap at h4
      split at h4 <;> try (cases h4; done)
      rename_i pe t it ifs scope lpos _
      simp only [Bool.or_eq_true, Bool.and_eq_true, Bool.not_eq_true'] at h4
      rcases h4 with ⟨⟨k1, k2⟩, k3⟩ | k1
      · unfold isLoc at k1
        split at k1 <;> try (cases k1; done)
        rename_i kl
        rw [← c.sc] at kl
        -- the list comprehension's own rule
        cases e <;> try (simp only [okE] at h3; cases h3; done)
        rename_i elt tg src cond
        simp only [okE, Bool.and_eq_true, decide_eq_true_eq, Bool.or_eq_true] at h3
        obtain ⟨⟨⟨⟨⟨⟨g1, g2⟩, g3⟩, g4⟩, g5⟩, g6⟩, g7⟩ := h3
        have htup : okNm src = true ∨ ∃ elts k pos, t = .Tuple elts k pos := by
          rcases g7 with h7 | h7
          · exact .inr (tup_of g1 h7)
          · exact .inl h7
        have blk : BlkOk X.N X.env.scope scope (ownOf T tg.slots) := by rw [c.N, c.sc]; exact blkOk_by g5
        refine PS.mono (ps_setLc (own := ownOf T tg.slots) (g := gT X.K tg) (tt := tCd W Hin (evC G cond)) (te := tF W Hin (ev G elt)) c.calm hN hi kl (sw_true (by rw [c.sc]; exact hk) kl k2 k3) (snd_S src Hin T X t it g2 c htup) blk
          (fun s H C cl fp => pg_tg (c.blk scope s H C cl fp) g1) (fun s H C cl fp => (snd_O cond).c Hin (T.blk scope) _ ifs g3 (c.blk scope s H C cl fp)) (fun s H C cl fp => pe_frz (snd_E elt Hin (T.blk scope) _ pe g4 (c.blk scope s H C cl fp)).1) (fun x => src_noset g2 _ x)) fun D σ H h => ?_
        show tLc _ _ _ _ _ σ H _
        rw [g6, c.K]
        exact lc_read h
      · unfold isCell at k1
        split at k1 <;> try (cases k1; done)
        rename_i kl
        rw [← c.sc] at kl
        refine ps_set hN hi l1 (snd_E e Hin T X _ h3 c).1 ?_ l2
        unfold swapsWith
        have e0 : X.env.kindOf x = some .cell := kl
        simp only [e0]
        have e1 : (some NameKind.cell == some NameKind.local) = false := by decide
        simp [e1]
  refine PS.mono (PS.freeze key) fun D σ H ⟨env, o, st, ex, q⟩ => ?_
  simp only [exec] at ex
  split at ex <;> try (cases ex; done)
  rename_i r e1
  obtain ⟨env', e2, rfl⟩ := Option.map_eq_some_iff.mp ex
  exact tE_of st e1 fun v H1 s rr => put_ok st s rr e2 q
end
end Mc
namespace Mc
open PySem PySem.Spec PyProof.Rows L2
section
variable {W : Wd} {g : Gi} {G : Gm}

/-! ### several names at once -/
theorem loc_of {T : Tc} {x : Str} (h : isLoc T x = true) : T.sc.names.lookup x = some .local := by
  unfold isLoc at h
  split at h
  · assumption
  · cases h
theorem anyStar : ∀ l : List Expr, (∀ e ∈ l, noStar e = true) → (l.any fun | .Starred .. => true | _ => false) = false
  | [], _ => rfl
  | e :: r, h => by
    have ih := anyStar r fun x hx => h x (List.mem_cons_of_mem _ hx)
    have h0 := h e List.mem_cons_self
    rw [List.any_cons, ih]
    cases e <;> first | rfl | exact nomatch (show false = true from h0)
theorem sw2 {env : PySem.Env} {x y : Str} {px py pt pt2 : Pos} {kt k2 : Nat} {a b : Expr} (hk : env.scope.kind = .function) (hx : env.scope.names.lookup x = some .local) (hy : env.scope.names.lookup y = some .local) (hxy : x ≠ y) (hl : (py.line == px.line) = true)
    (ha : noStar a = true) (hb : noStar b = true) (hf : ([a, b].all (foldedForSure 8)) = false) (hc : ([a, b].all (constantsAlone 8)) = false) :
    swappedStores [.Tuple [.Name x px, .Name y py] kt pt] (.Tuple [a, b] k2 pt2) env = pure (some [x, y]) := by
  have hbk : env.blockKind = .function := by unfold Env.blockKind; rw [hk]; rfl
  have kx : env.kindOf x = some .local := hx
  have ky : env.kindOf y = some .local := hy
  have hst : ([a, b].any fun | .Starred .. => true | _ => false) = false := by
    cases a <;> cases b <;> first | rfl | exact nomatch (show false = true from ha) | exact nomatch (show false = true from hb)
  have hl' : py.line = px.line := by simpa using hl
  unfold swappedStores
  simp only [hbk]
  rw [if_neg (by intro z; exact nomatch (show false = true from z))]
  refine (if_neg (fun z => Bool.false_ne_true (hst.symm.trans z))).trans ?_
  have e1 : (y == x) = false := by simpa using (Ne.symm hxy)
  simp only [List.filterMap_cons, List.filterMap_nil, kx, ky, List.head?_cons, Option.map_some, Option.getD_some, Expr.pos, hl', beq_self_eq_true, Bool.and_self, if_true, hf, hc]
  have ed : [x, y].eraseDups = [x, y] := by
    simp [List.eraseDups_cons, e1]
  rw [ed]
  simp
theorem sw3 {env : PySem.Env} {x y z : Str} {px py pz pt pt2 : Pos} {kt k2 : Nat} {a b c : Expr} (hk : env.scope.kind = .function) (hx : env.scope.names.lookup x = some .local) (hy : env.scope.names.lookup y = some .local) (hz : env.scope.names.lookup z = some .local)
    (hxy : x ≠ y) (hxz : x ≠ z) (hyz : y ≠ z) (hl : (py.line == px.line) = true) (hl2 : (pz.line == px.line) = true)
    (ha : noStar a = true) (hb : noStar b = true) (hc0 : noStar c = true) (hf : ([a, b, c].all (foldedForSure 8)) = false) (hc : ([a, b, c].all (constantsAlone 8)) = false) :
    swappedStores [.Tuple [.Name x px, .Name y py, .Name z pz] kt pt] (.Tuple [a, b, c] k2 pt2) env = pure (some [x, y, z]) := by
  have hbk : env.blockKind = .function := by unfold Env.blockKind; rw [hk]; rfl
  have kx : env.kindOf x = some .local := hx
  have ky : env.kindOf y = some .local := hy
  have kz : env.kindOf z = some .local := hz
  have hst : ([a, b, c].any fun | .Starred .. => true | _ => false) = false := anyStar _ (by
    intro e he
    simp only [List.mem_cons, List.not_mem_nil, or_false] at he
    rcases he with rfl | rfl | rfl <;> assumption)
  have hl' : py.line = px.line := by simpa using hl
  have hl2' : pz.line = px.line := by simpa using hl2
  unfold swappedStores
  simp only [hbk]
  rw [if_neg (by intro z; exact nomatch (show false = true from z))]
  refine (if_neg (fun z => Bool.false_ne_true (hst.symm.trans z))).trans ?_
  have e1 : (y == x) = false := by simpa using (Ne.symm hxy)
  have e2 : (z == x) = false := by simpa using (Ne.symm hxz)
  have e3 : (z == y) = false := by simpa using (Ne.symm hyz)
  simp only [List.filterMap_cons, List.filterMap_nil, kx, ky, kz, List.head?_cons, Option.map_some, Option.getD_some, Expr.pos, hl', hl2', beq_self_eq_true, Bool.and_self, if_true, hf, hc]
  have ed : [x, y, z].eraseDups = [x, y, z] := by
    simp [List.eraseDups_cons, e1, e2, e3]
  rw [ed]
  simp
theorem nosw {env : PySem.Env} {ts : List Expr} {k : Nat} {p : Pos} {v : Expr} (hk : env.scope.kind = .function) (h : noTup v = true ∨ tupFolded v = true ∨ ∃ x px, Expr.Name x px ∈ ts ∧ env.kindOf x ≠ some .local) : swappedStores [.Tuple ts k p] v env = pure none := by
  have hbk : env.blockKind = .function := by unfold Env.blockKind; rw [hk]; rfl
  by_cases hv : noTup v = true
  · cases v <;> first | rfl | exact nomatch (show false = true from hv)
  · have h := h.resolve_left hv
    cases v <;> first | exact absurd rfl hv | skip
    rename_i vs k2 p2 _
    unfold swappedStores
    simp only [hbk]
    split
    · rfl
    split
    · rfl
    split
    · rfl
    · rename_i h1 h2 h3
      rcases h with h | ⟨x, px, hm, hx⟩
      · have h : vs.all (foldedForSure 8) = true := h
        rw [if_pos h]
      · exfalso
        apply h3
        rw [Bool.or_eq_true]
        left
        rw [bne_iff_ne]
        intro he
        have hle := List.length_filterMap_le (fun | .Name id pos => if env.kindOf id == some .local && pos.line == ((ts.head?.map (·.pos.line)).getD 0) then some id else none | _ => none) ts
        have key : ∀ (f : Expr → Option Str) (l : List Expr), (l.filterMap f).length = l.length → ∀ e ∈ l, f e ≠ none := by
          intro f l
          induction l with
          | nil => intro _ e he; cases he
          | cons a r ih =>
            intro hl e hm
            rw [List.filterMap_cons] at hl
            split at hl
            · have := List.length_filterMap_le f r
              simp at hl
              omega
            · rename_i b hb
              rcases List.mem_cons.mp hm with rfl | hm
              · rw [hb]; exact Option.some_ne_none _
              · exact ih (by simpa using hl) e hm
        have := key _ ts he _ hm
        apply this
        simp [hx]
end
end Mc
namespace Mc
open PySem PySem.Spec PyProof.Rows L2
section
variable {W : Wd} {g : Gi} {G : Gm}

theorem setSls_ok {Hin : Hp} {nx : L2.St → Hp → Prop} : ∀ {is : List Nat} {ss : List Sl} {vs : List V} {H H' : Hp} {σ : L2.St} {env env' : Env}, StR W Hin H σ env → RelM W H H' vs ss → setSls is ss env = some env' →
    ∃ σ', σ' = (is.zip vs).foldl (fun s p => s.set p.1 (some p.2)) σ ∧ StR W Hin H' σ' env' ∧ vs.length = is.length
  | [], [], vs, H, H', σ, env, env', st, r, e => by
    cases vs with
    | cons _ _ => exact r.elim
    | nil => cases e; exact ⟨σ, rfl, st.mono r, rfl⟩
  | [], _ :: _, _, _, _, _, _, _, _, _, e => by simp [setSls] at e
  | _ :: _, [], _, _, _, _, _, _, _, _, e => by simp [setSls] at e
  | i :: is, s :: ss, vs, H, H', σ, env, env', st, r, e => by
    cases vs with
    | nil => exact r.elim
    | cons v vs =>
      obtain ⟨H1, s1, s2, r1, r2⟩ := r
      have st1 : StR W Hin H1 (σ.set i (some v)) (setE env i s) := by
        cases s with
        | fz d => exact (st.mono s1).setFz r1
        | own ds =>
          obtain ⟨a, ws, rfl, n, h1, q⟩ := r1
          exact (st.mono s1).setOwn (st.same.free n) (st.noown n) h1 q
        | vw ds => exact r1.elim
      obtain ⟨σ', e1, e2, e3⟩ := setSls_ok (nx := nx) st1 r2 e
      exact ⟨σ', e1, e2, by simp [e3]⟩
theorem but_fold : ∀ (is : List Nat) (vs : List V) (σ : L2.St), But is σ ((is.zip vs).foldl (fun s p => s.set p.1 (some p.2)) σ)
  | [], vs, σ => .refl _ _
  | i :: is, [], σ => .refl _ _
  | i :: is, v :: vs, σ => by
    rw [List.zip_cons_cons, List.foldl_cons]
    exact (But.set (by simp)).trans ((but_fold is vs _).sub fun j hj => List.mem_cons_of_mem _ hj)
theorem st_par (is : List Nat) (ms : List Bool) (es : Es) : SSt W g G (.par is ms es) := by
  intro Hin T X st h hk c
  have key : ∀ (env : Env) (o : Out), exec G (.par is ms es) env = some o → ∃ rs env', evM G es ms env = some rs ∧ setSls is rs env = some env' ∧ o = .next env' := by
    intro env o ex
    simp only [exec] at ex
    split at ex <;> try (cases ex; done)
    rename_i rs e1
    obtain ⟨env', e2, rfl⟩ := Option.map_eq_some_iff.mp ex
    exact ⟨rs, env', e1, e2, rfl⟩
  unfold okS at h
  split at h <;> try (cases h; done)
  all_goals try contradiction
  rename_i is' ms' es' t v pos heq
  cases heq
  unfold okPar at h
  split at h <;> try (cases h; done)
  · rename_i x px y py kt pt a b k2 pt2
    split at h <;> try (cases h; done)
    rename_i i j
    simp only [Bool.and_eq_true, decide_eq_true_eq, Bool.not_eq_true'] at h
    obtain ⟨⟨⟨⟨⟨⟨⟨⟨⟨h1, h2⟩, h3⟩, h4⟩, h5⟩, h6⟩, h7⟩, h8⟩, h9⟩, h10⟩ := h
    have ns := okEs_star h8
    have lx := loc_of h5
    have ly := loc_of h6
    rw [← c.sc] at lx ly
    refine PS.mono (ps_par c.calm (by rw [c.N]; exact c.nd) (by rw [c.N]; exact h1) (by rw [c.N]; exact h2) h3 lx ly ((snd_Es es).r ms Hin T X _ h8 c)
      (sw2 (by rw [c.sc]; exact hk) lx ly h4 h7 (ns a (by simp)) (ns b (by simp)) h9 h10) rfl) fun D σ H ⟨env, o, st, ex, q⟩ => ?_
    obtain ⟨rs, env', e1, e2, rfl⟩ := key env o ex
    refine ⟨env, rs, st, e1, fun vs H' r => ?_⟩
    obtain ⟨σ', rfl, s2, hl⟩ := setSls_ok (nx := D.nx) st r e2
    match vs, hl with
    | [v, w], _ => exact ⟨v, w, rfl, q _ _ (.of_same r.same) s2 (but_fold [i, j] [v, w] σ)⟩
  · rename_i x px y py z pz kt pt a b d k2 pt2
    split at h <;> try (cases h; done)
    rename_i i j k
    simp only [Bool.and_eq_true, decide_eq_true_eq, Bool.not_eq_true'] at h
    obtain ⟨⟨⟨⟨⟨⟨⟨⟨⟨⟨⟨⟨⟨⟨⟨⟨h1, h2⟩, h3⟩, h4⟩, h5⟩, h6⟩, h7⟩, h8⟩, h9⟩, h10⟩, h11⟩, h12⟩, h13⟩, h14⟩, h15⟩, h16⟩, h17⟩ := h
    have ns := okEs_star h15
    have lx := loc_of h10
    have ly := loc_of h11
    have lz := loc_of h12
    rw [← c.sc] at lx ly lz
    refine PS.mono (ps_par3 c.calm (by rw [c.N]; exact c.nd) (by rw [c.N]; exact h1) (by rw [c.N]; exact h2) (by rw [c.N]; exact h3) h4 h5 h6 lx ly lz ((snd_Es es).r ms Hin T X _ h15 c)
      (sw3 (by rw [c.sc]; exact hk) lx ly lz h7 h8 h9 h13 h14 (ns a (by simp)) (ns b (by simp)) (ns d (by simp)) h16 h17) rfl) fun D σ H ⟨env, o, st, ex, q⟩ => ?_
    obtain ⟨rs, env', e1, e2, rfl⟩ := key env o ex
    refine ⟨env, rs, st, e1, fun vs H' r => ?_⟩
    obtain ⟨σ', rfl, s2, hl⟩ := setSls_ok (nx := D.nx) st r e2
    match vs, hl with
    | [u, v, w], _ => exact ⟨u, v, w, rfl, q _ _ (.of_same r.same) s2 (but_fold [i, j, k] [u, v, w] σ)⟩
theorem some_cell {T : Tc} : ∀ {ts : List Expr}, someCell T ts = true → ∃ x px, Expr.Name x px ∈ ts ∧ T.sc.names.lookup x ≠ some .local
  | [], h => by simp [someCell] at h
  | e :: r, h => by
    have rec_ : someCell T r = true → ∃ x px, Expr.Name x px ∈ e :: r ∧ T.sc.names.lookup x ≠ some .local := fun h => by
      obtain ⟨x, px, h1, h2⟩ := some_cell h
      exact ⟨x, px, List.mem_cons_of_mem _ h1, h2⟩
    cases e <;> simp only [someCell] at h <;> try (exact rec_ h)
    rename_i x px
    rw [Bool.or_eq_true, Bool.not_eq_true'] at h
    rcases h with h | h
    · refine ⟨x, px, List.mem_cons_self, fun z => ?_⟩
      unfold isLoc at h
      rw [z] at h
      cases h
    · exact rec_ h
theorem swap_noS {v t : Expr} {l : Nat} {env : PySem.Env} (h : noLC v = true) : swapsWithSole [t] v l env = pure false := by
  show swapsWith v (some t) l env = pure false
  exact swap_no h
theorem st_unp (is : List Nat) (e : E) : SSt W g G (.unp is e) := by
  intro Hin T X st h hk c
  unfold okS at h
  split at h <;> try (cases h; done)
  all_goals try contradiction
  rename_i is' e' ts k p v pos heq
  cases heq
  simp only [Bool.and_eq_true, Bool.or_eq_true] at h
  obtain ⟨⟨⟨h1, h2⟩, h3⟩, h4⟩ := h
  have hw : swappedStores [.Tuple ts k p] v X.env = pure none := by
    refine nosw (by rw [c.sc]; exact hk) ?_
    rcases h4 with (h4 | h4) | h4
    · exact .inl h4
    · exact .inr (.inl h4)
    · obtain ⟨x, px, m1, m2⟩ := some_cell h4
      exact .inr (.inr ⟨x, px, m1, by show X.env.scope.names.lookup x ≠ _; rw [c.sc]; exact m2⟩)
  refine PS.mono (ps_asg (snd_E e Hin T X v h2 c).1 (pg_tg c h1) (swap_noS h3) hw rfl) fun D σ H ⟨env, o, st, ex, q⟩ => ?_
  simp only [exec] at ex
  split at ex <;> try (cases ex; done)
  rename_i ds e1
  obtain ⟨env', e2, rfl⟩ := Option.map_eq_some_iff.mp ex
  refine tE_of st e1 fun v H1 s r => ?_
  rw [c.K]
  exact gT_ok (tg := .tp is) (st.mono s) r e2 fun σ' b' s' => q σ' H1 (.of_same s) s' b'
theorem st_aug (i : Nat) (op : Bop) (e : E) : SSt W g G (.aug i op e) := by
  intro Hin T X st h hk c
  unfold okS at h
  split at h <;> try (cases h; done)
  all_goals try contradiction
  rename_i i' op' e' x px o v pos heq
  cases heq
  simp only [Bool.and_eq_true, decide_eq_true_eq] at h
  obtain ⟨⟨⟨h1, h2⟩, h3⟩, h4⟩ := h
  obtain ⟨l1, l2⟩ := c.asg h2
  have hN : X.N.Nodup := by rw [c.N]; exact c.nd
  have hi : X.N[i]? = some x := by rw [c.N]; exact h1
  subst h3
  have fin : ∀ (f : Int → Int → Int) (D : Ends) (σ : L2.St) (H : Hp) (env env' : Env) (a b : Int), StR W Hin H σ env → env[i]? = some (some (.fz (.int a))) → ev G e env = some (.val (.int b)) → env' = setE env i (.fz (.int (f a b))) → (∀ σ' H', FX H H' → StR W Hin H' σ' env' → But [i] σ σ' → D.nx σ' H') →
      tAug i (tE W Hin (ev G e)) (ipI f) D σ H := by
    intro f D σ H env env' a b st e1 e2 e3 q
    subst e3
    obtain ⟨w, e4, e5⟩ := st.rel i _ e1
    have e5 : w = .int a := by simpa [SlotR, Rep] using e5
    subst e5
    refine ⟨_, e4, tE_of st e2 fun v H1 s r => ⟨a, b, rfl, rel_intE r, q _ _ (.of_same s) ((st.mono s).setFz rep_int) (.set (by simp))⟩⟩
  cases op with
  | add =>
    refine PS.mono (ps_aug hN hi l1 (snd_E e Hin T X v h4 c).1 ip_add l2) fun D σ H ⟨env, o, st, ex, q⟩ => ?_
    simp only [exec] at ex
    split at ex <;> try (cases ex; done)
    rename_i a e1
    split at ex <;> try (cases ex; done)
    rename_i b e2
    cases ex
    exact fin _ D σ H env _ a b st e1 e2 rfl q
  | sub =>
    refine PS.mono (ps_aug hN hi l1 (snd_E e Hin T X v h4 c).1 ip_sub l2) fun D σ H ⟨env, o, st, ex, q⟩ => ?_
    simp only [exec] at ex
    split at ex <;> try (cases ex; done)
    rename_i a e1
    split at ex <;> try (cases ex; done)
    rename_i b e2
    cases ex
    exact fin _ D σ H env _ a b st e1 e2 rfl q
  | _ =>
    refine ⟨fun pins s σ H D I ⟨env, o, st, ex, q⟩ => ?_⟩
    simp only [exec] at ex
    split at ex <;> try (cases ex; done)
    split at ex <;> cases ex
theorem st_app (i : Nat) (e : E) : SSt W g G (.app i e) := by
  intro Hin T X st h hk c
  unfold okS at h
  split at h <;> try (cases h; done)
  all_goals try contradiction
  rename_i i' e' x p n ap v cp pos heq
  cases heq
  simp only [Bool.and_eq_true, decide_eq_true_eq] at h
  obtain ⟨⟨⟨⟨⟨⟨h1, h2⟩, h3⟩, h4⟩, h5⟩, h6⟩, h7⟩ := h
  subst h4
  have pd := plain_dbg h3
  have hst : starEach [v] X.env = (false, eval v X.env) :: starEach [] X.env := star_ok h6
  have hfew : ∀ cpos : Pos, ((backTo cpos (starEach [v] X.env)).all (fun x => !x.1) && (backToKw cpos (keywordEach [] X.env)).all (fun x => x.1.isSome) && decide ([v].length + ([] : List Keyword).length + (if ([] : List Keyword).isEmpty then 0 else 1) < 30)) = true := fun cpos => by
    rw [hst]; rfl
  refine PS.mono (ps_expr (pe_bm PySem.F.plainAttrs_list PySem.F.slot_list_append PySem.F.type_list_append mt_append (pe_var (X := X) (i := i) (by rw [c.N]; exact h1) (c.vis h2) pd.1 pd.2.1) (pa_1 h6 (pe_frz (snd_E e Hin T X v h5 c).1)) rfl (hfew _) h7 hst rfl) rfl) fun D σ H ⟨env, o, st, ex, q⟩ => ?_
  simp only [exec] at ex
  split at ex <;> try (cases ex; done)
  rename_i ds e1
  split at ex <;> try (cases ex; done)
  rename_i d e2
  split at ex <;> try (cases ex; done)
  rename_i hl
  cases ex
  obtain ⟨w, e3, a, vs, rfl, hi, h0, r0⟩ := st.rel i _ e1
  refine ⟨_, e3, ?_, env, d, st, e2, fun y H1 s ry => ?_⟩
  · exact .inl ⟨rfl, vs, .of h0⟩
  · have h8 := s.at _ _ h0
    have r8 := RepL.fx (.of_same s) _ _ r0
    refine ⟨a, vs, y, rfl, rfl, h8, by rw [← r0.length, ← LINE_eq]; exact hl, q _ _ ((FX.of_same s).trans (FX.upd h8)) ?_ (.refl _ _)⟩
    exact (st.mono s).ownUpd e1 e3 h8 (r8.append (.one ry))
theorem rep_dropLast {H : Hp} : ∀ {ds : List D} {vs : List V}, RepL W H ds vs → RepL W H ds.dropLast vs.dropLast := fun {ds vs} r => by
  rw [List.dropLast_eq_take, List.dropLast_eq_take, ← r.length]
  exact r.take _
theorem st_pop (i : Nat) : SSt W g G (.pop i) := by
  intro Hin T X st h hk c
  unfold okS at h
  split at h <;> try (cases h; done)
  all_goals try contradiction
  rename_i i' x p n ap cp pos heq
  cases heq
  simp only [Bool.and_eq_true, decide_eq_true_eq] at h
  obtain ⟨⟨⟨⟨h1, h2⟩, h3⟩, h4⟩, h7⟩ := h
  subst h4
  have pd := plain_dbg h3
  refine PS.mono (ps_expr (pe_bm0 PySem.F.plainAttrs_list PySem.F.slot_list_pop PySem.F.type_list_pop mt_pop (pe_var (X := X) (i := i) (by rw [c.N]; exact h1) (c.vis h2) pd.1 pd.2.1) rfl h7) rfl) fun D σ H ⟨env, o, st, ex, q⟩ => ?_
  simp only [exec] at ex
  split at ex <;> try (cases ex; done)
  rename_i ds e1
  split at ex <;> try (cases ex; done)
  rename_i hl
  cases ex
  obtain ⟨w, e3, a, vs, rfl, hi, h0, r0⟩ := st.rel i _ e1
  have hne : vs ≠ [] := fun z => by
    subst z
    have := r0.length
    cases ds with
    | nil => exact hl rfl
    | cons _ _ => simp at this
  have hlen : vs.length - 1 < vs.length := by
    have : 0 < vs.length := List.length_pos_iff.mpr hne
    omega
  refine ⟨_, e3, .inl ⟨rfl, vs, .of h0⟩, a, vs, vs[vs.length - 1], rfl, rfl, h0, List.getElem?_eq_getElem hlen, q _ _ (FX.upd h0) ?_ (.refl _ _)⟩
  exact st.ownUpd e1 e3 h0 (rep_dropLast r0)
theorem st_seti (i : Nat) (k e : E) : SSt W g G (.seti i k e) := by
  intro Hin T X st h hk c
  unfold okS at h
  split at h <;> try (cases h; done)
  all_goals try contradiction
  rename_i i' k' e' x p kk sp v pos heq
  cases heq
  simp only [Bool.and_eq_true, decide_eq_true_eq] at h
  obtain ⟨⟨⟨⟨⟨h1, h2⟩, h3⟩, h4⟩, h5⟩, h6⟩ := h
  have pd := plain_dbg h3
  have hns : ∀ v, assign (.Subscript (.Name x p) kk sp) X.env v = (do
      let ov ← holding [v] (eval (.Name x p) X.env)
      let iv ← holding [v, ov] (eval kk X.env)
      standAt sp
      holding [v, ov, iv] (setItem ov iv v)
      release [v, ov, iv] []) := by
    intro v
    cases kk <;> first | rfl | skip
    cases k <;> (simp only [okE] at h4; cases h4)
  refine PS.mono (ps_asg (pe_frz (snd_E e Hin T X v h5 c).1) (pg_sub (pe_var (X := X) (i := i) (by rw [c.N]; exact h1) (c.vis h2) pd.1 pd.2.1) (snd_E k Hin T X kk h4 c).1 set_list hns) (swap_noS h6) (by cases v <;> rfl) rfl) fun D σ H ⟨env, o, st, ex, q⟩ => ?_
  simp only [exec] at ex
  split at ex <;> try (cases ex; done)
  rename_i ds e1
  split at ex <;> try (cases ex; done)
  rename_i d e2
  split at ex <;> try (cases ex; done)
  rename_i z e4
  split at ex <;> try (cases ex; done)
  rename_i j e5
  cases ex
  obtain ⟨w, e3, a, vs, rfl, hi, h0, r0⟩ := st.rel i _ e1
  refine ⟨env, d, st, e2, fun y H1 s ry => ⟨_, e3, tE_of (st.mono s) e4 fun u H2 s2 ru => ?_⟩⟩
  have h8 := (s.trans s2).at _ _ h0
  have r8 := RepL.fx (.of_same (s.trans s2)) _ _ r0
  refine ⟨a, vs, z, j, rfl, rel_intE ru, h8, by rw [← r0.length]; exact e5, q _ _ ((FX.of_same (s.trans s2)).trans (FX.upd h8)) ?_ (.refl _ _)⟩
  exact ((st.mono s).mono s2).ownUpd e1 e3 h8 (RepL.set (Rep.fx (.of_same s2) _ _ ry) j r8)
theorem st_ex (e : E) : SSt W g G (.ex e) := by
  intro Hin T X st h hk c
  unfold okS at h
  split at h <;> try (cases h; done)
  all_goals try contradiction
  rename_i e' v pos heq
  cases heq
  simp only [Bool.and_eq_true] at h
  refine PS.mono (ps_expr (snd_E e Hin T X v h.1 c).1 (swap_no h.2)) fun D σ H ⟨env, o, st, ex, q⟩ => ?_
  simp only [exec] at ex
  split at ex <;> try (cases ex; done)
  rename_i r e1
  cases ex
  exact tE_of st e1 fun v H1 s rr => q _ _ (.of_same s) (st.mono s) (.refl _ _)
theorem st_ret (e : E) : SSt W g G (.ret e) := by
  intro Hin T X st h hk c
  unfold okS at h
  split at h <;> try (cases h; done)
  all_goals try contradiction
  rename_i e' v pos heq
  cases heq
  refine PS.mono (ps_ret (snd_E e Hin T X v h c).1) fun D σ H ⟨env, o, st, ex, q⟩ => ?_
  simp only [exec] at ex
  split at ex <;> try (cases ex; done)
  · rename_i d e1
    cases ex
    exact tE_of st e1 fun v H1 s rr => q v H1 (st.same.trans s) rfl rr
  · rename_i d e1
    cases ex
    exact tE_of st e1 fun v H1 s rr => q v H1 (st.same.trans s) rfl (RelR.pre (r := .fresh d) st.same rr)
  · rename_i d e1
    cases ex
    exact tE_of st e1 fun v H1 s rr => q v H1 (st.same.trans s) rfl rr
theorem st_rvs (i : Nat) : SSt W g G (.rvs i) := by
  intro Hin T X st h hk c
  unfold okS at h
  split at h <;> try (cases h; done)
  all_goals try contradiction
  rename_i i' x p n ap cp pos heq
  cases heq
  simp only [Bool.and_eq_true, decide_eq_true_eq] at h
  obtain ⟨⟨⟨⟨h1, h2⟩, h3⟩, h4⟩, h7⟩ := h
  subst h4
  have pd := plain_dbg h3
  refine PS.mono (ps_expr (pe_bm0 PySem.F.plainAttrs_list PySem.F.slot_list_reverse PySem.F.type_list_reverse mt_reverse (pe_var (X := X) (i := i) (by rw [c.N]; exact h1) (c.vis h2) pd.1 pd.2.1) rfl h7) rfl) fun D σ H ⟨env, o, st, ex, q⟩ => ?_
  simp only [exec] at ex
  split at ex <;> try (cases ex; done)
  rename_i ds e1
  cases ex
  obtain ⟨w, e3, a, vs, rfl, hi, h0, r0⟩ := st.rel i _ e1
  refine ⟨_, e3, .inl ⟨rfl, vs, .of h0⟩, a, vs, rfl, rfl, h0, q _ _ (FX.upd h0) ?_ (.refl _ _)⟩
  exact st.ownUpd e1 e3 h0 r0.reverse
theorem tab_hide {H : Hp} {a : Addr} {xs : List V} {P : Addr} {q : Str} (t : LamX.TabS H P q) (h : H a = some (.lst xs)) : LamX.TabS (hide a H) P q := by
  obtain ⟨ps, h1, h2, h3⟩ := t
  refine ⟨ps, by rw [hide_ne (ne_of h1 h (by intro z; cases z))]; exact h1, h2, fun pos cv hc => ?_⟩
  obtain ⟨c, e1, e2⟩ := h3 pos cv hc
  exact ⟨c, e1, by rw [hide_ne (ne_of e2 h (by intro z; unfold LamX.CodeO at z; cases z))]; exact e2⟩
theorem fx_hide {H H' : Hp} {a : Addr} {xs : List V} (h : H a = some (.lst xs)) (s : Same W (hide a H) H') : FX H H' :=
  ⟨fun b _ _ e => s.at b _ (by rw [hide_ne (ne_of e h (by intro z; cases z))]; exact e), fun b _ e => s.at b _ (by rw [hide_ne (ne_of e h (by intro z; cases z))]; exact e), fun b _ _ _ e => s.at b _ (by rw [hide_ne (ne_of e h (by intro z; cases z))]; exact e), fun b _ e => s.at b _ (by rw [hide_ne (ne_of e h (by intro z; cases z))]; exact e), fun b _ e => s.at b _ (by rw [hide_ne (ne_of e h (by intro z; cases z))]; exact e)⟩
theorem same_hide {Hin H H' : Hp} {a : Addr} {xs : List V} (s : Same W Hin H) (n : Hin a = none) (h : H a = some (.lst xs)) (s2 : Same W (hide a H) H') : Same W Hin H' :=
  ⟨fun b o e k => s2.keep b o (by rw [hide_ne (ne_of_none e n)]; exact s.keep b o e k) k,
   fun b ps e => by
    obtain ⟨qs, e2⟩ := s.tbl b ps e
    exact s2.tbl b qs (by rw [hide_ne (ne_of_none e n)]; exact e2),
   fun t => s2.tab fun p hp => tab_hide (s.tab t p hp) h⟩
theorem StR.mut {Hin H H' : Hp} {σ : L2.St} {env : Env} {i : Nat} {ds ds' : List D} {a : Addr} {vs vs' : List V} (st : StR W Hin H σ env) (he : env[i]? = some (some (.own ds))) (hs : σ[i]? = some (some (.ref a))) (h : H a = some (.lst vs)) (s : Same W (hide a H) H') (h' : H' a = some (.lst vs')) (r : RepL W H' ds' vs') :
    StR W Hin H' σ (setE env i (.own ds')) := by
  obtain ⟨v0, e0, a0, vs0, rfl, hi, h0, r0⟩ := st.rel i _ he
  rw [hs] at e0
  simp only [Option.some.injEq, V.ref.injEq] at e0
  subst e0
  have fx : FX H H' := fx_hide h s
  refine ⟨same_hide st.same hi h s, fun j t hj => ?_, fun j k ds1 es b hjk h1 h2 h3 h4 => ?_, by unfold setE; rw [List.length_set, st.len], s.tab fun p hp => tab_hide (st.tab p hp) h⟩
  · rcases setE_get hj with ⟨rfl, rfl, hlt⟩ | ⟨hne, hj⟩
    · exact ⟨_, hs, a, vs', rfl, hi, h', r⟩
    · obtain ⟨w, e1, e2⟩ := st.rel j t hj
      refine ⟨w, e1, ?_⟩
      cases t with
      | fz d => exact Rep.fx fx _ _ e2
      | vw es => exact e2
      | own es =>
        obtain ⟨b, ws, rfl, hb, hbl, rb⟩ := e2
        have hba : b ≠ a := fun z => by subst z; exact st.dis j i es ds b hne hj he e1 hs
        exact ⟨b, ws, rfl, hb, s.at _ _ (by rw [hide_ne hba]; exact hbl), RepL.fx fx _ _ rb⟩
  · have f : ∀ (j : Nat) (es : List D), (setE env i (.own ds'))[j]? = some (some (.own es)) → ∃ es', env[j]? = some (some (.own es')) := fun j es e => by
      rcases setE_get e with ⟨rfl, _, _⟩ | ⟨_, e⟩
      · exact ⟨_, he⟩
      · exact ⟨_, e⟩
    obtain ⟨_, g1⟩ := f j _ h1
    obtain ⟨_, g2⟩ := f k _ h2
    exact st.dis j k _ _ b hjk g1 g2 h3 h4
theorem st_mcal (f i : Nat) (es : Es) : SSt W g G (.mcal f i es) := by
  intro Hin T X st h hk c
  unfold okS at h
  split at h <;> try (cases h; done)
  all_goals try contradiction
  rename_i f' i' es' x px y py xs pc pos heq
  cases heq
  simp only [Bool.and_eq_true, decide_eq_true_eq] at h
  obtain ⟨⟨⟨⟨⟨⟨h1, h2⟩, h3⟩, h4⟩, h5⟩, h6⟩, h7⟩ := h
  have pd := plain_dbg h3
  have pd2 := plain_dbg h6
  have ns := okEs_star h7
  have hpl : ∀ pos, (backTo pos (starEach xs X.env)).any (·.1) = false := fun pos => noany fun z hz => ns z hz
  cases hG : G f with
  | none =>
    refine ⟨fun pins s σ H D I ⟨env, o, st, ex, q⟩ => ?_⟩
    simp only [exec, hG] at ex
    split at ex <;> try (cases ex; done)
    split at ex <;> try (cases ex; done)
    split at ex <;> cases ex
  | some sem =>
    obtain ⟨k, ad, fd, ps, hr, hm, hk2, hb, F⟩ := c.muts f x sem h1 hG
    refine PS.mono (ps_expr (pe_call F hr (c.gl h2) hm hk2 hb .nil pass0 (pa_cons (pe_var (X := X) (i := i) (by rw [c.N]; exact h4) (c.vis h5) pd2.1 pd2.2.1) ((snd_Es es).a Hin T X _ h7 c) rfl) pd.1 rfl (hpl _)) rfl) fun D σ H ⟨env, o, st, ex, q⟩ => ?_
    simp only [exec, hG] at ex
    split at ex <;> try (cases ex; done)
    rename_i ds e1
    split at ex <;> try (cases ex; done)
    rename_i as e2
    split at ex <;> try (cases ex; done)
    rename_i hfz
    split at ex <;> try (cases ex; done)
    rename_i ds' e4
    cases ex
    obtain ⟨w, e3, a, vs, rfl, hi, h0, r0⟩ := st.rel i _ e1
    refine ⟨_, e3, env, as, st, e2, fun ws H1 s ra => ?_⟩
    show spM W sem ((.ref a :: ws) ++ []) H1 _ E0
    rw [List.append_nil]
    have h8 := s.at _ _ h0
    exact ⟨a, vs, ds, as, ds', ws, rfl, h8, RepL.fx (.of_same s) _ _ r0, ra, hfz, e4, fun H2 vs' s2 h9 r9 => q _ _ ((FX.of_same s).trans (fx_hide h8 s2)) ((st.mono s).mut e1 e3 h8 s2 h9 r9) (.refl _ _)⟩
theorem st_mcalE (f : Nat) (e : E) : SSt W g G (.mcalE f e) := by
  intro Hin T X st h hk c
  unfold okS at h
  split at h <;> try (cases h; done)
  all_goals try contradiction
  rename_i f' e' x px p pc pos heq
  cases heq
  simp only [Bool.and_eq_true, decide_eq_true_eq] at h
  obtain ⟨⟨⟨⟨h1, h2⟩, h3⟩, h4⟩, h5⟩ := h
  have pd := plain_dbg h3
  have hst : starEach [p] X.env = (false, eval p X.env) :: starEach [] X.env := star_ok h5
  cases hG : G f with
  | none =>
    refine ⟨fun pins s σ H D I ⟨env, o, st, ex, q⟩ => ?_⟩
    simp only [exec, hG] at ex
    split at ex <;> cases ex
  | some sem =>
    obtain ⟨k, ad, fd, ps, hr, hm, hk2, hb, F⟩ := c.muts f x sem h1 hG
    refine PS.mono (ps_expr (pe_call F hr (c.gl h2) hm hk2 hb .nil pass0 (pa_cons (snd_E e Hin T X p h4 c).1 pa_nil hst) pd.1 hst rfl) rfl) fun D σ H ⟨env, o, st, ex, q⟩ => ?_
    simp only [exec, hG] at ex
    split at ex <;> try (cases ex; done)
    rename_i ds e1
    split at ex <;> try (cases ex; done)
    rename_i ds' e4
    cases ex
    refine tE_of st e1 fun v H1 s rr => ?_
    obtain ⟨a, vs, rfl, n, h1', r1⟩ := rr
    refine (show spM W sem [.ref a] H1 (fun _ H2 => D.nx σ H2) E0 from ?_)
    refine ⟨a, vs, ds, [], ds', [], rfl, h1', r1, .nil (Tabs.same s st.tab), rfl, e4, fun H2 vs' s2 h9 r9 => ?_⟩
    have sm : Same W H H2 := same_hide s n h1' s2
    exact q _ _ (.of_same sm) (st.mono sm) (.refl _ _)
theorem st_stop : SSt W g G .stop := by
  intro Hin T X st h hk c
  refine ⟨fun pins s σ H D I ⟨env, o, st, ex, q⟩ => ?_⟩
  simp only [exec] at ex
  cases ex
theorem st_rais (cc : Nat) (xx : Str) : SSt W g G (.rais cc xx) := by
  intro Hin T X st h hk c
  refine ⟨fun pins s σ H D I ⟨env, o, st, ex, q⟩ => ?_⟩
  simp only [exec] at ex
  cases ex
/-- what is wanted at the end, seen from a state on the way -/
def Wants (W : Wd) (Hin : Hp) (D : Ends) (ms : List Nat) (σ : L2.St) (H : Hp) : Out → Prop
  | .next env' => ∀ σ' H', FX H H' → StR W Hin H' σ' env' → But ms σ σ' → D.nx σ' H'
  | .ret r => ∀ v H', Same W Hin H' → r.plain = true → RelR W Hin Hin H' v r → D.rt v H'
theorem Wants.fx {Hin : Hp} {D : Ends} {ms : List Nat} {σ σ1 : L2.St} {H H1 : Hp} {o : Out} (s : FX H H1) (b : But ms σ σ1) (q : Wants W Hin D ms σ H o) : Wants W Hin D ms σ1 H1 o := by
  cases o with
  | next env' => exact fun σ' H' f st b' => q σ' H' (s.trans f) st (b.trans b')
  | ret r => exact q
theorem Wants.sub {Hin : Hp} {D : Ends} {ms ns : List Nat} {σ : L2.St} {H : Hp} {o : Out} (k : ∀ i ∈ ns, i ∈ ms) (q : Wants W Hin D ms σ H o) : Wants W Hin D ns σ H o := by
  cases o with
  | next env' => exact fun σ' H' f st b' => q σ' H' f st (b'.sub k)
  | ret r => exact q
theorem tS_pre {Hin : Hp} {D : Ends} {ms : List Nat} {σ : L2.St} {H H1 : Hp} {o : Out} (s : Same W H H1) (q : Wants W Hin D ms σ H o) : Wants W Hin D ms σ H1 o := q.fx (.of_same s) (.refl _ _)
theorem st_ife (t : E) (a b : Ss) (ha : SSs W g G a) (hb : SSs W g G b) : SSt W g G (.ife t a b) := by
  intro Hin T X st h hk c
  unfold okS at h
  split at h <;> try (cases h; done)
  all_goals try contradiction
  rename_i t' a' b' pt xs ys pos heq
  cases heq
  simp only [Bool.and_eq_true] at h
  obtain ⟨⟨⟨h1, h2⟩, h3⟩, h4⟩ := h
  refine PS.mono (ps_if ((snd_E t Hin T X pt h1 c).2 h2) (ha Hin T X xs h3 hk c) (hb Hin T X ys h4 hk c)) fun D σ H ⟨env, o, st, ex, q⟩ => ?_
  simp only [exec] at ex
  have q : Wants W Hin D (a.mods ++ b.mods) σ H o := q
  split at ex <;> try (cases ex; done)
  · rename_i e1
    exact ⟨env, true, st, e1, fun H' s => iteT ⟨env, o, st.mono s, ex, (tS_pre s q).sub fun i hi => List.mem_append_left _ hi⟩⟩
  · rename_i e1
    exact ⟨env, false, st, e1, fun H' s => iteF ⟨env, o, st.mono s, ex, (tS_pre s q).sub fun i hi => List.mem_append_right _ hi⟩⟩

/-! ### loops -/
theorem st_while (n : Nat) (t : E) (b : Ss) (hb : SSs W g G b) : SSt W g G (.while n t b) := by
  intro Hin T X st h hk c
  unfold okS at h
  split at h <;> try (cases h; done)
  all_goals try contradiction
  rename_i n' t' b' pt xs pos heq
  cases heq
  simp only [Bool.and_eq_true] at h
  obtain ⟨⟨h1, h2⟩, h3⟩ := h
  have hp : PassesOwn (model X.prog X.w) X.A X.env X.xe := by rw [c.xe]; exact PassesOwn.never
  refine PS.mono (ps_while hp ((snd_E t Hin T X pt h1 c).2 h2) (hb Hin T X xs h3 hk c)) fun D σ H ⟨env, o, st, ex, q⟩ => ?_
  simp only [exec] at ex
  have q : Wants W Hin D b.mods σ H o := q
  refine ⟨fun m σ' H' => ∃ env' o', StR W Hin H' σ' env' ∧ whileLoop (ev G t) (execs G b) m env' = some o' ∧ Wants W Hin D b.mods σ' H' o', ⟨n, env, o, st, ex, q⟩, ?_⟩
  rintro m σ' H' ⟨env', o', st', ex', q'⟩
  cases m with
  | zero => simp only [whileLoop] at ex'; cases ex'
  | succ m =>
    simp only [whileLoop] at ex'
    split at ex' <;> try (cases ex'; done)
    · rename_i e1
      cases ex'
      exact ⟨env', false, st', e1, fun H1 s => iteF (q' _ _ (.of_same s) (st'.mono s) (.refl _ _))⟩
    · rename_i e1
      refine ⟨env', true, st', e1, fun H1 s => iteT ?_⟩
      split at ex' <;> try (cases ex'; done)
      · rename_i env2 e2
        refine ⟨fun σ2 H2 => StR W Hin H2 σ2 env2 ∧ FX H1 H2 ∧ But b.mods σ' σ2, fun σ2 H2 s2 => ⟨m, Nat.lt_succ_self m, env2, o', s2.1, ex', q'.fx ((FX.of_same s).trans s2.2.1) s2.2.2⟩, env', .next env2, st'.mono s, e2, fun σ2 H2 f s2 b2 => ⟨s2, f, b2⟩⟩
      · rename_i v e2
        cases ex'
        exact ⟨fun _ _ => False, fun σ2 H2 z => z.elim, env', .ret v, st'.mono s, e2, q'⟩

/-- a source for a for: nothing of it is changed meanwhile -/
def tIF (W : Wd) (Hin : Hp) (f : Env → Option (List D)) (fix : Env → Bool) : TI := fun σ H R => ∃ env items, StR W Hin H σ env ∧ fix env = true ∧ f env = some items ∧ ∀ J H1, Same W H H1 → WalkD W (fun H' => FX H1 H' ∧ Same W Hin H') J items → R J H1
def notVown : R → Bool
  | .vown _ => false
  | _ => true
/-- what stays: a value, or a list that was handed in -/
def Stay (W : Wd) (Hin H : Hp) (v : V) : R → Prop
  | .val d => Rep W H d v
  | .fresh ds => Rep W H (.lst ds) v
  | .vown _ => False
  | .vpar ds => ∃ a vs, v = .ref a ∧ Hin a = some (.lst vs) ∧ RepL W Hin ds vs
theorem pe_stay {X : Cx} {Hin : Hp} {e : Expr} {f : Env → Option R} (h : PE X e (tE W Hin f)) : PE X e (fun σ H Q => ∃ env r, StR W Hin H σ env ∧ f env = some r ∧ notVown r = true ∧ ∀ v H', Same W H H' → Stay W Hin H' v r → Q v H') := by
  refine PE.mono (PE.freeze h) fun σ H Q ⟨env, r, st, e1, nv, q⟩ => ?_
  refine ⟨env, r, st, e1, fun v H' s rr => ?_⟩
  cases r with
  | val d' => exact .inl (q v H' s rr)
  | fresh ds =>
    obtain ⟨a, vs, rfl, n, h1, r1⟩ := rr
    refine .inr ⟨a, vs, rfl, h1, fun o => q _ _ (same_frz s n h1) ?_⟩
    show Rep W _ (.lst ds) _
    simp only [Rep]
    exact ⟨a, vs, rfl, .inl ⟨o, upd_same⟩, RepL.fx (FX.upd h1) _ _ r1⟩
  | vown ds => cases nv
  | vpar ds => exact .inl (q v H' s rr)
theorem Stay.lst {Hin H : Hp} {v : V} {r : R} {ds : List D} (hs : Same W Hin H) (h : Stay W Hin H v r) (e : r.data = .lst ds) : ∃ a vs, v = .ref a ∧ SqL W.K H a vs ∧ RepL W H ds vs ∧ ∀ H', FX H H' ∧ Same W Hin H' → SqL W.K H' a vs := by
  cases r with
  | val d =>
    have e : d = .lst ds := e
    subst e
    have h : Rep W H (.lst ds) v := h
    simp only [Rep] at h
    obtain ⟨a, vs, rfl, q, r⟩ := h
    exact ⟨a, vs, rfl, q.sq, r, fun H' c => (q.fx c.1).sq⟩
  | fresh ds' =>
    cases e
    have h : Rep W H (.lst ds) v := h
    simp only [Rep] at h
    obtain ⟨a, vs, rfl, q, r⟩ := h
    exact ⟨a, vs, rfl, q.sq, r, fun H' c => (q.fx c.1).sq⟩
  | vown _ => exact h.elim
  | vpar ds' =>
    cases e
    obtain ⟨a, vs, rfl, q, r⟩ := h
    exact ⟨a, vs, rfl, .of (hs.at _ _ q), RepL.fx (.of_same hs) _ _ r, fun H' c => .of (c.2.at _ _ q)⟩
theorem Stay.tup {Hin H : Hp} {v : V} {r : R} {ds : List D} (h : Stay W Hin H v r) (e : r.data = .tup ds) : ∃ a vs, v = .ref a ∧ SqT W.K H a vs ∧ RepL W H ds vs := by
  cases r with
  | val d =>
    have e : d = .tup ds := e
    subst e
    have h : Rep W H (.tup ds) v := h
    simpa only [Rep] using h
  | fresh ds' => cases e
  | vown _ => exact h.elim
  | vpar ds' => cases e
theorem Stay.str {Hin H : Hp} {v : V} {r : R} {l : List Nat} (h : Stay W Hin H v r) (e : r.data = .str l) : v = .str ⟨⟨l⟩⟩ := by
  cases r with
  | val d =>
    have e : d = .str l := e
    subst e
    have h : Rep W H (.str l) v := h
    simpa only [Rep] using h
  | fresh ds' => cases e
  | vown _ => exact h.elim
  | vpar ds' => cases e
theorem fix_of {e : E} {env : Env} {r : R} (h : ev G e env = some r) (f : (match ev G e env with | some (.vown _) => false | _ => true) = true) : notVown r = true := by
  rw [h] at f
  cases r <;> first | rfl | cases f
def SSF (W : Wd) (g : Gi) (G : Gm) (s : Src) : Prop := ∀ (Hin : Hp) (T : Tc) (X : Cx) (tg pe : Expr), okSrc g T s pe = true → Cok W g G T X → (okNm s = true ∨ ∃ elts k pos, tg = .Tuple elts k pos) → PI X tg pe (tIF W Hin (evS G s) (srcFix G s))
theorem sf_seq (e : E) : SSF W g G (.seq e) := by
  intro Hin T X tg pe h c ht
  simp only [okSrc] at h
  have hp := pe_stay (snd_E e Hin T X pe h c).1
  refine PI.mono (PI.or (pi_list (tg := tg) hp) (PI.or (pi_tup hp) (pi_str hp))) fun σ H R ⟨env, items, st, fx, e, q⟩ => ?_
  simp only [evS] at e
  split at e <;> try (cases e; done)
  rename_i x e1
  have nv := fix_of e1 fx
  unfold seqD at e
  split at e <;> try (cases e; done)
  · rename_i ds e2
    cases e
    refine .inl ⟨env, x, st, e1, nv, fun v H1 s r => ?_⟩
    obtain ⟨a, vs, rfl, h1, r1, hc⟩ := r.lst (st.same.trans s) e2
    refine ⟨a, rfl, ⟨vs, by rw [c.K]; exact h1⟩, ?_⟩
    rw [c.K]
    exact q _ H1 s (walkD_list (fun H h => ⟨hc H h, h.1⟩) r1)
  · rename_i ds e2
    cases e
    refine .inr (.inl ⟨env, x, st, e1, nv, fun v H1 s r => ?_⟩)
    obtain ⟨a, vs, rfl, h1, r1⟩ := r.tup e2
    refine ⟨a, rfl, ⟨vs, by rw [c.K]; exact h1⟩, ?_⟩
    rw [c.K]
    exact q _ H1 s (walkD_tup (fun H h => ⟨SqT.fx h.1 h1, h.1⟩) r1)
  · rename_i l e2
    cases e
    refine .inr (.inr ⟨env, x, st, e1, nv, fun v H1 s r => ?_⟩)
    exact ⟨_, r.str e2, q _ H1 s (walkD_str l)⟩
theorem sf_enum (e : E) : SSF W g G (.enum e) := by
  intro Hin T X tg pe h c ht
  obtain ⟨elts, kk, tpos, rfl⟩ : ∃ elts k pos, tg = .Tuple elts k pos := by
    rcases ht with ht | ht
    · cases ht
    · exact ht
  unfold okSrc at h
  split at h <;> try (cases h; done)
  all_goals try contradiction
  rename_i a' x px p pos heq
  cases heq
  simp only [Bool.and_eq_true, decide_eq_true_eq] at h
  obtain ⟨⟨⟨rfl, h2⟩, h3⟩, h4⟩ := h
  have pa := pa_1 h4 (pe_stay (snd_E e Hin T X _ h3 c).1)
  refine PI.mono (PI.or (pi_enum (c.gl h2) (c.blt _ (by decide +kernel)) pa (star_ok h4)) (pi_enumS (c.gl h2) (c.blt _ (by decide +kernel)) pa (star_ok h4))) fun σ H R ⟨env, items, st, fx, e, q⟩ => ?_
  simp only [evS] at e
  split at e <;> try (cases e; done)
  rename_i x e1
  have nv := fix_of e1 fx
  split at e <;> try (cases e; done)
  · rename_i ds e2
    cases e
    refine .inl ⟨env, x, st, e1, nv, fun v H1 s r => ?_⟩
    obtain ⟨a, vs, rfl, h1, r1, hc⟩ := r.lst (st.same.trans s) e2
    refine ⟨a, vs, rfl, by rw [c.K]; exact h1, ?_⟩
    rw [c.K]
    exact q _ H1 s (walkD_enum (fun H h => ⟨hc H h, h.1⟩) r1)
  · rename_i l e2
    cases e
    refine .inr ⟨env, x, st, e1, nv, fun v H1 s r => ?_⟩
    exact ⟨_, by rw [r.str e2], q _ H1 s (walkD_enumS l)⟩
theorem sf_zip (a b : E) : SSF W g G (.zip a b) := by
  intro Hin T X tg pe h c ht
  obtain ⟨elts, kk, tpos, rfl⟩ : ∃ elts k pos, tg = .Tuple elts k pos := by
    rcases ht with ht | ht
    · cases ht
    · exact ht
  unfold okSrc at h
  split at h <;> try (cases h; done)
  all_goals try contradiction
  rename_i a' b' x px p p2 pos heq
  cases heq
  simp only [Bool.and_eq_true, decide_eq_true_eq] at h
  obtain ⟨⟨⟨⟨⟨rfl, h2⟩, h3⟩, h4⟩, h5⟩, h6⟩ := h
  refine PI.mono (pi_zip (c.gl h2) (c.blt _ (by decide +kernel)) (pa_2 h4 h6 (pe_stay (snd_E a Hin T X _ h3 c).1) (pe_stay (snd_E b Hin T X _ h5 c).1)) (star_ok h4) (by rw [star_ok h6]; rfl)) fun σ H R ⟨env, items, st, fx, e, q⟩ => ?_
  simp only [evS] at e
  split at e <;> try (cases e; done)
  rename_i x e1
  split at e <;> try (cases e; done)
  rename_i y e2
  split at e <;> try (cases e; done)
  rename_i ds es e3 e4
  cases e
  simp only [srcFix, Bool.and_eq_true] at fx
  refine ⟨env, x, st, e1, fix_of e1 fx.1, fun v H1 s1 r1 => ⟨env, y, st.mono s1, e2, fix_of e2 fx.2, fun w H2 s2 r2 => ?_⟩⟩
  obtain ⟨p, vs, rfl, k1, q1, hc1⟩ := r1.lst (st.same.trans s1) e3
  obtain ⟨p', ws, rfl, k2, q2, hc2⟩ := r2.lst ((st.same.trans s1).trans s2) e4
  refine ⟨p, p', vs, ws, rfl, by rw [c.K]; exact SqL.same s2 k1, by rw [c.K]; exact k2, ?_⟩
  rw [c.K]
  exact q _ H2 (s1.trans s2) (walkD_zip (fun H h => ⟨⟨hc1 H ⟨(FX.of_same s2).trans h.1, h.2⟩, hc2 H h⟩, h.1⟩) (RepL.fx (.of_same s2) _ _ q1) q2)
theorem sf_rng1 (a : E) : SSF W g G (.rng1 a) := by
  intro Hin T X tg pe h c ht
  unfold okSrc at h
  split at h <;> try (cases h; done)
  all_goals try contradiction
  rename_i a' x px p pos heq
  cases heq
  simp only [Bool.and_eq_true, decide_eq_true_eq] at h
  obtain ⟨⟨⟨rfl, h2⟩, h3⟩, h4⟩ := h
  refine PI.mono (pi_range1 (c.gl h2) (c.blt _ (by decide +kernel)) (pa_1 h4 (snd_E a Hin T X _ h3 c).1) (star_ok h4)) fun σ H R ⟨env, items, st, fx, e, q⟩ => ?_
  simp only [evS] at e
  split at e <;> try (cases e; done)
  rename_i j e1
  split at e <;> try (cases e; done)
  rename_i hs
  cases e
  have hs := small62_iff hs
  exact tE_of st e1 fun v H1 s r => ⟨j, by rw [rel_intE r], hs.1, hs.2, q _ H1 s (walkD_rng 0 _)⟩
theorem sf_rng2 (a b : E) : SSF W g G (.rng2 a b) := by
  intro Hin T X tg pe h c ht
  unfold okSrc at h
  split at h <;> try (cases h; done)
  all_goals try contradiction
  rename_i a' b' x px p p2 pos heq
  cases heq
  simp only [Bool.and_eq_true, decide_eq_true_eq] at h
  obtain ⟨⟨⟨⟨⟨rfl, h2⟩, h3⟩, h4⟩, h5⟩, h6⟩ := h
  refine PI.mono (pi_range2 (c.gl h2) (c.blt _ (by decide +kernel)) (pa_2 h4 h6 (snd_E a Hin T X _ h3 c).1 (snd_E b Hin T X _ h5 c).1) (by rw [star_ok h4, star_ok h6]; rfl) (star_ok h6)) fun σ H R ⟨env, items, st, fx, e, q⟩ => ?_
  simp only [evS] at e
  split at e <;> try (cases e; done)
  rename_i i e1
  split at e <;> try (cases e; done)
  rename_i j e2
  split at e <;> try (cases e; done)
  rename_i hs
  cases e
  rw [Bool.and_eq_true] at hs
  have h1 := small62_iff hs.1
  have h2 := small62_iff hs.2
  exact tE_2 (Q := fun v w H2 => ∃ i j : Int, [v, w] = [V.int i, V.int j] ∧ (-(2 ^ 62) ≤ i ∧ i < 2 ^ 62 ∧ -(2 ^ 62) ≤ j ∧ j < 2 ^ 62) ∧ R (Itr i (j - i).toNat) H2) st e1 e2 fun v w H1 s r r2 => ⟨i, j, by rw [rel_intE r, rel_intE r2], ⟨h1.1, h1.2, h2.1, h2.2⟩, q _ H1 s (walkD_rng i _)⟩
theorem sf_rng3 (a b d : E) : SSF W g G (.rng3 a b d) := by
  intro Hin T X tg pe h c ht
  unfold okSrc at h
  split at h <;> try (cases h; done)
  all_goals try contradiction
  rename_i a' b' d' x px p p2 p3 pos heq
  cases heq
  simp only [Bool.and_eq_true, decide_eq_true_eq] at h
  obtain ⟨⟨⟨⟨⟨⟨⟨rfl, h2⟩, h3⟩, h4⟩, h5⟩, h6⟩, h7⟩, h8⟩ := h
  have hn : ∀ z ∈ [p2, p3], noStar z = true := by
    intro z hz
    simp only [List.mem_cons, List.not_mem_nil, or_false] at hz
    rcases hz with rfl | rfl <;> assumption
  refine PI.mono (pi_range3 (c.gl h2) (c.blt _ (by decide +kernel)) (pa_cons (snd_E a Hin T X _ h3 c).1 (pa_2 h6 h8 (snd_E b Hin T X _ h5 c).1 (snd_E d Hin T X _ h7 c).1) (star_ok h4)) (star_ok h4) (noany hn)) fun σ H R ⟨env, items, st, fx, e, q⟩ => ?_
  simp only [evS] at e
  split at e <;> try (cases e; done)
  rename_i i e1
  split at e <;> try (cases e; done)
  rename_i j e2
  split at e <;> try (cases e; done)
  rename_i k e3
  split at e <;> try (cases e; done)
  rename_i hs
  cases e
  simp only [Bool.and_eq_true, decide_eq_true_eq] at hs
  obtain ⟨⟨⟨k1, k2⟩, k3⟩, k4⟩ := hs
  refine tE_of st e1 fun v H1 s1 r1 => tE_of (st.mono s1) e2 fun w H2 s2 r2 => tE_of ((st.mono s1).mono s2) e3 fun u H3 s3 r3 => ?_
  refine ⟨i, j, k, (Builtin.Range.rangeSize i j k).toNat, by rw [rel_intE r1, rel_intE r2, rel_intE r3], ⟨k1, k2, k3, by omega⟩, q _ H3 ((s1.trans s2).trans s3) (walkD_rngC i k _)⟩
theorem snd_F (s : Src) : SSF W g G s := by
  cases s with
  | seq e => exact sf_seq e
  | rng1 a => exact sf_rng1 a
  | rng2 a b => exact sf_rng2 a b
  | rng3 a b d => exact sf_rng3 a b d
  | enum e => exact sf_enum e
  | zip a b => exact sf_zip a b
theorem st_for (tg : Tg) (src : Src) (b : Ss) (hb : SSs W g G b) : SSt W g G (.for tg src b) := by
  intro Hin T X st h hk c
  unfold okS at h
  split at h <;> try (cases h; done)
  all_goals try contradiction
  rename_i tg' src' b' t it body pos heq
  cases heq
  simp only [Bool.and_eq_true, Bool.or_eq_true] at h
  obtain ⟨⟨⟨h1, h2⟩, h3⟩, h4⟩ := h
  have htup : okNm src = true ∨ ∃ elts k pos, t = .Tuple elts k pos := by
    rcases h4 with h7 | h7
    · exact .inr (tup_of h1 h7)
    · exact .inl h7
  have hp : PassesOwn (model X.prog X.w) X.A X.env X.xe := by rw [c.xe]; exact PassesOwn.never
  refine PS.mono (ps_for hp c.calm (snd_F src Hin T X t it h2 c htup) (pg_tg c h1) (hb Hin T X body h3 hk c) (fun x => src_noset h2 _ x)) fun D σ H ⟨env, o, st, ex, q⟩ => ?_
  simp only [exec] at ex
  split at ex <;> try (cases ex; done)
  rename_i fx
  split at ex <;> try (cases ex; done)
  rename_i items e1
  refine ⟨env, items, st, fx, e1, fun J H1 s1 wd => ?_⟩
  rw [c.K]
  obtain ⟨n, Gd, Y, hn, wk, hG, hY⟩ := wd.ex
  subst hn
  have q : Wants W Hin D (tg.slots ++ b.mods) σ H o := q
  refine for_it wk (g := gT W.K tg) (tb := tS W Hin b.mods (execs G b)) (D := D) (fun i σ' H' => ∃ env', StR W Hin H' σ' env' ∧ FX H1 H' ∧ But (tg.slots ++ b.mods) σ σ' ∧ forLoop (bindT tg) (execs G b) (items.drop i) env' = some o)
    ⟨env, st.mono s1, .refl _, .refl _ _, ex⟩ (fun i σ' H' _ ⟨env', st', f', _⟩ => hG H' ⟨f', st'.same⟩) (fun i x σ' Hc Hc' hi ⟨env', st', f', bb, l1⟩ y => ?_) (fun σ' H' ⟨env', st', f', bb, l1⟩ => ?_)
  · obtain ⟨s3, d, ed, rd⟩ := hY i Hc x Hc' ⟨f', st'.same⟩ hi y
    have edrop : items.drop i = d :: items.drop (i + 1) := by
      rw [List.drop_eq_getElem_cons hi]
      have := (List.getElem?_eq_some_iff.mp ed).2
      rw [this]
    rw [edrop] at l1
    simp only [forLoop] at l1
    split at l1 <;> try (cases l1; done)
    rename_i env1 eb
    refine gT_ok (st'.mono s3) rd eb fun σ2 but st4 => ?_
    split at l1 <;> try (cases l1; done)
    · rename_i env2 e2
      exact ⟨env1, .next env2, st4, e2, fun σ3 H3 f3 st5 b3 => ⟨env2, st5, (f'.trans (.of_same s3)).trans f3, (bb.trans (but.sub fun i hi => List.mem_append_left _ hi)).trans (b3.sub fun i hi => List.mem_append_right _ hi), l1⟩⟩
    · rename_i v e2
      cases l1
      exact ⟨env1, .ret v, st4, e2, q⟩
  · rw [List.drop_of_length_le (Nat.le_refl _)] at l1
    cases l1
    exact q σ' H' ((FX.of_same s1).trans f') st' bb

/-! ### blocks -/
theorem ss_nil : SSs W g G .nil := by
  intro Hin T X st h hk c
  cases st with
  | cons _ _ => simp only [okSs] at h; cases h
  | nil =>
    refine PSs.mono pss_nil fun D σ H ⟨env, o, st, ex, q⟩ => ?_
    simp only [execs] at ex
    cases ex
    exact q σ H (.refl _) st (.refl _ _)
theorem ss_cons (s : S) (ss : Ss) (hs : SSt W g G s) (hss : SSs W g G ss) : SSs W g G (.cons s ss) := by
  intro Hin T X st h hk c
  cases st with
  | nil => simp only [okSs] at h; cases h
  | cons x xs =>
    simp only [okSs, Bool.and_eq_true] at h
    refine PSs.mono (pss_cons (hs Hin T X x h.1 hk c) (hss Hin T X xs h.2 hk c)) fun D σ H ⟨env, o, st, ex, q⟩ => ?_
    simp only [execs] at ex
    split at ex <;> try (cases ex; done)
    · rename_i env' e1
      have q : Wants W Hin D (s.mods ++ ss.mods) σ H o := q
      exact ⟨env, .next env', st, e1, fun σ' H' f st' b' => ⟨env', o, st', ex, (q.fx f (b'.sub fun i hi => List.mem_append_left _ hi)).sub fun i hi => List.mem_append_right _ hi⟩⟩
    · rename_i v e1
      cases ex
      exact ⟨env, .ret v, st, e1, q⟩
theorem ss_frz (i : Nat) (ss : Ss) (hss : SSs W g G ss) : SSs W g G (.frz i ss) := by
  intro Hin T X st h hk c
  simp only [okSs] at h
  refine PSs.mono (PSs.unfree (hss Hin T X st h hk c)) fun D σ H ⟨env, o, st, ex, q⟩ => ?_
  simp only [execs] at ex
  have q : Wants W Hin D ss.mods σ H o := q
  unfold freeze at ex
  split at ex
  · rename_i ds e1
    obtain ⟨a, vs, h1, h2⟩ := st.frzOwn e1
    exact .inr ⟨a, vs, h1, fun ob => ⟨_, o, h2 ob, ex, q.fx (FX.upd h1) (.refl _ _)⟩⟩
  · exact .inl ⟨env, o, st, ex, q⟩
mutual
theorem snd_St : ∀ s : S, SSt W g G s
  | .asg i m e => st_asg i m e
  | .par is ms es => st_par is ms es
  | .unp is e => st_unp is e
  | .aug i op e => st_aug i op e
  | .app i e => st_app i e
  | .pop i => st_pop i
  | .seti i k e => st_seti i k e
  | .ex e => st_ex e
  | .ife c a b => st_ife c a b (snd_Ss a) (snd_Ss b)
  | .for tg src b => st_for tg src b (snd_Ss b)
  | .while n c b => st_while n c b (snd_Ss b)
  | .ret e => st_ret e
  | .stop => st_stop
  | .rais c x => st_rais c x
  | .rvs i => st_rvs i
  | .mcal f i es => st_mcal f i es
  | .mcalE f e => st_mcalE f e
theorem snd_Ss : ∀ s : Ss, SSs W g G s
  | .nil => ss_nil
  | .cons s ss => ss_cons s ss (snd_St s) (snd_Ss ss)
  | .frz i ss => ss_frz i ss (snd_Ss ss)
end
end
end Mc
namespace Mc
open PySem PySem.Spec PyProof.Rows L2
section
variable {W : Wd}
theorem ArgL.length {H : Hp} : ∀ {as : List Sl} {vs : List V}, ArgL W H as vs → as.length = vs.length
  | _, _, .nil _ => rfl
  | _, _, .cons _ _ t => by simp [t.length]
theorem ArgL.tab {H : Hp} : ∀ {as : List Sl} {vs : List V}, ArgL W H as vs → LamX.Tabs W.T H
  | _, _, .nil h => h
  | _, _, .cons _ _ t => t.tab
theorem ArgL.get {H : Hp} : ∀ {as : List Sl} {vs : List V} {i : Nat} {s : Sl}, ArgL W H as vs → as[i]? = some s → ∃ v, vs[i]? = some v ∧ SlotR W H H s v ∧ ∀ ds, s ≠ .own ds
  | _, _, i, s, .nil _, e => by simp at e
  | _, _, i, s, .cons r n t, e => by
    cases i with
    | zero => simp at e; subst e; exact ⟨_, rfl, r, n⟩
    | succ i => simpa using t.get (i := i) (by simpa using e)
theorem st_start {H : Hp} {N : List Str} {as : List Sl} {vs : List V} (r : ArgL W H as vs) : StR W H H (start N vs) (as.map some ++ List.replicate (N.length - as.length) none) := by
  have hl := r.length
  have hg : ∀ (i : Nat) (s : Sl), (as.map some ++ List.replicate (N.length - as.length) none)[i]? = some (some s) → as[i]? = some s := by
    intro i s e
    by_cases hi : i < as.length
    · rw [List.getElem?_append_left (by simpa using hi), List.getElem?_map] at e
      cases q : as[i]? with
      | none => rw [q] at e; simp at e
      | some u => rw [q] at e; simp at e; rw [e]
    · rw [List.getElem?_append_right (by simpa using hi), List.getElem?_replicate] at e
      split at e <;> simp at e
  refine ⟨.refl _, fun i s e => ?_, fun i j ds es a hij h1 h2 h3 h4 => ?_, by unfold L2.start; simp [hl], r.tab⟩
  · obtain ⟨v, e1, e2, _⟩ := r.get (hg i s e)
    refine ⟨v, ?_, e2⟩
    unfold L2.start
    have hi : i < vs.length := (List.getElem?_eq_some_iff.mp e1).1
    rw [List.getElem?_append_left (by simpa using hi), List.getElem?_map, e1]
    rfl
  · obtain ⟨v, e1, e2, e3⟩ := r.get (hg i _ h1)
    exact e3 ds rfl

/-- what is known of the text's defs and of the names around -/
structure Around_ (W : Wd) (g : Gi) (G : Gm) (P : Program) (w : World) (K : PySem.W.Frag) (mg : Str → Option Value) (base : Heap) (k : Nat) : Prop where
  blt : ∀ x ∈ bnames, mg x = none
  cst : ∀ x i, g.csts.lookup x = some i → ∃ t, mg x = some (.int i t)
  fns : ∀ (f : Nat) (x : Str) (sem : List Sl → Option R), g.fns[f]? = some x → G f = some sem → ∃ (j : Nat) (ad : Addr) (fd : FuncData) (ps : List Str),
    j ≤ k ∧ mg x = some (.ref ad) ∧ PySem.W.keepIn K (.ref ad) = true ∧ Binds K fd ps [] ∧ FnOk P w K mg base CX0 j ad fd ps (spOf W sem)
  cls : ∀ (c : Nat) (x : Str) (fs : List Str), g.cls[c]? = some (x, fs) → mg x = some (.ref (W.cls c)) ∧ W.fld c = fs ∧ ClsK K (W.cls c) fs
  make : ∀ (c : Nat) (x : Str) (fs : List Str), g.cls[c]? = some (x, fs) → fs ≠ [] → ∃ (j : Nat) (ad : Addr) (fd : FuncData) (ps : List Str),
    j + 1 ≤ k ∧ Mk K (W.cls c) ad ∧ Binds K fd ps [] ∧ FnOk P w K mg base CX0 j ad fd ps (spInit (W.cls c) fs)
  meth : ∀ (c : Nat) (m : Str) (f : Nat) (sem : List Sl → Option R), g.meths.lookup (c, m) = some f → G f = some sem → ∃ (j : Nat) (ad : Addr) (fd : FuncData) (ps : List Str),
    j ≤ k ∧ Meth K (W.cls c) m ad ∧ Binds K fd ps [] ∧ FnOk P w K mg base CX0 j ad fd ps (spOf W sem)
  isa : ∀ (c' c : Nat) (b : Bool), g.isa.lookup (c', c) = some b → PySem.W.kitOne K (.ref (W.cls c')) (.ref (W.cls c)) = some b
  fvs : ∀ (f : Nat) (x : Str), g.fvs.lookup f = some x → mg x = some (.ref (W.fn f)) ∧ PySem.W.keepIn K (.ref (W.fn f)) = true
  muts : ∀ (f : Nat) (x : Str) (sem : List Sl → Option R), g.muts.lookup f = some x → G f = some sem → ∃ (j : Nat) (ad : Addr) (fd : FuncData) (ps : List Str),
    j ≤ k ∧ mg x = some (.ref ad) ∧ PySem.W.keepIn K (.ref ad) = true ∧ Binds K fd ps [] ∧ FnOk P w K mg base CX0 j ad fd ps (spM W sem)
  lam : ∀ (f : Nat) (sem : List Sl → Option R), f ∈ g.lams → G f = some sem → ∃ j : Nat, j ≤ k ∧ ∀ q params body scope, W.lam f q params body scope → LamOk P w K mg base CX0 j q params body scope (spOf W sem)
  lamk : ∀ (j : Nat) (q : Str) (params : Arguments) (body : Expr) (scope : Scope), g.lamk j params body scope = true → W.lam j q params body scope ∧ (∀ env, defaultsOf params env = ([], [])) ∧ ∀ y ∈ scope.names, y.2 ≠ .free
/-- what a def that makes lambdas asks of its code object -/
def Mkr (W : Wd) (base : Heap) (mg : Str → Option Value) (qual : Str) (cdv : Value) : Prop := ∃ c P, cdv = .ref c ∧ LamX.TabB base mg c P ∧ (P, (qual ++ ".<locals>.") ++ "<lambda>") ∈ W.T ∧ ∀ p ∈ W.T, p.1 = P → p.2 = (qual ++ ".<locals>.") ++ "<lambda>"
variable {g : Gi} {G : Gm} {P : Program} {w : World} {K : PySem.W.Frag} {mg : Str → Option Value} {base : Heap}
theorem cok_of {N : List Str} {ps : List Str} {qual : Str} {sc : Scope} {f : Addr} {cdv : Value} {A' : Around} {outer : List PySem.Env} {s : Shared} {H : Hp} {E : XK} {CX : CXT} {k : Nat} {ml : Bool} (hK : K = W.K) (S : FnScope N ps sc)
    (hr : Room k (A'.deeper (envOfC qual sc s.heap.objs.size f cdv))) (A : Around_ W g G P w K mg base k) (hm : ml = true → Mkr W base mg qual cdv) :
    Cok W g G ⟨N, sc, sc, ml⟩ (cxOf CX P w K mg base N qual sc f cdv A' outer s H E).nox :=
  { K := hK, N := rfl, nd := S.nd, sc := rfl, rw := fun _ _ h _ => h, fn := fun _ _ => rfl, calm := rfl, xe := rfl,
    un := by
      have := hr.un
      show (A'.deeper _).units + 65 < cLine
      omega
    blt := A.blt, cst := A.cst,
    fns := fun f x sem h1 h2 => by
      obtain ⟨j, ad, fd, ps, hj, h3, h4, h5, h6⟩ := A.fns f x sem h1 h2
      exact ⟨j, ad, fd, ps, hr.mono hj, h3, h4, h5, h6⟩
    cls := A.cls
    make := fun c x fs h1 h2 => by
      obtain ⟨j, ad, fd, ps, hj, h3⟩ := A.make c x fs h1 h2
      exact ⟨j, ad, fd, ps, hr.mono hj, h3⟩
    meth := fun c m f sem h1 h2 => by
      obtain ⟨j, ad, fd, ps, hj, h3⟩ := A.meth c m f sem h1 h2
      exact ⟨j, ad, fd, ps, hr.mono hj, h3⟩
    isa := A.isa
    fvs := A.fvs
    muts := fun f x sem h1 h2 => by
      obtain ⟨j, ad, fd, ps, hj, h3, h4, h5, h6⟩ := A.muts f x sem h1 h2
      exact ⟨j, ad, fd, ps, hr.mono hj, h3, h4, h5, h6⟩
    lam := fun f sem h1 h2 => by
      obtain ⟨j, hj, h3⟩ := A.lam f sem h1 h2
      exact ⟨j, hr.mono hj, h3⟩
    lamk := A.lamk
    mkr := hm }
/-- a def whose text matches keeps the promise that the small language tells -/
theorem fn_mc {x qual : Str} {st : Stmt} {f : Addr} {fd : FuncData} {N ps : List Str} {k : Nat} {body : Ss} (hK : K = W.K) (F : Fun K x qual st f fd) (S : FnScope N ps (defScope st))
    (hok : okSs g ⟨N, defScope st, defScope st, false⟩ body (defBody st) = true) (A : Around_ W g G P w K mg base k) : FnOk P w K mg base CX0 (k + 1) f fd ps (spOf W (run G ps.length N.length body)) := by
  refine F.ok S (fun vs H Q E h => ?_) (fun cdv A' outer s H vs Q E hr h => ?_)
  · obtain ⟨as, r, ra, e, _⟩ := h
    unfold run at e
    split at e <;> try (cases e; done)
    rename_i hl
    rw [← ra.length]; exact hl
  · obtain ⟨as, r, ra, e, hp, q⟩ := h
    unfold run at e
    split at e <;> try (cases e; done)
    have cok := cok_of (CX := CX0) (outer := outer) (s := s) (H := H) (E := E) (ml := false) hK S hr A (fun z => by cases z)
    refine ⟨_, snd_Ss body H ⟨N, defScope st, defScope st, false⟩ _ (defBody st) hok S.kind cok, ?_⟩
    split at e <;> try (cases e; done)
    · rename_i r' e1
      cases e
      exact ⟨_, .ret r, st_start ra, e1, fun v H' s hp rr => q v H' s rr⟩
    · rename_i env' e1
      cases e
      exact ⟨_, .next env', st_start ra, e1, fun σ' H' _ st' _ => q .non H' st'.same (rep_non : Rep W H' .non .non)⟩
/-- .. one that makes lambdas -/
theorem fn_mcT {x qual : Str} {st : Stmt} {f : Addr} {N ps : List Str} {k : Nat} {body : Ss} {oc kV dc pm cd ct : Value} {od an : Option Addr} {sl : Array (Option Value)} (hK : K = W.K)
    (lk : K.lookup f = some ⟨oc, od, .func (PySem.W.fnOf x qual (defArgs st) (defBody st) (defScope st) .none kV dc pm an cd ct), sl⟩) (hcd : PySem.W.codeIn K cd qual = true) (S : FnScope N ps (defScope st))
    (hok : okSs g ⟨N, defScope st, defScope st, true⟩ body (defBody st) = true) (A : Around_ W g G P w K mg base k) (hm : Mkr W base mg qual cd) :
    FnOk P w K mg base CX0 (k + 1) f (PySem.W.fnOf x qual (defArgs st) (defBody st) (defScope st) .none kV dc pm an cd ct) ps (spOf W (run G ps.length N.length body)) := by
  refine fn_of lk hcd S (fun vs H Q E h => ?_) (fun A' outer s H vs Q E hr h => ?_)
  · obtain ⟨as, r, ra, e, _⟩ := h
    unfold run at e
    split at e <;> try (cases e; done)
    rename_i hl
    rw [← ra.length]; exact hl
  · obtain ⟨as, r, ra, e, hp, q⟩ := h
    unfold run at e
    split at e <;> try (cases e; done)
    have cok := cok_of (CX := CX0) (outer := outer) (s := s) (H := H) (E := E) (ml := true) (f := f) hK S hr A (fun _ => hm)
    refine ⟨_, PSs.nox (snd_Ss body H ⟨N, defScope st, defScope st, true⟩ _ (defBody st) hok S.kind cok), ?_⟩
    split at e <;> try (cases e; done)
    · rename_i r' e1
      cases e
      exact ⟨_, .ret r, st_start ra, e1, fun v H' s hp rr => q v H' s rr⟩
    · rename_i env' e1
      cases e
      exact ⟨_, .next env', st_start ra, e1, fun σ' H' _ st' _ => q .non H' st'.same (rep_non : Rep W H' .non .non)⟩
/-- the call of a lambda that holds nothing -/
theorem lam_of {CX : CXT} {N ps : List Str} {k : Nat} {q : Str} {params : Arguments} {body : Expr} {scope : Scope} {sp : Sp} (S : FnScope N ps scope)
    (hb : ∀ (us : List Value) (pm cv ctv : Value), us.length = ps.length → bindArgs (PySem.W.kla_fn "<lambda>" q params body scope [] pm cv ctv) ⟨us, []⟩ = pure (ps.zip us)) (len : ∀ vs H Q E, sp vs H Q E → vs.length = ps.length)
    (hbody : ∀ (a c : Addr) (A : Around) (outer : List PySem.Env) (s : Shared) (H : Hp) (vs : List V) (Q : VK) (E : XK), Room k (A.deeper (envOfC q scope s.heap.objs.size a (.ref c))) → sp vs H Q E →
      ∃ t, PE (cxOf CX P w K mg base N q scope a (.ref c) A outer s H E) body t ∧ t (start N vs) H Q) : LamOk P w K mg base CX (k + 1) q params body scope sp := by
  refine ⟨fun A outer s H a c us vs Q E hr e0 ha hc r h => ?_⟩
  have hl := len _ _ _ _ h
  obtain ⟨⟨pm, ctv, eo⟩, _, _⟩ := e0.hok a _ ha
  obtain ⟨⟨oc, vsc, t, hoc, hd, hv⟩, _, _⟩ := e0.hok c _ hc
  have lim : s.heap.NoLimit := e0.mod.nolimit.keeps fun b o e => (e0.bs b o e).1
  have hkind : ∀ y ∈ ps.zip us, scope.names.lookup y.1 = some .local ∨ (scope.names.lookup y.1 = some .cell ∧ ((cellsFrom (s.heap.objs.size + 1) scope.names []).lookup y.1).isSome = true) := fun ⟨n, v⟩ hy => by
    rcases S.par n (List.of_mem_zip hy).1 with q | q
    · exact .inl q
    · exact .inr ⟨q, PySem.W.cellsFrom_some _ _ _ (.inl q)⟩
  refine PySem.W.kla_callFunE hr.depth eo rfl S.co S.gen rfl ⟨c, oc, vsc, t, rfl, hoc, hd, hv⟩ ?_
  rw [show bindArgs _ _ = _ from hb us pm (.ref c) ctv (by rw [← r.length]; exact hl)]
  refine wpAny_pure (wpAny_newFunctionEnv_cells S.kind hkind fun env he s1 x => ?_)
  subst he
  refine ⟨lim.keeps x.toInCall.keep, PySem.W.kla_codeExpr ?_⟩
  obtain ⟨t, ht, hq⟩ := hbody a c A outer s H vs Q E (hr.deeper _) h
  have I : Inv (cxOf CX P w K mg base N q scope a (.ref c) A outer s H E) [] (start N vs) H s1 := inv_start S hr.hd e0 hl r x
  refine wpAny_mono (ht.run [] s1 (start N vs) H _ I hq) (fun v s' hs => ?_) fun e s' hs => hs
  obtain ⟨w', H', J', rv, q⟩ := hs
  exact ⟨w', H', J'.os, J'.bare, J'.base, J'.hok, rv, q⟩
theorem run_ret1 {G : Gm} {ar n : Nat} {e : E} {as : List Sl} {r : R} (h : run G ar n (.cons (.ret e) .nil) as = some r) : as.length = ar ∧ ∃ r0, ev G e (as.map some ++ List.replicate (n - as.length) none) = some r0 ∧ ∀ (W : Wd) (Hin H' : Hp) (v : V), RelR W Hin Hin H' v r0 → RelR W Hin Hin H' v r := by
  unfold run at h
  split at h <;> try (cases h; done)
  rename_i hl
  refine ⟨hl, ?_⟩
  simp only [execs, exec] at h
  cases he : ev G e (as.map some ++ List.replicate (n - as.length) none) with
  | none => rw [he] at h; cases h
  | some r0 =>
    rw [he] at h
    cases r0 with
    | val d => cases h; exact ⟨_, rfl, fun _ _ _ _ z => z⟩
    | fresh d => cases h; exact ⟨_, rfl, fun _ _ _ _ z => z⟩
    | vown d => cases h; exact ⟨_, rfl, fun _ _ _ _ z => z⟩
    | vpar d => cases h
/-- a lambda whose text matches -/
theorem lam_mc {N ps : List Str} {k : Nat} {e : E} {q : Str} {params : Arguments} {body : Expr} {scope : Scope} (hK : K = W.K) (S : FnScope N ps scope)
    (hb : ∀ (us : List Value) (pm cv ctv : Value), us.length = ps.length → bindArgs (PySem.W.kla_fn "<lambda>" q params body scope [] pm cv ctv) ⟨us, []⟩ = pure (ps.zip us))
    (hok : okE g ⟨N, scope, scope, false⟩ e body = true) (A : Around_ W g G P w K mg base k) : LamOk P w K mg base CX0 (k + 1) q params body scope (spOf W (run G ps.length N.length (.cons (.ret e) .nil))) := by
  refine lam_of S hb (fun vs H Q E h => ?_) (fun a c A' outer s H vs Q E hr h => ?_)
  · obtain ⟨as, r, ra, e, _⟩ := h
    rw [← ra.length]; exact (run_ret1 e).1
  · obtain ⟨as, r, ra, e1, hp, qq⟩ := h
    obtain ⟨_, r0, e2, hr0⟩ := run_ret1 e1
    have cok := cok_of (CX := CX0) (outer := outer) (s := s) (H := H) (E := E) (ml := false) (f := a) (cdv := .ref c) (qual := q) hK S hr A (fun z => by cases z)
    exact ⟨_, PE.nox (snd_E e H ⟨N, scope, scope, false⟩ _ body hok cok).1, _, r0, st_start ra, e2, fun v H' s rr => qq v H' s (hr0 _ _ _ _ rr)⟩
theorem Around_.mono {j k : Nat} (A : Around_ W g G P w K mg base j) (h : j ≤ k) : Around_ W g G P w K mg base k :=
  ⟨A.blt, A.cst, fun f x sem h1 h2 => let ⟨i, ad, fd, ps, a, b⟩ := A.fns f x sem h1 h2; ⟨i, ad, fd, ps, Nat.le_trans a h, b⟩, A.cls,
    fun c x fs h1 h2 => let ⟨i, ad, fd, ps, a, b⟩ := A.make c x fs h1 h2; ⟨i, ad, fd, ps, Nat.le_trans a h, b⟩,
    fun c m f sem h1 h2 => let ⟨i, ad, fd, ps, a, b⟩ := A.meth c m f sem h1 h2; ⟨i, ad, fd, ps, Nat.le_trans a h, b⟩, A.isa, A.fvs, fun f x sem h1 h2 => let ⟨i, ad, fd, ps, a, b⟩ := A.muts f x sem h1 h2; ⟨i, ad, fd, ps, Nat.le_trans a h, b⟩, fun f sem h1 h2 => let ⟨i, a, b⟩ := A.lam f sem h1 h2; ⟨i, Nat.le_trans a h, b⟩, A.lamk⟩
/-- the law's own promise at its script -/
theorem sp_script {H : Hp} {a : Addr} {ns : List Int} {sem : List Sl → Option R} {E : XK} (hT : LamX.Tabs W.T H) (hF : ∀ xs, H a ≠ some (.lst xs)) (hS : SqL W.K H a (ns.map V.int)) (e : sem [.fz (.lst (ns.map D.int))] = some (.val (.bl true))) :
    spOf W sem [.ref a] H (fun v _ => v = .bl true) E := by
  have rl : ∀ ns : List Int, RepL W H (ns.map D.int) (ns.map V.int) := by
    intro ns
    induction ns with
    | nil => exact .nil
    | cons n r ih => exact .cons rep_int ih
  have sf : SqF W.K H a (ns.map V.int) := by
    rcases hS with (h | ⟨o, h⟩) | h
    · exact absurd h (hF _)
    · exact .inl ⟨o, h⟩
    · exact .inr h
  refine ⟨_, _, .cons (s := .fz (.lst (ns.map D.int))) ?_ (fun _ z => by cases z) (.nil hT), e, rfl, fun v H' s r => rel_blE r⟩
  show Rep W H _ _
  simp only [Rep]
  exact ⟨a, _, rfl, sf, rl ns⟩
end
/-- the table of the defs' meanings, made def by def -/
def Gm.nil : Gm := fun _ => none
def Gm.add (G : Gm) (n : Nat) (sem : List Sl → Option R) : Gm := fun i => if i = n then some sem else G i
section
variable {W : Wd} {g : Gi} {G : Gm} {P : Program} {w : World} {K : PySem.W.Frag} {mg : Str → Option Value} {base : Heap}
theorem addL_old {k n : Nat} {sem : List Sl → Option R} (A : Around_ W g G P w K mg base k) (hlm : g.lams.all (fun q => q != n) = true) : ∀ (f : Nat) (s : List Sl → Option R), f ∈ g.lams → G.add n sem f = some s → ∃ j : Nat, j ≤ k + 1 ∧ ∀ q params body scope, W.lam f q params body scope → LamOk P w K mg base CX0 j q params body scope (spOf W s) := fun f s h1 h2 => by
  have hne : f ≠ n := by
    have := List.all_eq_true.mp hlm _ h1
    simpa using this
  unfold Gm.add at h2
  rw [if_neg hne] at h2
  obtain ⟨i, a, b⟩ := A.lam f s h1 h2
  exact ⟨i, Nat.le_trans a (Nat.le_succ k), b⟩
theorem addU_old {k n : Nat} {sem : List Sl → Option R} (A : Around_ W g G P w K mg base k) (hmu : g.muts.all (fun q => q.1 != n) = true) : ∀ (f : Nat) (x : Str) (s : List Sl → Option R), g.muts.lookup f = some x → G.add n sem f = some s → ∃ (j : Nat) (ad : Addr) (fd : FuncData) (ps : List Str),
    j ≤ k + 1 ∧ mg x = some (.ref ad) ∧ PySem.W.keepIn K (.ref ad) = true ∧ Binds K fd ps [] ∧ FnOk P w K mg base CX0 j ad fd ps (spM W s) := fun f x s h1 h2 => by
  have hne : f ≠ n := by
    have := List.all_eq_true.mp hmu _ (mem_lk h1)
    simpa using this
  unfold Gm.add at h2
  rw [if_neg hne] at h2
  obtain ⟨i, ad, fd, ps, a, b⟩ := A.muts f x s h1 h2
  exact ⟨i, ad, fd, ps, Nat.le_trans a (Nat.le_succ k), b⟩
/-- a lambda -/
theorem Around_.addL {k j n : Nat} {sem : List Sl → Option R} (A : Around_ W g G P w K mg base k) (hn : g.meths.all (fun q => q.2 != n) = true) (hf : g.fns.length ≤ n) (hj : j ≤ k + 1)
    (h6 : ∀ q params body scope, W.lam n q params body scope → LamOk P w K mg base CX0 j q params body scope (spOf W sem)) (hmu : g.muts.all (fun q => q.1 != n) = true := by rfl) : Around_ W g (G.add n sem) P w K mg base (k + 1) := by
  refine ⟨A.blt, A.cst, fun f y s h1 h2 => ?_, A.cls, fun c x fs h1 h2 => let ⟨i, ad, fd, ps, a, b⟩ := A.make c x fs h1 h2; ⟨i, ad, fd, ps, Nat.le_trans a (Nat.le_succ k), b⟩, fun c m f s h1 h2 => ?_, A.isa, A.fvs, addU_old A hmu, fun f s h1 h2 => ?_, A.lamk⟩
  · have hne : f ≠ n := fun z => by
      have := (List.getElem?_eq_some_iff.mp h1).1
      omega
    unfold Gm.add at h2
    rw [if_neg hne] at h2
    obtain ⟨i, ad, fd, ps, a, b⟩ := A.fns f y s h1 h2
    exact ⟨i, ad, fd, ps, Nat.le_trans a (Nat.le_succ k), b⟩
  · have hne : f ≠ n := by
      have := List.all_eq_true.mp hn _ (mem_lk h1)
      simpa using this
    unfold Gm.add at h2
    rw [if_neg hne] at h2
    obtain ⟨i, ad, fd, ps, a, b⟩ := A.meth c m f s h1 h2
    exact ⟨i, ad, fd, ps, Nat.le_trans a (Nat.le_succ k), b⟩
  · unfold Gm.add at h2
    split at h2
    · rename_i e
      subst e
      cases h2
      exact ⟨j, hj, h6⟩
    · obtain ⟨i, a, b⟩ := A.lam f s h1 h2
      exact ⟨i, Nat.le_trans a (Nat.le_succ k), b⟩
theorem Around_.add {k j n : Nat} {x : Str} {sem : List Sl → Option R} {ad : Addr} {fd : FuncData} {ps : List Str} (A : Around_ W g G P w K mg base k) (hn : g.fns[n]? = some x) (hj : j ≤ k + 1) (h3 : mg x = some (.ref ad)) (h4 : PySem.W.keepIn K (.ref ad) = true) (h5 : Binds K fd ps [])
    (h6 : FnOk P w K mg base CX0 j ad fd ps (spOf W sem)) (hm : g.meths.all (fun q => q.2 != n) = true := by rfl) (hlm : g.lams.all (fun q => q != n) = true := by rfl) (hmu : g.muts.all (fun q => q.1 != n) = true := by rfl) : Around_ W g (G.add n sem) P w K mg base (k + 1) := by
  refine ⟨A.blt, A.cst, fun f y s h1 h2 => ?_, A.cls, fun c x fs h1 h2 => let ⟨i, ad, fd, ps, a, b⟩ := A.make c x fs h1 h2; ⟨i, ad, fd, ps, Nat.le_trans a (Nat.le_succ k), b⟩, fun c m f s h1 h2 => ?_, A.isa, A.fvs, addU_old A hmu, addL_old A hlm, A.lamk⟩
  rotate_left
  · have hne : f ≠ n := by
      have := List.all_eq_true.mp hm _ (mem_lk h1)
      simpa using this
    unfold Gm.add at h2
    rw [if_neg hne] at h2
    obtain ⟨i, ad, fd, ps, a, b⟩ := A.meth c m f s h1 h2
    exact ⟨i, ad, fd, ps, Nat.le_trans a (Nat.le_succ k), b⟩
  unfold Gm.add at h2
  split at h2
  · rename_i e
    subst e
    cases h2
    rw [hn] at h1
    cases h1
    exact ⟨j, ad, fd, ps, hj, h3, h4, h5, h6⟩
  · obtain ⟨i, ad, fd, ps, a, b⟩ := A.fns f y s h1 h2
    exact ⟨i, ad, fd, ps, Nat.le_trans a (Nat.le_succ k), b⟩
/-- a method of a class -/
theorem Around_.addM {k j n c : Nat} {m : Str} {sem : List Sl → Option R} {ad : Addr} {fd : FuncData} {ps : List Str} (A : Around_ W g G P w K mg base k) (hn : g.meths.all (fun q => (q.2 == n) == (q.1 == (c, m))) = true) (hf : g.fns.length ≤ n) (hj : j ≤ k + 1) (h3 : Meth K (W.cls c) m ad) (h5 : Binds K fd ps [])
    (h6 : FnOk P w K mg base CX0 j ad fd ps (spOf W sem)) (hlm : g.lams.all (fun q => q != n) = true := by rfl) (hmu : g.muts.all (fun q => q.1 != n) = true := by rfl) : Around_ W g (G.add n sem) P w K mg base (k + 1) := by
  refine ⟨A.blt, A.cst, fun f y s h1 h2 => ?_, A.cls, fun c x fs h1 h2 => let ⟨i, ad, fd, ps, a, b⟩ := A.make c x fs h1 h2; ⟨i, ad, fd, ps, Nat.le_trans a (Nat.le_succ k), b⟩, fun c' m' f s h1 h2 => ?_, A.isa, A.fvs, addU_old A hmu, addL_old A hlm, A.lamk⟩
  · have hne : f ≠ n := fun z => by
      have := (List.getElem?_eq_some_iff.mp h1).1
      omega
    unfold Gm.add at h2
    rw [if_neg hne] at h2
    obtain ⟨i, ad, fd, ps, a, b⟩ := A.fns f y s h1 h2
    exact ⟨i, ad, fd, ps, Nat.le_trans a (Nat.le_succ k), b⟩
  · have hq := List.all_eq_true.mp hn _ (mem_lk h1)
    unfold Gm.add at h2
    split at h2
    · rename_i e
      subst e
      cases h2
      have e2 : (c', m') = (c, m) := by simpa using hq
      cases e2
      exact ⟨j, ad, fd, ps, hj, h3, h5, h6⟩
    · obtain ⟨i, ad, fd, ps, a, b⟩ := A.meth c' m' f s h1 h2
      exact ⟨i, ad, fd, ps, Nat.le_trans a (Nat.le_succ k), b⟩
def ownAt (env : Mc.Env) (i : Nat) : Option (List D) := match env[i]? with
  | some (some (Sl.own ds)) => some ds
  | _ => none
theorem ownAt_some {env : Mc.Env} {i : Nat} {ds : List D} (h : ownAt env i = some ds) : env[i]? = some (some (.own ds)) := by
  unfold ownAt at h
  split at h <;> try (cases h; done)
  rename_i e
  cases h; exact e
/-- a def that changes the list that it is handed first -/
def runM (G : Gm) (ar n : Nat) (body : Ss) : List Sl → Option R
  | .vw ds :: as => if as.length + 1 = ar then (match execs G body (some (Sl.own ds) :: (as.map some ++ List.replicate (n - ar) none)) with
    | some (.next env') => (ownAt env' 0).map R.fresh
    | _ => none) else none
  | _ => none
theorem fn_mcM {x qual : Str} {st : Stmt} {f : Addr} {fd : FuncData} {N ps : List Str} {k : Nat} {body : Ss} (hK : K = W.K) (F : Fun K x qual st f fd) (S : FnScope N ps (defScope st))
    (hok : okSs g ⟨N, defScope st, defScope st, false⟩ body (defBody st) = true) (h0 : 0 ∉ body.mods) (hN : ps.length ≤ N.length) (A : Around_ W g G P w K mg base k) : FnOk P w K mg base CX0 (k + 1) f fd ps (spM W (runM G ps.length N.length body)) := by
  refine F.ok S (fun vs H Q E h => ?_) (fun cdv A' outer s H vs Q E hr h => ?_)
  · obtain ⟨a, xs, ds, as, ds', rest, rfl, ha, rd, ra, hfz, e, q⟩ := h
    simp only [runM] at e
    split at e <;> try (cases e; done)
    rename_i hl
    rw [List.length_cons, ← ra.length]; exact hl
  · obtain ⟨a, xs, ds, as, ds', rest, rfl, ha, rd, ra, hfz, e, q⟩ := h
    have cok := cok_of (CX := CX0) (outer := outer) (s := s) (H := H) (E := E) (ml := false) hK S hr A (fun z => by cases z)
    simp only [runM] at e
    split at e <;> try (cases e; done)
    rename_i hl
    split at e <;> try (cases e; done)
    rename_i env' e1
    obtain ⟨ds1, e2, e6⟩ := Option.map_eq_some_iff.mp e
    cases e6
    have e2 := ownAt_some e2
    have hlr := ra.length
    have hs0 : (L2.start N (.ref a :: rest))[0]? = some (some (.ref a)) := by unfold L2.start; simp
    have hg : ∀ (i : Nat) (t : Sl), (as.map some ++ List.replicate (N.length - ps.length) none)[i]? = some (some t) → as[i]? = some t := by
      intro i t e
      by_cases hi : i < as.length
      · rw [List.getElem?_append_left (by simpa using hi), List.getElem?_map] at e
        cases q : as[i]? with
        | none => rw [q] at e; simp at e
        | some u => rw [q] at e; simp at e; rw [e]
      · rw [List.getElem?_append_right (by simpa using hi), List.getElem?_replicate] at e
        split at e <;> simp at e
    have st0 : StR W (hide a H) H (L2.start N (.ref a :: rest)) (some (.own ds) :: (as.map some ++ List.replicate (N.length - ps.length) none)) := by
      refine ⟨⟨fun b o e _ => ?_, fun b ps e => ⟨ps, ?_⟩, fun _ => ra.tab⟩, fun i t e => ?_, fun i j d1 d2 b hij h1 h2 h3 h4 => ?_, ?_, ra.tab⟩
      · by_cases hb : b = a
        · subst hb; rw [hide_same] at e; cases e
        · rw [hide_ne hb] at e; exact e
      · by_cases hb : b = a
        · subst hb; rw [hide_same] at e; cases e
        · rw [hide_ne hb] at e; exact e
      · cases i with
        | zero =>
          simp only [List.getElem?_cons_zero, Option.some.injEq] at e
          subst e
          exact ⟨_, hs0, a, xs, rfl, hide_same, ha, rd⟩
        | succ i =>
          rw [List.getElem?_cons_succ] at e
          obtain ⟨v, e3, e4, _⟩ := ra.get (hg i t e)
          have hi : i < rest.length := (List.getElem?_eq_some_iff.mp e3).1
          refine ⟨v, ?_, ?_⟩
          · unfold L2.start
            rw [List.getElem?_append_left (by simp; omega), List.getElem?_map, List.getElem?_cons_succ, e3]
            rfl
          · have hf := List.all_eq_true.mp hfz t (List.mem_of_getElem? (hg i t e))
            cases t with
            | fz d => exact e4
            | own _ => cases hf
            | vw _ => cases hf
      · have no : ∀ (m : Nat) (d : List D), (some (Sl.own ds) :: (as.map some ++ List.replicate (N.length - ps.length) none))[m]? = some (some (.own d)) → m = 0 := fun m d e => by
          cases m with
          | zero => rfl
          | succ m =>
            rw [List.getElem?_cons_succ] at e
            obtain ⟨v, _, _, e5⟩ := ra.get (hg m _ e)
            exact absurd rfl (e5 d)
        exact hij ((no i _ h1).trans (no j _ h2).symm)
      · unfold L2.start
        simp
        omega
    refine ⟨_, snd_Ss body (hide a H) ⟨N, defScope st, defScope st, false⟩ _ (defBody st) hok S.kind cok, _, .next env', st0, e1, fun σ' H' _ st' bt => ?_⟩
    obtain ⟨v, e3, a', vs', rfl, n', h', r'⟩ := st'.rel 0 _ e2
    have e5 := bt.2 0 h0
    rw [hs0, e3] at e5
    simp only [Option.some.injEq, V.ref.injEq] at e5
    subst e5
    exact q H' vs' st'.same h' r'
/-- .. in the table -/
theorem Around_.addU {k j n : Nat} {x : Str} {sem : List Sl → Option R} {ad : Addr} {fd : FuncData} {ps : List Str} (A : Around_ W g G P w K mg base k) (hn : g.muts.lookup n = some x) (hf : g.fns.length ≤ n) (hj : j ≤ k + 1) (h3 : mg x = some (.ref ad)) (h4 : PySem.W.keepIn K (.ref ad) = true) (h5 : Binds K fd ps [])
    (h6 : FnOk P w K mg base CX0 j ad fd ps (spM W sem)) (hm : g.meths.all (fun q => q.2 != n) = true := by rfl) (hlm : g.lams.all (fun q => q != n) = true := by rfl) : Around_ W g (G.add n sem) P w K mg base (k + 1) := by
  refine ⟨A.blt, A.cst, fun f y s h1 h2 => ?_, A.cls, fun c x fs h1 h2 => let ⟨i, ad, fd, ps, a, b⟩ := A.make c x fs h1 h2; ⟨i, ad, fd, ps, Nat.le_trans a (Nat.le_succ k), b⟩, fun c m f s h1 h2 => ?_, A.isa, A.fvs, fun f y s h1 h2 => ?_, addL_old A hlm, A.lamk⟩
  · have hne : f ≠ n := fun z => by
      have := (List.getElem?_eq_some_iff.mp h1).1
      omega
    unfold Gm.add at h2
    rw [if_neg hne] at h2
    obtain ⟨i, ad, fd, ps, a, b⟩ := A.fns f y s h1 h2
    exact ⟨i, ad, fd, ps, Nat.le_trans a (Nat.le_succ k), b⟩
  · have hne : f ≠ n := by
      have := List.all_eq_true.mp hm _ (mem_lk h1)
      simpa using this
    unfold Gm.add at h2
    rw [if_neg hne] at h2
    obtain ⟨i, ad, fd, ps, a, b⟩ := A.meth c m f s h1 h2
    exact ⟨i, ad, fd, ps, Nat.le_trans a (Nat.le_succ k), b⟩
  · unfold Gm.add at h2
    split at h2
    · rename_i e
      subst e
      cases h2
      rw [hn] at h1
      cases h1
      exact ⟨j, ad, fd, ps, hj, h3, h4, h5, h6⟩
    · obtain ⟨i, ad, fd, ps, a, b⟩ := A.muts f y s h1 h2
      exact ⟨i, ad, fd, ps, Nat.le_trans a (Nat.le_succ k), b⟩
end
end Mc
namespace Mc
open PySem PySem.Spec PyProof.Rows L2
section
variable (G : Gm) (env : Env)
@[simp] theorem ev_slot (i : Nat) : ev G (.slot i) env = match env[i]? with
    | some (some (.fz d)) => some (.val d)
    | some (some (.own ds)) => some (.vown ds)
    | some (some (.vw ds)) => some (.vpar ds)
    | _ => none := by first | (rw [ev]; done) | (rw [ev]; rfl)
@[simp] theorem ev_int (i : Int) : ev G (.int i) env = some (.val (.int i)) := by first | (rw [ev]; done) | (rw [ev]; rfl)
@[simp] theorem ev_str (i) : ev G (.str i) env = some (.val (.str i)) := by first | (rw [ev]; done) | (rw [ev]; rfl)
@[simp] theorem ev_bl (i) : ev G (.bl i) env = some (.val (.bl i)) := by first | (rw [ev]; done) | (rw [ev]; rfl)
@[simp] theorem ev_non : ev G .non env = some (.val .non) := by first | (rw [ev]; done) | (rw [ev]; rfl)
@[simp] theorem ev_gint (x i) : ev G (.gint x i) env = some (.val (.int i)) := by first | (rw [ev]; done) | (rw [ev]; rfl)
@[simp] theorem ev_bin (op a b) : ev G (.bin op a b) env = match ev G a env with
    | some x => match ev G b env with
      | some y => binD op x.data y.data
      | none => none
    | none => none := by first | (rw [ev]; done) | (rw [ev]; rfl)
@[simp] theorem ev_neg (a) : ev G (.neg a) env = match ev G a env with
    | some (.val (.int i)) => some (.val (.int (-i)))
    | _ => none := by first | (rw [ev]; done) | (rw [ev]; rfl)
@[simp] theorem ev_cmp (op a b) : ev G (.cmp op a b) env = match ev G a env with
    | some x => match ev G b env with
      | some y => (cmpD op x.data y.data).map fun k => .val (.bl k)
      | none => none
    | none => none := by first | (rw [ev]; done) | (rw [ev]; rfl)
@[simp] theorem ev_chain (o1 o2 a b c) : ev G (.chain o1 o2 a b c) env = match ev G a env with
    | some x => match ev G b env with
      | some y => match cmpD o1 x.data y.data with
        | some false => some (.val (.bl false))
        | some true => match ev G c env with
          | some z => (cmpD o2 y.data z.data).map fun k => .val (.bl k)
          | none => none
        | none => none
      | none => none
    | none => none := by first | (rw [ev]; done) | (rw [ev]; rfl)
@[simp] theorem ev_and (es) : ev G (.and es) env = evAnd G es env := by first | (rw [ev]; done) | (rw [ev]; rfl)
@[simp] theorem ev_or (es) : ev G (.or es) env = evOr G es env := by first | (rw [ev]; done) | (rw [ev]; rfl)
@[simp] theorem ev_not (a) : ev G (.not a) env = match ev G a env with
    | some (.val (.bl b)) => some (.val (.bl (!b)))
    | _ => none := by first | (rw [ev]; done) | (rw [ev]; rfl)
@[simp] theorem ev_ite (c a b) : ev G (.ite c a b) env = match ev G c env with
    | some (.val (.bl true)) => ev G a env
    | some (.val (.bl false)) => ev G b env
    | _ => none := by first | (rw [ev]; done) | (rw [ev]; rfl)
@[simp] theorem ev_lst (es) : ev G (.lst es) env = match evV G es env with
    | some ds => if ds.length ≤ LINE then some (.fresh ds) else none
    | none => none := by first | (rw [ev]; done) | (rw [ev]; rfl)
@[simp] theorem ev_tup (es) : ev G (.tup es) env = match evV G es env with
    | some ds => if ds.length ≤ LINE then some (.val (.tup ds)) else none
    | none => none := by first | (rw [ev]; done) | (rw [ev]; rfl)
@[simp] theorem ev_sub (a i) : ev G (.sub a i) env = match ev G a env with
    | some x => match ev G i env with
      | some y => (subD x.data y.data).map .val
      | none => none
    | none => none := by first | (rw [ev]; done) | (rw [ev]; rfl)
@[simp] theorem ev_slice (a lo hi) : ev G (.slice a lo hi) env = match ev G a env with
    | some x => match evO G lo env with
      | some l => match evO G hi env with
        | some h => match x.data with
          | .lst ds => some (.fresh (cutL ds l h))
          | _ => none
        | none => none
      | none => none
    | none => none := by first | (rw [ev]; done) | (rw [ev]; rfl)
@[simp] theorem ev_call (f es) : ev G (.call f es) env = match evA G es env with
    | some as => match G f with
      | some sem => (match sem as with
        | some r => if r.plain then some r else none
        | none => none)
      | none => none
    | none => none := by first | (rw [ev]; done) | (rw [ev]; rfl)
@[simp] theorem ev_bi (b es) : ev G (.bi b es) env = match evD G es env with
    | some as => biD b as
    | none => none := by first | (rw [ev]; done) | (rw [ev]; rfl)
@[simp] theorem ev_meth (m a es) : ev G (.meth m a es) env = match ev G a env with
    | some x => match evD G es env with
      | some as => mtD m x.data as
      | none => none
    | none => none := by first | (rw [ev]; done) | (rw [ev]; rfl)
@[simp] theorem ev_isi (a t) : ev G (.isi a t) env = match ev G a env with
    | some x => (isiD t x.data).map fun k => .val (.bl k)
    | none => none := by first | (rw [ev]; done) | (rw [ev]; rfl)
@[simp] theorem Rd1 (d) : (R.val d).data = d := rfl
@[simp] theorem Rd2 (d) : (R.fresh d).data = .lst d := rfl
@[simp] theorem Rd3 (d) : (R.vown d).data = .lst d := rfl
@[simp] theorem Rd4 (d) : (R.vpar d).data = .lst d := rfl
@[simp] theorem Rf1 (d) : (R.val d).fz = some d := rfl
@[simp] theorem Rf2 (d) : (R.fresh d).fz = some (.lst d) := rfl
@[simp] theorem Rp1 (d) : (R.val d).plain = true := rfl
@[simp] theorem Rp2 (d) : (R.fresh d).plain = true := rfl
@[simp] theorem Ra1 (d) : (R.val d).arg = .fz d := rfl
@[simp] theorem Ra2 (d) : (R.fresh d).arg = .fz (.lst d) := rfl
@[simp] theorem Ra3 (d) : (R.vown d).arg = .vw d := rfl
@[simp] theorem Ra4 (d) : (R.vpar d).arg = .vw d := rfl
@[simp] theorem Rs1 (m d) : (R.val d).asSl m = some (.fz d) := rfl
@[simp] theorem Rs2 (d) : (R.fresh d).asSl true = some (.own d) := rfl
@[simp] theorem Rs3 (d) : (R.fresh d).asSl false = some (.fz (.lst d)) := rfl
@[simp] theorem put1 (i m d env) : put i m (.val d) env = some (setE env i (.fz d)) := rfl
@[simp] theorem put2 (i d env) : put i true (.fresh d) env = some (setE env i (.own d)) := rfl
@[simp] theorem put3 (i d env) : put i false (.fresh d) env = some (setE env i (.fz (.lst d))) := rfl
@[simp] theorem setE1 (env : Env) (i s) : setE env i s = env.set i (some s) := rfl
@[simp] theorem evV0 : evV G .nil env = some [] := by first | (rw [evV]; done) | (rw [evV]; rfl)
@[simp] theorem evV1 (e es) : evV G (.cons e es) env = match (ev G e env).bind R.fz with
    | some d => match evV G es env with
      | some ds => some (d :: ds)
      | none => none
    | none => none := by first | (rw [evV]; done) | (rw [evV]; rfl)
@[simp] theorem evD0 : evD G .nil env = some [] := by first | (rw [evD]; done) | (rw [evD]; rfl)
@[simp] theorem evD1 (e es) : evD G (.cons e es) env = match ev G e env with
    | some d => match evD G es env with
      | some ds => some (d.data :: ds)
      | none => none
    | none => none := by first | (rw [evD]; done) | (rw [evD]; rfl)
@[simp] theorem evA0 : evA G .nil env = some [] := by first | (rw [evA]; done) | (rw [evA]; rfl)
@[simp] theorem evA1 (e es) : evA G (.cons e es) env = match ev G e env with
    | some d => match evA G es env with
      | some ds => some (d.arg :: ds)
      | none => none
    | none => none := by first | (rw [evA]; done) | (rw [evA]; rfl)
@[simp] theorem evAnd0 : evAnd G .nil env = some (.val (.bl true)) := by first | (rw [evAnd]; done) | (rw [evAnd]; rfl)
@[simp] theorem evAnd1 (e es) : evAnd G (.cons e es) env = match ev G e env with
    | some (.val (.bl false)) => some (.val (.bl false))
    | some (.val (.bl true)) => evAnd G es env
    | _ => none := by first | (rw [evAnd]; done) | (rw [evAnd]; rfl)
@[simp] theorem evOr0 : evOr G .nil env = some (.val (.bl false)) := by first | (rw [evOr]; done) | (rw [evOr]; rfl)
@[simp] theorem evOr1 (e es) : evOr G (.cons e es) env = match ev G e env with
    | some (.val (.bl true)) => some (.val (.bl true))
    | some (.val (.bl false)) => evOr G es env
    | _ => none := by first | (rw [evOr]; done) | (rw [evOr]; rfl)
@[simp] theorem evO0 : evO G .non env = some none := by first | (rw [evO]; done) | (rw [evO]; rfl)
@[simp] theorem evO1 (e) : evO G (.one e) env = match ev G e env with
    | some (.val (.int i)) => some (some i)
    | _ => none := by first | (rw [evO]; done) | (rw [evO]; rfl)
@[simp] theorem evC0 : evC G .non env = some true := by first | (rw [evC]; done) | (rw [evC]; rfl)
@[simp] theorem evC1 (e) : evC G (.one e) env = match ev G e env with
    | some (.val (.bl b)) => some b
    | _ => none := by first | (rw [evC]; done) | (rw [evC]; rfl)
@[simp] theorem evM0 : evM G .nil [] env = some [] := by first | (rw [evM]; done) | (rw [evM]; rfl)
@[simp] theorem evM1 (e es m ms) : evM G (.cons e es) (m :: ms) env = match (ev G e env).bind (R.asSl m) with
    | some r => match evM G es ms env with
      | some rs => some (r :: rs)
      | none => none
    | none => none := by first | (rw [evM]; done) | (rw [evM]; rfl)
@[simp] theorem seqD1 (d) : seqD (.lst d) = some d := rfl
@[simp] theorem seqD2 (d) : seqD (.tup d) = some d := rfl
@[simp] theorem seqD3 (d) : seqD (.str d) = some (d.map fun c => .str [c]) := rfl
@[simp] theorem bindT1 (i d env) : bindT (.nm i) d env = some (setE env i (.fz d)) := by first | rfl | (cases d <;> rfl)
@[simp] theorem bindT2 (is ds env) : bindT (.tp is) (.tup ds) env = setAll env is ds := rfl
@[simp] theorem setAll0 (env : Env) : setAll env [] [] = some env := rfl
@[simp] theorem setAll1 (env : Env) (i is d ds) : setAll env (i :: is) (d :: ds) = setAll (setE env i (.fz d)) is ds := rfl
@[simp] theorem setSls0 (env : Env) : setSls [] [] env = some env := rfl
@[simp] theorem setSls1 (env : Env) (i is d ds) : setSls (i :: is) (d :: ds) env = setSls is ds (setE env i d) := rfl
@[simp] theorem slots1 (i) : Tg.slots (.nm i) = [i] := rfl
@[simp] theorem slots2 (i) : Tg.slots (.tp i) = i := rfl
@[simp] theorem wipe0 (env : Env) : wipeE env [] = env := rfl
@[simp] theorem wipe1 (env : Env) (v vs) : wipeE env (v :: vs) = (wipeE env vs).set v none := rfl
@[simp] theorem execs0 : execs G .nil env = some (.next env) := by first | (rw [execs]; done) | (rw [execs]; rfl)
@[simp] theorem execs1 (s ss) : execs G (.cons s ss) env = match exec G s env with
    | some (.next env') => execs G ss env'
    | some (.ret v) => some (.ret v)
    | none => none := by first | (rw [execs]; done) | (rw [execs]; rfl)
@[simp] theorem execs2 (i ss) : execs G (.frz i ss) env = execs G ss (freeze i env) := by first | (rw [execs]; done) | (rw [execs]; rfl)
@[simp] theorem isi1 (d) : isiD .str (.str d) = some true := rfl
@[simp] theorem isi2 (d) : isiD .list (.lst d) = some true := rfl
@[simp] theorem evS_seq (e) : evS G (.seq e) env = match ev G e env with
    | some x => seqD x.data
    | none => none := by first | (rw [evS]; done) | (rw [evS]; rfl)
@[simp] theorem evS_rng1 (a) : evS G (.rng1 a) env = match ev G a env with
    | some (.val (.int j)) => if small62 j then some (rangeD 0 j.toNat 1) else none
    | _ => none := by first | (rw [evS]; done) | (rw [evS]; rfl)
@[simp] theorem evS_enum (e) : evS G (.enum e) env = match ev G e env with
    | some x => (match x.data with | .lst ds => some (enumD 0 ds) | .str l => some (enumD 0 (l.map fun c => .str [c])) | _ => none)
    | none => none := by first | (rw [evS]; done) | (rw [evS]; rfl)
@[simp] theorem evS_zip (a b) : evS G (.zip a b) env = match ev G a env with
    | some x => match ev G b env with
      | some y => (match x.data, y.data with | .lst ds, .lst es => some (zipD ds es) | _, _ => none)
      | none => none
    | none => none := by first | (rw [evS]; done) | (rw [evS]; rfl)
@[simp] theorem exec_asg (i m e) : exec G (.asg i m e) env = match ev G e env with
    | some r => (put i m r env).map .next
    | none => none := by first | (rw [exec]; done) | (rw [exec]; rfl)
@[simp] theorem exec_par (is ms es) : exec G (.par is ms es) env = match evM G es ms env with
    | some rs => (setSls is rs env).map .next
    | none => none := by first | (rw [exec]; done) | (rw [exec]; rfl)
@[simp] theorem exec_unp (is e) : exec G (.unp is e) env = match ev G e env with
    | some (.val (.tup ds)) => (setAll env is ds).map .next
    | _ => none := by first | (rw [exec]; done) | (rw [exec]; rfl)
@[simp] theorem exec_app (i e) : exec G (.app i e) env = match env[i]? with
    | some (some (.own ds)) => match (ev G e env).bind R.fz with
      | some d => if ds.length < LINE then some (.next (setE env i (.own (ds ++ [d])))) else none
      | none => none
    | _ => none := by first | (rw [exec]; done) | (rw [exec]; rfl)
@[simp] theorem exec_pop (i) : exec G (.pop i) env = match env[i]? with
    | some (some (.own ds)) => if ds.isEmpty then none else some (.next (setE env i (.own ds.dropLast)))
    | _ => none := by first | (rw [exec]; done) | (rw [exec]; rfl)
@[simp] theorem exec_seti (i k e) : exec G (.seti i k e) env = match env[i]? with
    | some (some (.own ds)) => match (ev G e env).bind R.fz with
      | some d => match ev G k env with
        | some (.val (.int z)) => (match ixN ds.length z with
          | some j => some (.next (setE env i (.own (ds.set j d))))
          | none => none)
        | _ => none
      | none => none
    | _ => none := by first | (rw [exec]; done) | (rw [exec]; rfl)
@[simp] theorem exec_ex (e) : exec G (.ex e) env = match ev G e env with
    | some _ => some (.next env)
    | none => none := by first | (rw [exec]; done) | (rw [exec]; rfl)
@[simp] theorem exec_ife (c a b) : exec G (.ife c a b) env = match ev G c env with
    | some (.val (.bl true)) => execs G a env
    | some (.val (.bl false)) => execs G b env
    | _ => none := by first | (rw [exec]; done) | (rw [exec]; rfl)
@[simp] theorem exec_ret (e) : exec G (.ret e) env = match ev G e env with
    | some (.val d) => some (.ret (.val d))
    | some (.fresh ds) => some (.ret (.fresh ds))
    | some (.vown ds) => some (.ret (.fresh ds))
    | _ => none := by first | (rw [exec]; done) | (rw [exec]; rfl)
@[simp] theorem srcFix1 (e) : srcFix G (.seq e) env = match ev G e env with | some (.vown _) => false | _ => true := by first | (rw [srcFix]; done) | (rw [srcFix]; rfl)
@[simp] theorem srcFix2 (e) : srcFix G (.enum e) env = match ev G e env with | some (.vown _) => false | _ => true := by first | (rw [srcFix]; done) | (rw [srcFix]; rfl)
@[simp] theorem srcFix3 (a b) : srcFix G (.zip a b) env = ((match ev G a env with | some (.vown _) => false | _ => true) && (match ev G b env with | some (.vown _) => false | _ => true)) := by first | (rw [srcFix]; done) | (rw [srcFix]; rfl)
@[simp] theorem srcFix4 (a) : srcFix G (.rng1 a) env = true := rfl
@[simp] theorem srcFix5 (a b) : srcFix G (.rng2 a b) env = true := rfl
@[simp] theorem srcFix6 (a b c) : srcFix G (.rng3 a b c) env = true := rfl
theorem exec_for {G : Gm} {env : Env} {tg src b} {items} (h1 : srcFix G src env = true) (h2 : evS G src env = some items) :
    exec G (.for tg src b) env = forLoop (bindT tg) (execs G b) items env := by rw [exec]; simp only [h1, h2, ite_true]
end
theorem run_eq (G : Gm) (ar n : Nat) (body : Ss) (as : List Sl) (h : as.length = ar) :
    run G ar n body as = match execs G body (as.map some ++ List.replicate (n - as.length) none) with
      | some (.ret r) => some r
      | some (.next _) => some (.val .non)
      | none => none := by subst h; simp only [run, ite_true]; try rfl

theorem lcLoop_fm {α : Type} (bind : D → Option Env) (cond : Env → Option Bool) (elt : Env → Option D) (f : α → D) (p : α → Bool) (g : α → D) :
    ∀ (l : List α) (acc : List D) (h : ∀ a ∈ l, ∃ env, bind (f a) = some env ∧ cond env = some (p a) ∧ (p a = true → elt env = some (g a))),
      acc.length + l.length ≤ LINE → lcLoop bind cond elt (l.map f) acc = some (acc ++ (l.filter p).map g)
  | [], acc, _, _ => by simp [lcLoop]
  | a :: l, acc, h, hl => by
    obtain ⟨env, h1, h2, h3⟩ := h a (List.mem_cons_self ..)
    have hl' : acc.length < LINE := by simp only [List.length_cons] at hl; omega
    simp only [List.map_cons, lcLoop, h1, h2]
    cases hp : p a with
    | false =>
      simp only []
      rw [lcLoop_fm bind cond elt f p g l acc (fun a ha => h a (List.mem_cons_of_mem _ ha)) (by simp only [List.length_cons] at hl; omega), List.filter_cons_of_neg (by simp [hp])]
    | true =>
      simp only [h3 hp, hl', ite_true]
      rw [lcLoop_fm bind cond elt f p g l _ (fun a ha => h a (List.mem_cons_of_mem _ ha)) (by simp only [List.length_cons, List.length_append, List.length_nil] at hl ⊢; omega), List.filter_cons_of_pos (by simp [hp])]
      simp
theorem ev_lc_fm {α : Type} {G : Gm} {env : Env} {elt tg src cond} (l : List α) (f : α → D) (p : α → Bool) (g : α → D) (hs : evS G src env = some (l.map f)) (hl : l.length ≤ LINE)
    (h : ∀ a ∈ l, ∃ env', bindT tg (f a) (wipeE env tg.slots) = some env' ∧ evC G cond env' = some (p a) ∧ (p a = true → (ev G elt env').bind R.fz = some (g a))) :
    ev G (.lc elt tg src cond) env = some (.fresh ((l.filter p).map g)) := by
  rw [ev, hs]
  simp only []
  rw [lcLoop_fm _ _ _ f p g l [] h (by simpa using hl)]
  simp
theorem ev_lc_m {α : Type} {G : Gm} {env : Env} {elt tg src} (l : List α) (f : α → D) (g : α → D) (hs : evS G src env = some (l.map f)) (hl : l.length ≤ LINE)
    (h : ∀ a ∈ l, ∃ env', bindT tg (f a) (wipeE env tg.slots) = some env' ∧ (ev G elt env').bind R.fz = some (g a)) :
    ev G (.lc elt tg src .non) env = some (.fresh (l.map g)) := by
  have := ev_lc_fm (cond := .non) l f (fun _ => true) g hs hl (fun a ha => by obtain ⟨e, h1, h2⟩ := h a ha; exact ⟨e, h1, by rw [evC], fun _ => h2⟩)
  rw [this, List.filter_eq_self.2 (fun _ _ => rfl)]
theorem rangeD_map (lo : Int) (n : Nat) (c : Int) : rangeD lo n c = (List.range n).map fun (i : Nat) => D.int (lo + (i : Int) * c) := rfl
theorem rangeD0 (n : Nat) : rangeD 0 n 1 = (List.range n).map fun (i : Nat) => D.int (i : Int) := by simp [rangeD]
theorem enumD_map {α : Type} (f : α → D) : ∀ (l : List α) (k : Nat), enumD k (l.map f) = (l.zipIdx k).map fun p => D.tup [.int (p.2 : Int), f p.1]
  | [], k => rfl
  | a :: l, k => by
    simp only [List.map_cons, enumD, List.zipIdx_cons]
    have := enumD_map f l (k + 1)
    rw [← this]; norm_cast
theorem blsD_map {α : Type} (l : List α) (f : α → Bool) : blsD (l.map fun a => D.bl (f a)) = some (l.map f) := by
  induction l with
  | nil => rfl
  | cons a l ih => simp only [List.map_cons, blsD, ih, Option.map_some]
theorem intsD_map {α : Type} (l : List α) (f : α → Int) : intsD (l.map fun a => D.int (f a)) = some (l.map f) := by
  induction l with
  | nil => rfl
  | cons a l ih => simp only [List.map_cons, intsD, ih, Option.map_some]
theorem strsD_map {α : Type} (l : List α) (f : α → List Nat) : strsD (l.map fun a => D.str (f a)) = some (l.map f) := by
  induction l with
  | nil => rfl
  | cons a l ih => simp only [List.map_cons, strsD, ih, Option.map_some]
theorem LN : LINE = 16777216 := rfl
theorem small62_nat (n : Nat) (h : n ≤ 1000000) : small62 (n : Int) = true := by
  simp only [small62, Bool.and_eq_true, decide_eq_true_eq]; omega
theorem run_ret {G : Gm} {ar n : Nat} {body : Ss} {as : List Sl} {r : R} (env : Env) (h : as.length = ar) (he : as.map some ++ List.replicate (n - as.length) none = env)
    (hr : execs G body env = some (.ret r)) : run G ar n body as = some r := by rw [run_eq _ _ _ _ _ h, he, hr]
theorem q_next {G : Gm} {s ss} {env : Env} {o} (env' : Env) (h : exec G s env = some (.next env')) (h2 : execs G ss env' = o) : execs G (.cons s ss) env = o := by
  rw [execs1, h]; exact h2
theorem q_ret {G : Gm} {s ss} {env : Env} {r} (h : exec G s env = some (.ret r)) : execs G (.cons s ss) env = some (.ret r) := by
  rw [execs1, h]
theorem q_asg {G : Gm} {i m e} {env env' : Env} (r : R) (h : ev G e env = some r) (h2 : put i m r env = some env') : exec G (.asg i m e) env = some (.next env') := by
  rw [exec_asg, h]; simp only [h2, Option.map_some]
theorem q_rv {G : Gm} {e} {env : Env} (d : D) (h : ev G e env = some (.val d)) : exec G (.ret e) env = some (.ret (.val d)) := by rw [exec_ret, h]
theorem q_rf {G : Gm} {e} {env : Env} (d) (h : ev G e env = some (.fresh d)) : exec G (.ret e) env = some (.ret (.fresh d)) := by rw [exec_ret, h]
theorem q_then {G : Gm} {c a b} {env : Env} {o} (h : ev G c env = some (.val (.bl true))) (h2 : execs G a env = o) : exec G (.ife c a b) env = o := by rw [exec_ife, h]; exact h2
theorem q_else {G : Gm} {c a b} {env : Env} {o} (h : ev G c env = some (.val (.bl false))) (h2 : execs G b env = o) : exec G (.ife c a b) env = o := by rw [exec_ife, h]; exact h2
theorem q_for {G : Gm} {env : Env} {tg src b o} (items : List D) (h1 : srcFix G src env = true) (h2 : evS G src env = some items) (h3 : forLoop (bindT tg) (execs G b) items env = o) :
    exec G (.for tg src b) env = o := by rw [exec_for h1 h2]; exact h3
theorem q_call {G : Gm} {env : Env} {f es} (as : List Sl) (sem) (r : R) (h1 : evA G es env = some as) (h2 : G f = some sem) (h3 : sem as = some r) (h4 : r.plain = true) : ev G (.call f es) env = some r := by
  rw [ev_call, h1]; simp only [h2, h3, h4, ite_true]
theorem q_bi1 {G : Gm} {env : Env} {b e} (r r' : R) (h : ev G e env = some r) (h2 : biD b [r.data] = some r') : ev G (.bi b (.cons e .nil)) env = some r' := by
  rw [ev_bi, evD1, h, evD0]; exact h2
theorem q_bi2 {G : Gm} {env : Env} {b e e2} (r r2 r' : R) (h : ev G e env = some r) (h1 : ev G e2 env = some r2) (h2 : biD b [r.data, r2.data] = some r') : ev G (.bi b (.cons e (.cons e2 .nil))) env = some r' := by
  rw [ev_bi, evD1, h, evD1, h1, evD0]; exact h2
theorem q_meth1 {G : Gm} {env : Env} {m a e} (x r r' : R) (h0 : ev G a env = some x) (h : ev G e env = some r) (h2 : mtD m x.data [r.data] = some r') : ev G (.meth m a (.cons e .nil)) env = some r' := by
  rw [ev_meth, h0, evD1, h, evD0]; exact h2
theorem q_app {G : Gm} {env : Env} {i e} (ds : List D) (r : R) (d : D) (h0 : env[i]? = some (some (.own ds))) (h : ev G e env = some r) (h2 : r.fz = some d) (hl : ds.length < LINE) : exec G (.app i e) env = some (.next (env.set i (some (.own (ds ++ [d]))))) := by
  rw [exec_app, h0, h]; simp only [Option.bind_some, h2, hl, ite_true]; rfl
theorem q_bin {G : Gm} {env : Env} {op a b} (x y r : R) (h : ev G a env = some x) (h1 : ev G b env = some y) (h2 : binD op x.data y.data = some r) : ev G (.bin op a b) env = some r := by
  rw [ev_bin, h, h1]; exact h2
theorem q_cmp {G : Gm} {env : Env} {op a b} (x y : R) (k : Bool) (h : ev G a env = some x) (h1 : ev G b env = some y) (h2 : cmpD op x.data y.data = some k) : ev G (.cmp op a b) env = some (.val (.bl k)) := by
  rw [ev_cmp, h, h1]; simp only [h2, Option.map_some]
theorem q_sub {G : Gm} {env : Env} {a b} (x y : R) (d : D) (h : ev G a env = some x) (h1 : ev G b env = some y) (h2 : subD x.data y.data = some d) : ev G (.sub a b) env = some (.val d) := by
  rw [ev_sub, h, h1]; simp only [h2, Option.map_some]
theorem q_not {G : Gm} {env : Env} {a} (k : Bool) (h : ev G a env = some (.val (.bl k))) : ev G (.not a) env = some (.val (.bl (!k))) := by
  rw [ev_not, h]
theorem q_or1 {G : Gm} {env : Env} {a es} (h : ev G a env = some (.val (.bl true))) : ev G (.or (.cons a es)) env = some (.val (.bl true)) := by
  rw [ev_or, evOr1, h]
theorem q_or0 {G : Gm} {env : Env} {a es r} (h : ev G a env = some (.val (.bl false))) (h2 : ev G (.or es) env = r) : ev G (.or (.cons a es)) env = r := by
  rw [ev_or, evOr1, h]; rw [ev_or] at h2; exact h2
theorem q_orN {G : Gm} {env : Env} : ev G (.or .nil) env = some (.val (.bl false)) := by
  rw [ev_or, evOr0]
theorem q_and0 {G : Gm} {env : Env} {a es} (h : ev G a env = some (.val (.bl false))) : ev G (.and (.cons a es)) env = some (.val (.bl false)) := by
  rw [ev_and, evAnd1, h]
theorem q_and1 {G : Gm} {env : Env} {a es r} (h : ev G a env = some (.val (.bl true))) (h2 : ev G (.and es) env = r) : ev G (.and (.cons a es)) env = r := by
  rw [ev_and, evAnd1, h]; rw [ev_and] at h2; exact h2
theorem q_andN {G : Gm} {env : Env} : ev G (.and .nil) env = some (.val (.bl true)) := by
  rw [ev_and, evAnd0]
end Mc
namespace Mc
open PySem PySem.Spec PyProof.Rows L2
def okc (s : List Nat) : Bool := s.all (· < 0x110000)
theorem strOk_cps (s : List Nat) : PyData.strOk (⟨⟨s⟩⟩ : Str) = okc s := by
  simp [PyData.strOk, okc]
theorem eqable_str (s : List Nat) (h : okc s = true) : eqable (.str s) = true := by
  simp only [eqable, toPy, SeqAt.shaped, PyData.canLay0, strOk_cps, h, PyData.depth]; rfl
theorem toPyL_map {α : Type} (l : List α) (f : α → D) : toPyL (l.map f) = l.map fun a => toPy (f a) := by
  induction l with
  | nil => rfl
  | cons a l ih => simp only [List.map_cons, toPyL, ih]
theorem canLay_all (l : List D) (h : ∀ d ∈ l, (toPy d).canLay0 = true) : PyData.canLayAll0 (toPyL l) = true := by
  induction l with
  | nil => rfl
  | cons a l ih =>
    simp only [toPyL, PyData.canLayAll0, Bool.and_eq_true]
    exact ⟨h a (List.mem_cons_self ..), ih fun d hd => h d (List.mem_cons_of_mem _ hd)⟩
theorem depth_all (n : Nat) (l : List D) (h : ∀ d ∈ l, (toPy d).depth ≤ n) : PyData.depthAll (toPyL l) ≤ n := by
  induction l with
  | nil => simp [toPyL, PyData.depthAll]
  | cons a l ih =>
    simp only [toPyL, PyData.depthAll]
    have := h a (List.mem_cons_self ..)
    have := ih fun d hd => h d (List.mem_cons_of_mem _ hd)
    omega
theorem eqable_strs {α : Type} (l : List α) (f : α → List Nat) (h : ∀ a ∈ l, okc (f a) = true) : eqable (.lst (l.map fun a => .str (f a))) = true := by
  simp only [eqable, toPy, SeqAt.shaped, Bool.and_eq_true, decide_eq_true_eq, PyData.canLay0, PyData.depth]
  refine ⟨canLay_all _ ?_, ?_⟩
  · intro d hd
    obtain ⟨a, ha, rfl⟩ := List.mem_map.1 hd
    simp only [toPy, PyData.canLay0, strOk_cps, h a ha]
  · have := depth_all 0 (l.map fun a => D.str (f a)) (by
      intro d hd
      obtain ⟨a, ha, rfl⟩ := List.mem_map.1 hd
      simp only [toPy, PyData.depth, Nat.le_refl])
    omega
theorem eqv_str (a b : List Nat) : PyData.eqv (.str ⟨⟨a⟩⟩) (.str ⟨⟨b⟩⟩) = decide (a = b) := by
  rw [PyData.eqv]
  by_cases h : a = b
  · subst h; simp
  · simp only [h, decide_false, beq_eq_false_iff_ne, ne_eq]
    intro e
    injection e with e
    injection e with e
    exact h e
mutual
theorem eqv_self : ∀ d : PyData, d.canLay0 = true → PyData.eqv d d = true
  | .none, _ => by rw [PyData.eqv]
  | .bool a, _ => by rw [PyData.eqv]; simp
  | .int a, _ => by rw [PyData.eqv]; simp
  | .str a, _ => by rw [PyData.eqv]; simp
  | .list xs, h => by rw [PyData.eqv]; exact eqvAll_self xs (by simpa [PyData.canLay0] using h)
  | .tuple xs, h => by rw [PyData.eqv]; exact eqvAll_self xs (by simpa [PyData.canLay0] using h)
  | .dict xs, h => by simp [PyData.canLay0] at h
theorem eqvAll_self : ∀ ds : List PyData, PyData.canLayAll0 ds = true → PyData.eqvAll ds ds = true
  | [], _ => by rw [PyData.eqvAll]
  | x :: xs, h => by
    simp only [PyData.canLayAll0, Bool.and_eq_true] at h
    rw [PyData.eqvAll, eqv_self x h.1, eqvAll_self xs h.2]; rfl
end
theorem eqv_selfD (d : D) (h : eqable d = true) : PyData.eqv (toPy d) (toPy d) = true := eqv_self _ (SeqAt.canLay_of_shaped h)
theorem eqD_self (d : D) (h : eqable d = true) : eqD d d = some true := by
  unfold eqD
  split <;> simp_all [eqv_selfD]
theorem stripL_all (p s : List Nat) (h : ∀ c ∈ s, c ∈ p) : stripL p s = [] := by
  unfold stripL
  rw [Txt.stripChars, stripBy_eq]
  have e : (s.takeWhile (⟨p⟩ : Array Nat).contains) = s := by
    induction s with
    | nil => rfl
    | cons a s ih =>
      rw [List.takeWhile_cons_of_pos (by simpa using h a (List.mem_cons_self ..)), ih fun c hc => h c (List.mem_cons_of_mem _ hc)]
  show (Builtin.Str.strSub ⟨⟨s⟩⟩ (List.takeWhile (⟨p⟩ : Array Nat).contains s).length _).cps.toList = []
  rw [e]
  rw [StrLaws.strSub_toList]
  simp
theorem inL_map {α : Type} (l : List α) (f : α → List Nat) (s : List Nat) : ((toPyL (l.map fun a => .str (f a))).any fun z => PyData.eqv z (toPy (.str s))) = l.any fun a => decide (f a = s) := by
  rw [toPyL_map, List.any_map]
  congr 1; funext a
  simp only [Function.comp, toPy, eqv_str]
theorem findD_str (s : List Nat) (f : Nat → List Nat) : ∀ (n a k i : Nat), i < n → f (a + i) = s → (∀ j < i, f (a + j) ≠ s) → findD (.str s) ((List.range' a n).map fun j => .str (f j)) k = some (k + i)
  | 0, a, k, i, h, _, _ => absurd h (Nat.not_lt_zero _)
  | n + 1, a, k, i, h, h1, h2 => by
    rw [List.range'_succ, List.map_cons, findD, eqD]
    cases i with
    | zero => simp only [Nat.add_zero] at h1; simp [h1]
    | succ i =>
      have := h2 0 (Nat.succ_pos _)
      simp only [Nat.add_zero] at this
      simp only [this, decide_false]
      rw [findD_str s f n (a + 1) (k + 1) i (by omega) (by rw [← h1]; congr 1; omega) (fun j hj => by have := h2 (j + 1) (by omega); rwa [show a + (j + 1) = a + 1 + j by omega] at this)]
      congr 1; omega
end Mc
namespace Mc
open PySem PySem.Spec PyProof.Rows L2
def bLength : Ss := (.cons (.asg 1 false (.bi .sum (.cons (.slot 0) .nil))) (.cons (.par [2, 3, 4] [false, false, false] (.cons (.bin .mod (.bin .fdiv (.slot 1) (.int 56)) (.int 8)) (.cons (.bin .add (.int 1) (.bin .mod (.bin .fdiv (.slot 1) (.int 56)) (.int 40))) (.cons (.bin .add (.int 60) (.bin .mod (.bin .fdiv (.slot 1) (.int 56)) (.int 141))) .nil)))) (.cons (.ret (.sub (.tup (.cons (.slot 2) (.cons (.bi .min (.cons (.int 200) (.cons (.bi .len (.cons (.slot 0) .nil)) .nil))) (.cons (.slot 3) (.cons (.slot 2) (.cons (.slot 3) (.cons (.bi .min (.cons (.int 63) (.cons (.bi .len (.cons (.slot 0) .nil)) .nil))) (.cons (.slot 3) (.cons (.slot 4) .nil))))))))) (.bin .mod (.bin .fdiv (.slot 1) (.int 7)) (.int 8)))) .nil)))
def bSets : Ss := (.cons (.asg 2 true (.lst .nil)) (.cons (.for (.tp [3, 4]) (.enum (.ite (.cmp .lt (.slot 1) (.int 60)) (.slice (.slot 0) .non (.one (.int 63))) (.slice (.slot 0) .non (.one (.int 4))))) (.cons (.asg 5 false (.bin .add (.bin .add (.bin .mul (.slot 4) (.int 48271)) (.bin .mul (.slot 3) (.int 69621))) (.int 11))) (.cons (.asg 5 false (.bin .fdiv (.bin .mul (.bin .mul (.slot 5) (.slot 5)) (.slot 5)) (.int 1009))) (.cons (.asg 6 false (.ite (.cmp .ge (.slot 4) (.bin .pow (.int 10) (.int 18))) (.slot 4) (.bin .fdiv (.bin .mul (.bin .mul (.slot 5) (.slot 5)) (.slot 5)) (.int 1000003)))) (.cons (.app 2 (.meth .join (.str []) (.cons (.lc (.sub (.str [45, 120]) (.bin .and (.bin .shr (.slot 6) (.slot 7)) (.int 1))) (.nm 7) (.rng1 (.slot 1)) .non) .nil))) .nil))))) (.cons (.ret (.slot 2)) .nil)))
theorem intsD_int : ∀ ns : List Int, intsD (ns.map D.int) = some ns
  | [] => rfl
  | a :: l => by simp only [List.map_cons, intsD, intsD_int l, Option.map_some]
theorem fd (i j : Int) (h : 0 < j) (h2 : j.natAbs.log2 < 9000) : binD .fdiv (.int i) (.int j) = some (.val (.int (i / j))) := by
  simp only [binD, h, h2, and_self, ite_true]
theorem md (i j : Int) (h : 0 < j) : binD .mod (.int i) (.int j) = some (.val (.int (i % j))) := by
  simp only [binD, h, ite_true]
theorem ad (i j : Int) : binD .add (.int i) (.int j) = some (.val (.int (i + j))) := rfl
theorem sb (i j : Int) : binD .sub (.int i) (.int j) = some (.val (.int (i - j))) := rfl
theorem at8 (a0 a1 a2 a3 a4 a5 a6 a7 : Nat) (i : Int) (h0 : 0 ≤ i) (h1 : i < 8) (h : a0 ≤ 200 ∧ a1 ≤ 200 ∧ a2 ≤ 200 ∧ a3 ≤ 200 ∧ a4 ≤ 200 ∧ a5 ≤ 200 ∧ a6 ≤ 200 ∧ a7 ≤ 200) :
    ∃ n : Nat, n ≤ 200 ∧ subD (.tup [.int a0, .int a1, .int a2, .int a3, .int a4, .int a5, .int a6, .int a7]) (.int i) = some (.int n) := by
  have : i = 0 ∨ i = 1 ∨ i = 2 ∨ i = 3 ∨ i = 4 ∨ i = 5 ∨ i = 6 ∨ i = 7 := by omega
  rcases this with h' | h' | h' | h' | h' | h' | h' | h' <;> subst h'
  · exact ⟨a0, by omega, rfl⟩
  · exact ⟨a1, by omega, rfl⟩
  · exact ⟨a2, by omega, rfl⟩
  · exact ⟨a3, by omega, rfl⟩
  · exact ⟨a4, by omega, rfl⟩
  · exact ⟨a5, by omega, rfl⟩
  · exact ⟨a6, by omega, rfl⟩
  · exact ⟨a7, by omega, rfl⟩
theorem length_ok (G : Gm) (ns : List Int) : ∃ n : Nat, n ≤ 200 ∧ run G 1 5 bLength [.fz (.lst (ns.map D.int))] = some (.val (.int n)) := by
  have q := fun (c : Int) (k : Int) (hk : 0 < k) => (⟨Int.emod_nonneg c (by omega), Int.emod_lt_of_pos c hk⟩ : 0 ≤ c % k ∧ c % k < k)
  have q1 := q (ns.sum / 56) 8 (by omega)
  have q2 := q (ns.sum / 56) 40 (by omega)
  have q3 := q (ns.sum / 56) 141 (by omega)
  have q4 := q (ns.sum / 7) 8 (by omega)
  obtain ⟨x, hx⟩ : ∃ x : Nat, ns.sum / 56 % 8 = x := ⟨_, (Int.toNat_of_nonneg q1.1).symm⟩
  obtain ⟨y, hy⟩ : ∃ x : Nat, 1 + ns.sum / 56 % 40 = x := ⟨(1 + ns.sum / 56 % 40).toNat, by omega⟩
  obtain ⟨z, hz⟩ : ∃ x : Nat, 60 + ns.sum / 56 % 141 = x := ⟨(60 + ns.sum / 56 % 141).toNat, by omega⟩
  obtain ⟨n, hn, e⟩ := at8 x (min 200 ns.length) y x y (min 63 ns.length) y z _ q4.1 q4.2 (by omega)
  refine ⟨n, hn, ?_⟩
  refine run_ret [some (.fz (.lst (ns.map D.int))), none, none, none, none] rfl rfl ?_
  refine q_next [some (.fz (.lst (ns.map D.int))), some (.fz (.int ns.sum)), none, none, none] (q_asg (.val (.int ns.sum)) (by simp [biD, intsD_int]) rfl) ?_
  have d56 : (0 : Int) < 56 ∧ (56 : Int).natAbs.log2 < 9000 := by decide
  have d7 : (0 : Int) < 7 ∧ (7 : Int).natAbs.log2 < 9000 := by decide
  refine q_next [some (.fz (.lst (ns.map D.int))), some (.fz (.int ns.sum)), some (.fz (.int x)), some (.fz (.int y)), some (.fz (.int z))] ?_ ?_
  · simp [fd _ 56 d56.1 d56.2, md, ad, hx, hy, hz]
  refine q_ret (q_rv _ ?_)
  have m1 : biD .min [.int 200, .int ns.length] = some (.val (.int (min 200 ns.length : Nat))) := by
    simp only [biD]; congr 3; split <;> omega
  have m2 : biD .min [.int 63, .int ns.length] = some (.val (.int (min 63 ns.length : Nat))) := by
    simp only [biD]; congr 3; split <;> omega
  have l1 : biD .len [.lst (ns.map D.int)] = some (.val (.int ns.length)) := by simp [biD]
  have q8 : 8 ≤ LINE := by rw [LN]; omega
  simp [fd _ 7 d7.1 d7.2, md, l1, m1, m2, q8, e]
def Ch (s : List Nat) : Prop := ∀ c ∈ s, c = 120 ∨ c = 45
theorem ml (i j : Int) (h : bits i + bits j ≤ 134217728) : binD .mul (.int i) (.int j) = some (.val (.int (i * j))) := by
  simp only [binD, h, ite_true]
theorem bits_div (a j : Int) (hj : 0 < j) (m : Nat) (h : bits a ≤ m) : bits (a / j) ≤ m := by
  have := intBits_fdiv_le (y := j) h
  rwa [Int.fdiv_eq_ediv_of_nonneg _ (by omega)] at this
theorem ev_cube (G : Gm) (env : Env) (v : Int) (m : Nat) (h5 : env[5]? = some (some (.fz (.int v)))) (hv : bits v ≤ m) (hm : 3 * m ≤ 134217728) :
    ev G (.bin .mul (.bin .mul (.slot 5) (.slot 5)) (.slot 5)) env = some (.val (.int (v * v * v))) ∧ bits (v * v * v) ≤ 3 * m := by
  have b2 : bits (v * v) ≤ m + m := intBits_mul_le hv hv
  have b3 : bits (v * v * v) ≤ m + m + m := intBits_mul_le b2 hv
  refine ⟨?_, by omega⟩
  simp only [ev_bin, ev_slot, h5, Rd1]
  rw [ml v v (by omega)]
  simp only [Rd1]
  rw [ml _ _ (by omega)]
theorem flat_one {α : Type} (f : α → Nat) : ∀ l : List α, (l.map fun a => [f a]).flatten = l.map f
  | [] => rfl
  | a :: l => by simp [flat_one f l]
def bSetsB : Ss := (.cons (.asg 5 false (.bin .add (.bin .add (.bin .mul (.slot 4) (.int 48271)) (.bin .mul (.slot 3) (.int 69621))) (.int 11))) (.cons (.asg 5 false (.bin .fdiv (.bin .mul (.bin .mul (.slot 5) (.slot 5)) (.slot 5)) (.int 1009))) (.cons (.asg 6 false (.ite (.cmp .ge (.slot 4) (.bin .pow (.int 10) (.int 18))) (.slot 4) (.bin .fdiv (.bin .mul (.bin .mul (.slot 5) (.slot 5)) (.slot 5)) (.int 1000003)))) (.cons (.app 2 (.meth .join (.str []) (.cons (.lc (.sub (.str [45, 120]) (.bin .and (.bin .shr (.slot 6) (.slot 7)) (.int 1))) (.nm 7) (.rng1 (.slot 1)) .non) .nil))) .nil))))
theorem sets_body (G : Gm) (n : Nat) (hn : n ≤ 200) (k : Nat) (hk : k ≤ 100) (z : Int) (hz : bits z ≤ 1048576) (A x y u : Option Sl) (acc : List D) (hacc : acc.length ≤ 1000) :
    ∃ (s : List Nat) (x' y' : Option Sl), Ch s ∧ s.length = n ∧ execs G bSetsB [A, some (.fz (.int n)), some (.own acc), some (.fz (.int k)), some (.fz (.int z)), x, y, u] = some (.next [A, some (.fz (.int n)), some (.own (acc ++ [.str s])), some (.fz (.int k)), some (.fz (.int z)), x', y', u]) := by
  have bk : bits (k : Int) ≤ 64 := intBits_cast_le (by show k ≤ 16777216; omega)
  have b0 : bits 48271 ≤ 16 := by decide
  have b1 : bits 69621 ≤ 17 := by decide
  have b2 : bits 11 ≤ 4 := by decide
  have c1 : bits (z * 48271) ≤ 1048576 + 16 := intBits_mul_le hz b0
  have c2 : bits ((k : Int) * 69621) ≤ 64 + 17 := intBits_mul_le bk b1
  have c3 : bits (z * 48271 + k * 69621) ≤ max (1048576 + 16) (64 + 17) + 1 := intBits_add_le c1 c2
  have c4 : bits (z * 48271 + k * 69621 + 11) ≤ 1048600 := Nat.le_trans (intBits_add_le c3 b2) (by decide)
  have hl : acc.length < LINE := by rw [LN]; omega
  have e1 : ∀ env : Env, env[4]? = some (some (.fz (.int z))) → env[3]? = some (some (.fz (.int k))) → ev G (.bin .add (.bin .add (.bin .mul (.slot 4) (.int 48271)) (.bin .mul (.slot 3) (.int 69621))) (.int 11)) env = some (.val (.int (z * 48271 + k * 69621 + 11))) := by
    intro env h4 h3
    simp only [ev_bin, ev_slot, h4, h3, Rd1, ev_int]
    rw [ml z 48271 (by omega), ml k 69621 (by omega)]
    rfl
  generalize z * 48271 + k * 69621 + 11 = v at c4 e1
  have d1 : (0 : Int) < 1009 ∧ (1009 : Int).natAbs.log2 < 9000 := by decide
  have d2 : (0 : Int) < 1000003 ∧ (1000003 : Int).natAbs.log2 < 9000 := by decide
  have hw : bits (v * v * v / 1009) ≤ 3145800 := by
    refine bits_div _ _ d1.1 _ ?_
    exact Nat.le_trans (intBits_mul_le (intBits_mul_le c4 c4) c4) (by decide)
  have e2 : ∀ env : Env, env[5]? = some (some (.fz (.int v))) → ev G (.bin .fdiv (.bin .mul (.bin .mul (.slot 5) (.slot 5)) (.slot 5)) (.int 1009)) env = some (.val (.int (v * v * v / 1009))) := by
    intro env h5
    rw [ev_bin, (ev_cube G env v 1048600 h5 c4 (by decide)).1]
    simp only [ev_int, Rd1]
    exact fd _ _ d1.1 d1.2
  generalize v * v * v / 1009 = w at hw e2
  have e3 : ∃ t : Int, ∀ env : Env, env[5]? = some (some (.fz (.int w))) → env[4]? = some (some (.fz (.int z))) → ev G (.ite (.cmp .ge (.slot 4) (.bin .pow (.int 10) (.int 18))) (.slot 4) (.bin .fdiv (.bin .mul (.bin .mul (.slot 5) (.slot 5)) (.slot 5)) (.int 1000003))) env = some (.val (.int t)) := by
    have p : binD .pow (.int 10) (.int 18) = some (.val (.int 1000000000000000000)) := rfl
    by_cases hc : (1000000000000000000 : Int) ≤ z
    · refine ⟨z, fun env h5 h4 => ?_⟩
      simp only [ev_ite, ev_cmp, ev_slot, h4, ev_bin, ev_int, Rd1, p, cmpD, hc, decide_true, Option.map_some]
    · refine ⟨w * w * w / 1000003, fun env h5 h4 => ?_⟩
      simp only [ev_ite, ev_cmp, ev_slot, h4, ev_bin _ _ .pow, ev_int, Rd1, p, cmpD, hc, decide_false, Option.map_some]
      rw [ev_bin, (ev_cube G env w 3145800 h5 hw (by decide)).1]
      simp only [ev_int, Rd1]
      exact fd _ _ d2.1 d2.2
  obtain ⟨t, e3⟩ := e3
  refine ⟨(List.range n).map fun (i : Nat) => if t / 2 ^ i % 2 = 0 then 45 else 120, some (.fz (.int w)), some (.fz (.int t)), ?_, by simp, ?_⟩
  · intro c hc
    obtain ⟨i, _, rfl⟩ := List.mem_map.1 hc
    split <;> simp
  refine q_next _ (q_asg _ (e1 _ rfl rfl) rfl) ?_
  refine q_next _ (q_asg _ (e2 _ rfl) rfl) ?_
  refine q_next _ (q_asg _ (e3 _ rfl rfl) rfl) ?_
  show execs G _ [A, some (.fz (.int n)), some (.own acc), some (.fz (.int k)), some (.fz (.int z)), some (.fz (.int w)), some (.fz (.int t)), u] = _
  have e4 : ev G (.lc (.sub (.str [45, 120]) (.bin .and (.bin .shr (.slot 6) (.slot 7)) (.int 1))) (.nm 7) (.rng1 (.slot 1)) .non) [A, some (.fz (.int n)), some (.own acc), some (.fz (.int k)), some (.fz (.int z)), some (.fz (.int w)), some (.fz (.int t)), u]
      = some (.fresh ((List.range n).map fun (i : Nat) => .str [if t / 2 ^ i % 2 = 0 then 45 else 120])) := by
    refine ev_lc_m (List.range n) (fun (i : Nat) => D.int (i : Int)) _ ?_ ?_ ?_
    · simp [small62_nat n (by omega), rangeD0]
    · rw [List.length_range, LN]; omega
    · intro i hi
      refine ⟨_, rfl, ?_⟩
      have sh : binD .shr (.int t) (.int i) = some (.val (.int (t / 2 ^ i))) := by simp [binD]
      have an : ∀ q : Int, binD .and (.int q) (.int 1) = some (.val (.int (q % 2))) := fun q => by rw [binD, bitAnd_m1]
      have l2 : 2 ≤ LINE := by rw [LN]; omega
      simp [sh, an]
      rcases Int.emod_two_eq (t / 2 ^ i) with h | h
      · rw [h]; simp [subD, atI, ixN, l2]
      · rw [h]; simp [subD, atI, ixN, l2]
  refine q_next _ ?_ (by rw [execs0])
  have jn : mtD .join (.str []) [.lst ((List.range n).map fun (i : Nat) => .str [if t / 2 ^ i % 2 = 0 then 45 else 120])] = some (.val (.str ((List.range n).map fun (i : Nat) => if t / 2 ^ i % 2 = 0 then 45 else 120))) := by
    have : ((List.range n).map fun (i : Nat) => if t / 2 ^ i % 2 = 0 then 45 else 120).length ≤ LINE := by rw [List.length_map, List.length_range, LN]; omega
    rw [← flat_one] at this
    rw [mtD, strsD_map]
    simp only [this, ite_true]
    rw [flat_one]
  exact q_app acc _ _ rfl (q_meth1 _ _ _ (ev_str _ _ _) e4 jn) rfl hl
theorem sets_loop (G : Gm) (n : Nat) (hn : n ≤ 200) (A : Option Sl) : ∀ (l : List Int) (k : Nat) (acc : List D) (u3 u4 x y u : Option Sl), (∀ z ∈ l, bits z ≤ 1048576) → k + l.length ≤ 100 → acc.length ≤ k →
    ∃ (ss : List (List Nat)) (u3' u4' x' y' : Option Sl), (∀ s ∈ ss, Ch s ∧ s.length = n) ∧ ss.length = l.length ∧
      forLoop (bindT (.tp [3, 4])) (execs G bSetsB) (enumD k (l.map D.int)) [A, some (.fz (.int n)), some (.own acc), u3, u4, x, y, u] = some (.next [A, some (.fz (.int n)), some (.own (acc ++ ss.map .str)), u3', u4', x', y', u])
  | [], k, acc, u3, u4, x, y, u, _, _, _ => ⟨[], u3, u4, x, y, by simp, rfl, by simp [enumD, forLoop]⟩
  | z :: l, k, acc, u3, u4, x, y, u, hz, hk, ha => by
    simp only [List.length_cons] at hk
    obtain ⟨s, x1, y1, h1, h2, h3⟩ := sets_body G n hn k (by omega) z (hz z (List.mem_cons_self ..)) A x y u acc (by omega)
    obtain ⟨ss, u3', u4', x', y', g1, g2, g3⟩ := sets_loop G n hn A l (k + 1) (acc ++ [.str s]) (some (.fz (.int k))) (some (.fz (.int z))) x1 y1 u (fun z hz' => hz z (List.mem_cons_of_mem _ hz')) (by omega) (by simp; omega)
    refine ⟨s :: ss, u3', u4', x', y', ?_, by simp [g2], ?_⟩
    · intro t ht
      rcases List.mem_cons.1 ht with h | h
      · subst h; exact ⟨h1, h2⟩
      · exact g1 t h
    · rw [List.map_cons, enumD, forLoop]
      simp only [bindT2, setAll1, setAll0, setE1, List.set_cons_zero, List.set_cons_succ]
      rw [h3]
      simp only []
      rw [show ((k : Int) + 1) = ((k + 1 : Nat) : Int) by omega, g3]
      simp
theorem sets_ok (G : Gm) (n : Nat) (hn : n ≤ 200) (ns : List Int) (hl : ns.length ≤ 63) (hb : ∀ z ∈ ns, bits z ≤ 1048576) :
    ∃ ss : List (List Nat), (∀ s ∈ ss, Ch s ∧ s.length = n) ∧ ss.length ≤ ns.length ∧ run G 2 8 bSets [.fz (.lst (ns.map D.int)), .fz (.int n)] = some (.fresh (ss.map .str)) := by
  have key : ∃ l : List Int, (∀ z ∈ l, z ∈ ns) ∧ l.length ≤ ns.length ∧ ∀ env : Env, env[0]? = some (some (.fz (.lst (ns.map D.int)))) → env[1]? = some (some (.fz (.int n))) →
      ev G (.ite (.cmp .lt (.slot 1) (.int 60)) (.slice (.slot 0) .non (.one (.int 63))) (.slice (.slot 0) .non (.one (.int 4)))) env = some (.fresh (l.map D.int)) := by
    by_cases hc : (n : Int) < 60
    · refine ⟨ns.take (min 63 ns.length), fun z hz => List.mem_of_mem_take hz, by simp; omega, fun env h0 h1 => ?_⟩
      simp [h0, h1, cmpD, hc, cutL, HT.sIx]
    · refine ⟨ns.take (min 4 ns.length), fun z hz => List.mem_of_mem_take hz, by simp; omega, fun env h0 h1 => ?_⟩
      simp [h0, h1, cmpD, hc, cutL, HT.sIx]
  obtain ⟨l, k1, k2, k3⟩ := key
  obtain ⟨ss, u3', u4', x', y', g1, g2, g3⟩ := sets_loop G n hn (some (.fz (.lst (ns.map D.int)))) l 0 [] none none none none none (fun z hz => hb z (k1 z hz)) (by omega) (by simp)
  refine ⟨ss, g1, by omega, ?_⟩
  refine run_ret [some (.fz (.lst (ns.map D.int))), some (.fz (.int n)), none, none, none, none, none, none] rfl rfl ?_
  refine q_next [some (.fz (.lst (ns.map D.int))), some (.fz (.int n)), some (.own []), none, none, none, none, none] (by simp) ?_
  refine q_next _ (q_for _ ?_ ?_ g3) ?_
  · rw [srcFix2, k3 _ rfl rfl]
  · rw [evS_enum, k3 _ rfl rfl]; rfl
  refine q_ret ?_
  simp
theorem rng3_ok (G : Gm) (env : Env) (a b c : E) (i j k : Int) (ha : ev G a env = some (.val (.int i))) (hb : ev G b env = some (.val (.int j))) (hc : ev G c env = some (.val (.int k)))
    (hi : 0 ≤ i) (hi2 : i ≤ 1000) (hj : 0 ≤ j) (hj2 : j ≤ 1000) (hk : 1 ≤ k) (hk2 : k ≤ 1000) :
    ∃ l : List Nat, (∀ x ∈ l, (x : Int) < j) ∧ evS G (.rng3 a b c) env = some (l.map fun (x : Nat) => D.int (x : Int)) := by
  have hs : 0 ≤ Builtin.Range.rangeSize i j k ∧ Builtin.Range.rangeSize i j k ≤ 1001 ∧ (∀ t : Nat, (t : Int) < Builtin.Range.rangeSize i j k → i + t * k < j) := by
    rw [Builtin.Range.rangeSize, if_pos (by omega)]
    by_cases h : i < j
    · rw [if_pos h]
      have h1 : 0 ≤ (j - i - 1) / k := Int.ediv_nonneg (by omega) (by omega)
      have h2 : (j - i - 1) / k ≤ j - i - 1 := Int.ediv_le_self _ (by omega)
      refine ⟨by omega, by omega, fun t ht => ?_⟩
      have h3 : (t : Int) * k ≤ (j - i - 1) / k * k := Int.mul_le_mul_of_nonneg_right (by omega) (by omega)
      have h4 : (j - i - 1) / k * k ≤ j - i - 1 := Int.ediv_mul_le _ (by omega)
      omega
    · rw [if_neg h]
      exact ⟨by omega, by omega, fun t ht => by omega⟩
  obtain ⟨s1, s2, s3⟩ := hs
  refine ⟨(List.range (Builtin.Range.rangeSize i j k).toNat).map fun (t : Nat) => (i + t * k).toNat, ?_, ?_⟩
  · intro x hx
    obtain ⟨t, ht, rfl⟩ := List.mem_map.1 hx
    have := s3 t (by have := List.mem_range.1 ht; omega)
    have : 0 ≤ (t : Int) * k := Int.mul_nonneg (by omega) (by omega)
    omega
  · rw [evS, ha, hb, hc]
    have sm : Builtin.Range.small i j k = true := by
      simp only [Builtin.Range.small, Builtin.Range.rangeFitsLong, Bool.and_eq_true, Bool.or_eq_true, decide_eq_true_eq, beq_iff_eq]
      rw [if_pos (by omega)]
      simp only [Bool.and_eq_true, decide_eq_true_eq]
      omega
    have c1 : decide (k ≠ 0) = true := decide_eq_true (by omega)
    have c2 : decide (k.natAbs < 1073741824) = true := decide_eq_true (by omega)
    have c3 : decide (0 ≤ Builtin.Range.rangeSize i j k) = true := decide_eq_true s1
    simp only [c1, c2, c3, sm, Bool.and_self, ite_true]
    rw [rangeD, List.map_map]
    congr 2
    funext t
    simp only [Function.comp]
    have : 0 ≤ (t : Int) * k := Int.mul_nonneg (by omega) (by omega)
    congr 1; omega
end Mc
namespace Mc
open PySem PySem.Spec PyProof.Rows L2
/-- the law's own promise at a script -/
def spScript (K : PySem.W.Frag) (sem : List Sl → Option R) : Sp := fun vs H Q _ => ∃ (a : Addr) (ns : List Int), vs = [.ref a] ∧ SqF K H a (ns.map V.int) ∧ sem [.fz (.lst (ns.map D.int))] = some (.val (.bl true)) ∧ ∀ H', Q (.bl true) H'
theorem reps_ints {W : Wd} {H : Hp} : ∀ ns : List Int, RepL W H (ns.map D.int) (ns.map V.int)
  | [] => .nil
  | n :: r => .cons rep_int (reps_ints r)
theorem script_ok {W : Wd} {P : Program} {w : World} {K : PySem.W.Frag} {mg : Str → Option Value} {base : Heap} {k : Nat} {f : Addr} {fd : FuncData} {ps : List Str} {sem : List Sl → Option R} (hK : K = W.K)
    (F : FnOk P w K mg base CX0 k f fd ps (spOf W sem)) (hT : W.T = [] := by rfl) : FnOk P w K mg base CX0 k f fd ps (spScript K sem) :=
  F.imp fun vs H Q E ⟨a, ns, e, hs, he, q⟩ => by
    subst e hK
    refine ⟨[.fz (.lst (ns.map D.int))], _, .cons ?_ (fun _ z => by cases z) (.nil (by rw [hT]; intro p hp; cases hp)), he, rfl, fun v H' s r => ?_⟩
    · show Rep W H _ _
      simp only [Rep]
      exact ⟨a, _, rfl, hs, reps_ints ns⟩
    · rw [rel_blE r]; exact q H'
theorem at_script {K : PySem.W.Frag} {H : Hp} {a : Addr} {ns : List Int} {sem : List Sl → Option R} {E : XK} (hO : Only H) (hS : SqL K H a (ns.map V.int)) (e : sem [.fz (.lst (ns.map D.int))] = some (.val (.bl true))) :
    spScript K sem [.ref a] H (fun v _ => v = .bl true) E := by
  refine ⟨a, ns, rfl, ?_, e, fun _ => rfl⟩
  rcases hS with (h | ⟨o, h⟩) | h
  · rcases hO a with z | ⟨o, xs, z⟩
    · rw [z] at h; cases h
    · rw [z] at h; cases h
  · exact .inl ⟨o, h⟩
  · exact .inr h
/-- .. where tables of code objects are known -/
def spScriptT (W : Wd) (sem : List Sl → Option R) : Sp := fun vs H Q _ => ∃ (a : Addr) (ns : List Int), vs = [.ref a] ∧ LamX.Tabs W.T H ∧ SqL W.K H a (ns.map V.int) ∧ sem [.fz (.lst (ns.map D.int))] = some (.val (.bl true)) ∧ sem [.vw (ns.map D.int)] = some (.val (.bl true)) ∧ ∀ H', Q (.bl true) H'
theorem script_okT {W : Wd} {P : Program} {w : World} {K : PySem.W.Frag} {mg : Str → Option Value} {base : Heap} {k : Nat} {f : Addr} {fd : FuncData} {ps : List Str} {sem : List Sl → Option R}
    (F : FnOk P w K mg base CX0 k f fd ps (spOf W sem)) : FnOk P w K mg base CX0 k f fd ps (spScriptT W sem) :=
  F.imp fun vs H Q E ⟨a, ns, e, hT, hs, h1, h2, q⟩ => by
    subst e
    rcases hs with (h | ⟨o, h⟩) | h
    · refine ⟨[.vw (ns.map D.int)], _, .cons ?_ (fun _ z => by cases z) (.nil hT), h2, rfl, fun v H' s r => by rw [rel_blE r]; exact q H'⟩
      exact ⟨a, _, rfl, h, reps_ints ns⟩
    · refine ⟨[.fz (.lst (ns.map D.int))], _, .cons ?_ (fun _ z => by cases z) (.nil hT), h1, rfl, fun v H' s r => by rw [rel_blE r]; exact q H'⟩
      show Rep W H _ _
      simp only [Rep]
      exact ⟨a, _, rfl, .inl ⟨o, h⟩, reps_ints ns⟩
    · refine ⟨[.fz (.lst (ns.map D.int))], _, .cons ?_ (fun _ z => by cases z) (.nil hT), h1, rfl, fun v H' s r => by rw [rel_blE r]; exact q H'⟩
      show Rep W H _ _
      simp only [Rep]
      exact ⟨a, _, rfl, .inr h, reps_ints ns⟩
section
variable (G : Gm) (env : Env)
@[simp] theorem ev_lset (a) : ev G (.lset a) env = match ev G a env with
    | some x => (match x.data with
      | .lst ds => (match strsD ds with
        | some xs => if xs.length ≤ 4000 then some (.val (.int ((ddl [] xs).length : Nat))) else none
        | none => none)
      | _ => none)
    | none => none := by first | (rw [ev]; done) | (rw [ev]; rfl)
@[simp] theorem ev_step (a lo k) : ev G (.step a lo k) env = match ev G a env with
    | some x => match ev G lo env with
      | some (.val (.int i)) => (match x.data with
        | .lst ds => if 0 ≤ i then some (.fresh (stepL k ds.length (ds.drop i.toNat))) else none
        | _ => none)
      | _ => none
    | none => none := by first | (rw [ev]; done) | (rw [ev]; rfl)
@[simp] theorem ev_sortl (a) : ev G (.sortl a) env = match ev G a env with
    | some x => (match x.data with
      | .lst ds => (match lensD ds with
        | some xs => if xs.length ≤ 4000 then some (.fresh ((sortL xs).map (·.2))) else none
        | none => none)
      | _ => none)
    | none => none := by first | (rw [ev]; done) | (rw [ev]; rfl)
@[simp] theorem ev_new (c es) : ev G (.new c es) env = match evV G es env with
    | some ds => some (.val (.ins c ds))
    | none => none := by first | (rw [ev]; done) | (rw [ev]; rfl)
@[simp] theorem ev_fld (a c i) : ev G (.fld a c i) env = match ev G a env with
    | some (.val (.ins c' fs)) => if c' = c then (fs[i]?).map .val else none
    | _ => none := by first | (rw [ev]; done) | (rw [ev]; rfl)
@[simp] theorem ev_mcall (m tb a es) : ev G (.mcall m tb a es) env = match ev G a env with
    | some (.val (.ins c fs)) => match evA G es env with
      | some as => (match tb.lookup c with
        | some f => (match G f with
          | some sem => (match sem (.fz (.ins c fs) :: as) with
            | some r => if r.plain then some r else none
            | none => none)
          | none => none)
        | none => none)
      | none => none
    | _ => none := by first | (rw [ev]; done) | (rw [ev]; rfl)
@[simp] theorem ev_isic (a c tb) : ev G (.isic a c tb) env = match ev G a env with
    | some (.val (.ins c _)) => (tb.lookup c).map fun k => .val (.bl k)
    | _ => none := by first | (rw [ev]; done) | (rw [ev]; rfl)
@[simp] theorem ev_repl (s k a x y) : ev G (.repl s k a x y) env = match env[s]?, env[a]? with
    | some (some (.fz (.int i))), some (some (.fz (.str l))) => if l.length ≤ 1000 then some (.val (.str (if i < (k : Int) then repl1 x y l else l))) else none
    | _, _ => none := by first | (rw [ev]; done) | (rw [ev]; rfl)
@[simp] theorem ev_revs (a) : ev G (.revs a) env = match ev G a env with
    | some (.val (.str l)) => if l.length ≤ LINE then some (.val (.str l.reverse)) else none
    | _ => none := by first | (rw [ev]; done) | (rw [ev]; rfl)
@[simp] theorem ev_rev (a) : ev G (.rev a) env = match ev G a env with
    | some x => (match x.data with
      | .lst ds => some (.fresh ds.reverse)
      | _ => none)
    | none => none := by first | (rw [ev]; done) | (rw [ev]; rfl)
theorem exec_while (n c b) : exec G (.while n c b) env = whileLoop (ev G c) (execs G b) n env := by first | (rw [exec]; done) | (rw [exec]; rfl)
end
theorem q_call0 {G : Gm} {env : Env} {f : Nat} (sem) (r : R) (h2 : G f = some sem) (h3 : sem [] = some r) (h4 : r.plain = true) : ev G (.call0 f) env = some r := by
  rw [ev, h2]; simp only [h3, h4, if_true]
theorem q_lam {G : Gm} {env : Env} {j : Nat} : ev G (.lam j) env = some (.val (.lam j)) := by rw [ev]
theorem q_dict1 {G : Gm} {env : Env} {k i} : ev G (.dict1 k i) env = some (.val .dic) := by rw [ev]
theorem q_rep {G : Gm} {env : Env} {a k : E} (ds : List D) (j : Int) (h : ev G a env = some (.fresh ds)) (h2 : ev G k env = some (.val (.int j))) (h3 : 0 ≤ j ∧ j ≤ 1000 ∧ ds.length ≤ 1000) : ev G (.rep a k) env = some (.fresh (List.replicate j.toNat ds).flatten) := by
  rw [ev, h]; simp only [h2, h3, and_self, if_true]
theorem q_calll {G : Gm} {env : Env} {i : Nat} {tl : List Nat} {es} (f : Nat) (as : List Sl) (sem) (r : R) (h0 : env[i]? = some (some (.fz (.lam f)))) (hf : f ∈ tl) (h1 : evA G es env = some as) (h2 : G f = some sem) (h3 : sem as = some r) (h4 : r.plain = true) : ev G (.calll i tl es) env = some r := by
  rw [ev, h0]; simp only [hf, if_true, h1, h2, h3, h4]
theorem q_new {G : Gm} {env : Env} {c es} (ds : List D) (h : evV G es env = some ds) : ev G (.new c es) env = some (.val (.ins c ds)) := by rw [ev_new, h]
theorem q_fld {G : Gm} {env : Env} {a c i} (fs : List D) (d : D) (h : ev G a env = some (.val (.ins c fs))) (h2 : fs[i]? = some d) : ev G (.fld a c i) env = some (.val d) := by rw [ev_fld, h]; simp [h2]
theorem q_mcall {G : Gm} {env : Env} {m tb a es} (c : Nat) (fs : List D) (as : List Sl) (f : Nat) (sem) (r : R) (h0 : ev G a env = some (.val (.ins c fs))) (h1 : evA G es env = some as) (ht : tb.lookup c = some f) (h2 : G f = some sem) (h3 : sem (.fz (.ins c fs) :: as) = some r) (h4 : r.plain = true) :
    ev G (.mcall m tb a es) env = some r := by rw [ev_mcall, h0]; simp only [h1, ht, h2, h3, h4, if_true]
theorem q_ite1 {G : Gm} {env : Env} {c a b r} (h : ev G c env = some (.val (.bl true))) (h2 : ev G a env = r) : ev G (.ite c a b) env = r := by rw [ev_ite, h]; exact h2
theorem q_ite0 {G : Gm} {env : Env} {c a b r} (h : ev G c env = some (.val (.bl false))) (h2 : ev G b env = r) : ev G (.ite c a b) env = r := by rw [ev_ite, h]; exact h2
theorem q_ex {G : Gm} {env : Env} {e} (r : R) (h : ev G e env = some r) : exec G (.ex e) env = some (.next env) := by rw [exec_ex, h]
theorem q_slot {G : Gm} {env : Env} {i} (d : D) (h : env[i]? = some (some (.fz d))) : ev G (.slot i) env = some (.val d) := by rw [ev_slot, h]
theorem q_unp {G : Gm} {env env' : Env} {is e} (ds : List D) (h : ev G e env = some (.val (.tup ds))) (h2 : setAll env is ds = some env') : exec G (.unp is e) env = some (.next env') := by rw [exec_unp, h]; simp [h2]
end Mc
namespace Mc
open PySem PySem.Spec PyProof.Rows L2
/-! ### what is raised: the class's number -/
def Xm := Nat → Option (List Sl → Option Nat)
def Xm.nil : Xm := fun _ => none
def Xm.add (Z : Xm) (n : Nat) (xs : List Sl → Option Nat) : Xm := fun i => if i = n then some xs else Z i
def xcall (G : Gm) (Z : Xm) (f : Nat) (es : Es) (env : Env) : Option Nat := match evA G es env with
  | some as => (match Z f with
    | some xs => xs as
    | none => none)
  | none => none
def xev (G : Gm) (Z : Xm) : E → Env → Option Nat
  | .call f es, env => xcall G Z f es env
  | .callv i tb es, env => match env[i]? with
    | some (some (.fz (.fn f))) => if f ∈ tb then xcall G Z f es env else none
    | _ => none
  | .calll i tl es, env => match env[i]? with
    | some (some (.fz (.lam f))) => if f ∈ tl then xcall G Z f es env else none
    | _ => none
  | .ite c a b, env => match ev G c env with
    | some (.val (.bl true)) => xev G Z a env
    | some (.val (.bl false)) => xev G Z b env
    | _ => none
  | _, _ => none
mutual
def xexec (G : Gm) (Z : Xm) : S → Env → Option Nat
  | .rais c _, _ => some c
  | .ex e, env => xev G Z e env
  | .ret e, env => xev G Z e env
  | .ife c a b, env => match ev G c env with
    | some (.val (.bl true)) => xexecs G Z a env
    | some (.val (.bl false)) => xexecs G Z b env
    | _ => none
  | _, _ => none
def xexecs (G : Gm) (Z : Xm) : Ss → Env → Option Nat
  | .nil, _ => none
  | .cons s ss, env => match xexec G Z s env with
    | some c => some c
    | none => match exec G s env with
      | some (.next env') => xexecs G Z ss env'
      | _ => none
  | .frz i ss, env => xexecs G Z ss (freeze i env)
end
def xrun (G : Gm) (Z : Xm) (ar n : Nat) (body : Ss) (as : List Sl) : Option Nat :=
  if as.length = ar then xexecs G Z body (as.map some ++ List.replicate (n - as.length) none) else none
/-- the promise of a def that may raise -/
def spX (W : Wd) (sem : List Sl → Option R) (xs : List Sl → Option Nat) : Sp := fun vs H Q E =>
  spOf W sem vs H Q E ∨ ∃ as c, ArgL W H as vs ∧ xs as = some c ∧ ∀ H', Same W H H' → E (.ref (W.ex c)) none H'
/-- what is known of an own exception class -/
structure ExcK (K : PySem.W.Frag) (mg : Str → Option Value) (x : Str) (C : Addr) : Prop where
  gC : mg x = some (.ref C)
  kC : PySem.W.keepIn K (.ref C) = true
  ei : PySem.W.excIn K C [.type "ValueError", .type "Exception", .type "BaseException", .type "object"] "ValueError.__new__" = true
  sb : PySem.W.subIn K (.ref C) (.type "BaseException") = some true
  ty : PySem.W.typeIn K (.ref C) = some (.type "type")
structure CokX (W : Wd) (g : Gi) (G : Gm) (Z : Xm) (T : Tc) (X : Cx) : Prop where
  c : Cok W g G T X.nox
  xf : ∀ (f : Nat) (x : Str) (xs : List Sl → Option Nat), g.fns[f]? = some x → Z f = some xs → ∃ (k : Nat) (ad : Addr) (fd : FuncData) (ps : List Str) (sem : List Sl → Option R),
    Room k X.A ∧ X.mg x = some (.ref ad) ∧ PySem.W.keepIn X.K (.ref ad) = true ∧ Binds X.K fd ps [] ∧ FnOk X.prog X.w X.K X.mg X.base (L2N.CX X.prog X.w) k ad fd ps (spX W sem xs)
  ex : ∀ (n : Nat) (x : Str), g.exs.lookup n = some x → ExcK X.K X.mg x (W.ex n)
  xl : ∀ (f : Nat) (xs : List Sl → Option Nat), f ∈ g.lams → Z f = some xs → ∃ (k : Nat) (sem : List Sl → Option R), Room k X.A ∧ ∀ q params body scope, W.lam f q params body scope → LamOk X.prog X.w X.K X.mg X.base (L2N.CX X.prog X.w) k q params body scope (spX W sem xs)
section
variable {X : Cx}
theorem PA.nox {es : List Expr} {t : TA} (h : PA X.nox es t) : PA X es t := ⟨fun pos pins s σ H Q I hw =>
  wpAny_mono (h.run pos pins s σ H Q (I.wish _) hw) (fun _ _ ⟨v, H', I', r, q⟩ => ⟨v, H', I'.unwish, r, q⟩) (fun _ _ z => z.elim)⟩
theorem PS.nox {st : Stmt} {t : TS} (h : PS X.nox st t) : PS X st t := ⟨fun pins s σ H D I hw =>
  wpAny_mono (h.run pins s σ H D (I.wish _) hw) (fun _ _ q => SP.unwish q) (fun _ _ z => z.elim)⟩
/-- a call of the def that the i-th slot holds; it may raise -/
theorem pe_callLS {CX : CXT} {k i : Nat} {f : Addr} {fd : FuncData} {ps : List Str} {sp : Sp} {E : L2.St → XK} {x : Str} {p pos : Pos} {e : Expr} {es : List Expr} {t : TA}
    (F : FnOk X.prog X.w X.K X.mg X.base CX k f fd ps sp) (hr : Room k X.A) (hN : X.N[i]? = some x) (hv : Vis X.env.scope x) (hk : PySem.W.keepIn X.K (.ref f) = true) (hb : Binds X.K fd ps []) (hx : ∀ σ, PassesAt CX X σ (E σ)) (ha : PA X (e :: es) t)
    (hdb : (x == ("__debug__" : Str)) = false) (hcd : (x == ("__classdict__" : Str)) = false) (he : starEach (e :: es) X.env = (false, eval e X.env) :: starEach es X.env) (hpl : (backTo pos (starEach es X.env)).any (·.1) = false) :
    PE X (.Call (.Name x p) (e :: es) [] pos) (fun σ H Q => σ[i]? = some (some (.ref f)) ∧ tCallS sp E t σ H Q) := by
  refine ⟨fun pins s σ H Q I h => ?_⟩
  obtain ⟨hs, ht⟩ := h
  refine wpAny_Call_Name_kw (thn ((pe_var (pos := p) hN hv hdb hcd).run pins s σ H (fun v H1 => v = .ref f ∧ H1 = H) I ⟨.ref f, hs, rfl, rfl⟩) fun u s1 ⟨v, H1, I1, r1, q1⟩ => ?_)
  obtain ⟨e1, e2⟩ := q1
  subst e1 e2
  cases r1
  refine PySem.W.callWith_K (h₀ := X.base) I.ok.mod.kin hk (thn (ha.run pos pins s1 σ _ _ I1 ht) fun us s2 ⟨vs, H2, I2, r, q⟩ => ?_) he hpl
  exact ⟨I2.kIn, run_fnS F hr hb (hx σ) I2 r q⟩
end
section
variable {W : Wd} {g : Gi} {G : Gm} {Z : Xm}
def tX (W : Wd) (Hin : Hp) (f : Env → Option Nat) (Wc : WX) : TE := fun σ H _ => ∃ env c, StR W Hin H σ env ∧ f env = some c ∧ ∀ H', Same W Hin H' → Wc (.ref (W.ex c)) none σ H'
def tXS (W : Wd) (Hin : Hp) (f : Env → Option Nat) (Wc : WX) : TS := fun _ σ H => ∃ env c, StR W Hin H σ env ∧ f env = some c ∧ ∀ σ' H', Same W Hin H' → Wc (.ref (W.ex c)) none σ' H'
def SX (W : Wd) (g : Gi) (G : Gm) (Z : Xm) (e : E) : Prop := ∀ (Hin : Hp) (T : Tc) (X : Cx) (pe : Expr) (Wc : WX), okE g T e pe = true → CokX W g G Z T X → L2N.Takes X Wc → PE X pe (tX W Hin (xev G Z e) Wc)
theorem sx_no {e : E} (h : ∀ env, xev G Z e env = none) : SX W g G Z e := fun Hin T X pe Wc _ _ _ => ⟨fun pins s σ H Q I ⟨env, c, _, e, _⟩ => by rw [h] at e; cases e⟩
theorem sx_call (f : Nat) (es : Es) : SX W g G Z (.call f es) := by
  intro Hin T X pe Wc h c tk
  cases es with
  | nil => cases pe <;> (simp only [okE] at h; cases h)
  | cons e0 es0 =>
    unfold okE at h
    split at h <;> try (cases h; done)
    all_goals try contradiction
    rename_i f' e' es' x p xs pos heq
    cases heq
    simp only [Bool.and_eq_true, decide_eq_true_eq] at h
    obtain ⟨⟨⟨h1, h2⟩, h3⟩, h4⟩ := h
    have pd := plain_dbg h3
    cases xs with
    | nil => simp only [okEs] at h4; cases h4
    | cons y ys =>
      have ns := okEs_star h4
      have hst : starEach (y :: ys) X.env = (false, eval y X.env) :: starEach ys X.env := star_ok (ns y List.mem_cons_self)
      have hpl : ∀ pos, (backTo pos (starEach ys X.env)).any (·.1) = false := fun pos => noany fun z hz => ns z (List.mem_cons_of_mem _ hz)
      cases hZ : Z f with
      | none =>
        refine ⟨fun pins s σ H Q I ⟨env, cc, st, e, q⟩ => ?_⟩
        simp only [xev, xcall, hZ] at e
        split at e <;> cases e
      | some xm =>
        obtain ⟨k, ad, fd, ps, sem, hr, hm, hk, hb, F⟩ := c.xf f x xm h1 hZ
        refine PE.mono (pe_callS (E := WE Wc) F hr (c.c.gl h2) hm hk hb (fun σ => L2N.passAt tk σ) (PA.nox ((snd_Es (.cons e0 es0)).a Hin T X.nox _ h4 c.c)) pd.1 hst (hpl _)) fun σ H Q ⟨env, cc, st, e, q⟩ => ?_
        simp only [xev, xcall, hZ] at e
        split at e <;> try (cases e; done)
        rename_i as e1
        exact ⟨env, as, st, e1, fun vs H' s ra => .inr ⟨as, cc, ra, e, fun H'' s2 => q H'' (st.same.trans (s.trans s2))⟩⟩
theorem sx_callv (i : Nat) (tb : List Nat) (es : Es) : SX W g G Z (.callv i tb es) := by
  intro Hin T X pe Wc h c tk
  cases es with
  | nil => cases pe <;> (simp only [okE] at h; cases h)
  | cons e0 es0 =>
    unfold okE at h
    split at h <;> try (cases h; done)
    all_goals try contradiction
    rename_i i' tb' e' es' x p xs pos heq
    cases heq
    simp only [Bool.and_eq_true, decide_eq_true_eq] at h
    obtain ⟨⟨⟨⟨h1, h2⟩, h3⟩, h4⟩, h5⟩ := h
    have pd := plain_dbg h3
    cases xs with
    | nil => simp only [okEs] at h4; cases h4
    | cons y ys =>
      have ns := okEs_star h4
      have hst : starEach (y :: ys) X.env = (false, eval y X.env) :: starEach ys X.env := star_ok (ns y List.mem_cons_self)
      have hpl : ∀ pos, (backTo pos (starEach ys X.env)).any (·.1) = false := fun pos => noany fun z hz => ns z (List.mem_cons_of_mem _ hz)
      refine ⟨fun pins s σ H Q I ⟨env, cc, st, e, q⟩ => ?_⟩
      simp only [xev] at e
      split at e <;> try (cases e; done)
      rename_i f eq0
      split at e <;> try (cases e; done)
      rename_i hf
      unfold xcall at e
      split at e <;> try (cases e; done)
      rename_i as e1
      split at e <;> try (cases e; done)
      rename_i xm hZ
      have hx := List.all_eq_true.1 h5 f hf
      simp only [Bool.and_eq_true, decide_eq_true_eq, Option.isSome_iff_exists] at hx
      obtain ⟨⟨z, hz⟩, hz2⟩ := hx
      obtain ⟨k, ad, fd, ps, sem, hr, hm, hk, hb, F⟩ := c.xf f z xm (by rw [← hz2, hz]) hZ
      have hv : X.mg z = some (.ref (W.fn f)) := (c.c.fvs f z hz).1
      rw [hm] at hv
      have ead : ad = W.fn f := by injection hv with hv; injection hv
      obtain ⟨v0, hs0, rs0⟩ := st.rel i _ eq0
      have rs0 : Rep W H (.fn f) v0 := rs0
      simp only [Rep] at rs0
      subst rs0
      have hN : X.N[i]? = some x := by have := c.c.N; rw [show X.N = T.N from this]; exact h1
      refine (pe_callLS (i := i) (f := ad) (E := WE Wc) F hr hN (c.c.vis h2) hk hb (fun σ => L2N.passAt tk σ) (PA.nox ((snd_Es (.cons e0 es0)).a Hin T X.nox _ h4 c.c)) pd.1 pd.2.1 hst (hpl _)).run pins s σ H Q I ⟨by rw [ead]; exact hs0, ?_⟩
      exact ⟨env, as, st, e1, fun vs H' s ra => .inr ⟨as, cc, ra, e, fun H'' s2 => q H'' (st.same.trans (s.trans s2))⟩⟩
theorem sx_calll (i : Nat) (tb : List Nat) (es : Es) : SX W g G Z (.calll i tb es) := by
  intro Hin T X pe Wc h c tk
  cases es with
  | nil => cases pe <;> (simp only [okE] at h; cases h)
  | cons e0 es0 =>
    unfold okE at h
    split at h <;> try (cases h; done)
    all_goals try contradiction
    rename_i i' tb' e' es' x p xs pos heq
    cases heq
    simp only [Bool.and_eq_true, decide_eq_true_eq] at h
    obtain ⟨⟨⟨⟨h1, h2⟩, h3⟩, h4⟩, h5⟩ := h
    have pd := plain_dbg h3
    cases xs with
    | nil => simp only [okEs] at h4; cases h4
    | cons y ys =>
      have ns := okEs_star h4
      have hst : starEach (y :: ys) X.env = (false, eval y X.env) :: starEach ys X.env := star_ok (ns y List.mem_cons_self)
      have hpl : ∀ pos, (backTo pos (starEach ys X.env)).any (·.1) = false := fun pos => noany fun z hz => ns z (List.mem_cons_of_mem _ hz)
      refine ⟨fun pins s σ H Q I ⟨env, cc, st, e, q⟩ => ?_⟩
      simp only [xev] at e
      split at e <;> try (cases e; done)
      rename_i f eq0
      split at e <;> try (cases e; done)
      rename_i hf
      unfold xcall at e
      split at e <;> try (cases e; done)
      rename_i as e1
      split at e <;> try (cases e; done)
      rename_i xm hZ
      have hx := List.all_eq_true.1 h5 f hf
      simp only [decide_eq_true_eq] at hx
      obtain ⟨k, sem, hr, F⟩ := c.xl f xm hx hZ
      obtain ⟨v0, hs0, rs0⟩ := st.rel i _ eq0
      have rs0 : Rep W H (.lam f) v0 := rs0
      simp only [Rep] at rs0
      obtain ⟨a, ca, q0, params, body, scope, rfl, wl, ha, hca⟩ := rs0
      have hN : X.N[i]? = some x := by have := c.c.N; rw [show X.N = T.N from this]; exact h1
      refine (pe_callM (W := W) (i := i) (a := a) (c := ca) (E := WE Wc) (F _ _ _ _ wl) hr hN (c.c.vis h2) (fun σ => L2N.passAt tk σ) (PA.nox ((snd_Es (.cons e0 es0)).a Hin T X.nox _ h4 c.c)) pd.1 pd.2.1 hst (hpl _)).run pins s σ H Q I ⟨hs0, ha, ?_⟩
      exact ⟨env, as, st, e1, fun vs H' s ra => ⟨s.at _ _ ha, s.at _ _ hca, .inr ⟨as, cc, ra, e, fun H'' s2 => q H'' (st.same.trans (s.trans s2))⟩⟩⟩
theorem sx_ite (t a b : E) (ha : SX W g G Z a) (hb : SX W g G Z b) : SX W g G Z (.ite t a b) := by
  intro Hin T X pe Wc h c tk
  cases pe <;> try (simp only [okE] at h; cases h; done)
  simp only [okE, Bool.and_eq_true] at h
  obtain ⟨⟨⟨h1, h2⟩, h3⟩, h4⟩ := h
  refine PE.mono (pe_ifExp (PT.nox ((snd_E t Hin T X.nox _ h1 c.c).2 h2)) (ha Hin T X _ Wc h3 c tk) (hb Hin T X _ Wc h4 c tk)) fun σ H Q ⟨env, cc, st, e, q⟩ => ?_
  simp only [xev] at e
  split at e <;> try (cases e; done)
  · rename_i e1
    exact ⟨env, true, st, e1, fun H' s => iteT ⟨env, cc, st.mono s, e, q⟩⟩
  · rename_i e1
    exact ⟨env, false, st, e1, fun H' s => iteF ⟨env, cc, st.mono s, e, q⟩⟩
theorem sx_E : ∀ e : E, SX W g G Z e
  | .call f es => sx_call f es
  | .callv i tb es => sx_callv i tb es
  | .calll i tl es => sx_calll i tl es
  | .ite c a b => sx_ite c a b (sx_E a) (sx_E b)
  | .slot _ | .int _ | .str _ | .bl _ | .non | .gint _ _ | .bin _ _ _ | .neg _ | .cmp _ _ _ | .chain _ _ _ _ _ | .and _ | .or _ | .not _ | .lst _ | .tup _ | .sub _ _ | .slice _ _ _ | .rev _ | .bi _ _ | .meth _ _ _ | .lc _ _ _ _ | .isi _ _ | .lset _ | .step _ _ _ | .sortl _ | .new _ _ | .fld _ _ _ | .mcall _ _ _ _ | .isic _ _ _ | .repl _ _ _ _ _ | .revs _ | .fnv _ _ | .dict0 | .call0 _ | .lam _ | .dict1 _ _ | .rep _ _ => sx_no fun env => by simp only [xev]
end
end Mc
namespace Mc
open PySem PySem.Spec PyProof.Rows L2
section
variable {W : Wd} {g : Gi} {G : Gm} {Z : Xm}
def SXt (W : Wd) (g : Gi) (G : Gm) (Z : Xm) (s : S) : Prop := ∀ (Hin : Hp) (T : Tc) (X : Cx) (st : Stmt) (Wc : WX), okS g T s st = true → T.sc.kind = .function → CokX W g G Z T X → L2N.Takes X Wc → PS X st (tXS W Hin (xexec G Z s) Wc)
def SXs (W : Wd) (g : Gi) (G : Gm) (Z : Xm) (s : Ss) : Prop := ∀ (Hin : Hp) (T : Tc) (X : Cx) (st : List Stmt) (Wc : WX), okSs g T s st = true → T.sc.kind = .function → CokX W g G Z T X → L2N.Takes X Wc → PSs X st (tXS W Hin (xexecs G Z s) Wc)
theorem xt_no {s : S} (h : ∀ env, xexec G Z s env = none) : SXt W g G Z s := fun Hin T X st Wc _ _ _ _ => ⟨fun pins s σ H D I ⟨env, c, _, e, _⟩ => by rw [h] at e; cases e⟩
theorem xt_rais (n : Nat) (x : Str) : SXt W g G Z (.rais n x) := by
  intro Hin T X st Wc h hk c tk
  unfold okS at h
  split at h <;> try (cases h; done)
  all_goals try contradiction
  rename_i n' x' y py m j pc pos1 pos2 heq
  cases heq
  simp only [Bool.and_eq_true, decide_eq_true_eq] at h
  obtain ⟨⟨⟨rfl, h2⟩, h3⟩, h4⟩ := h
  have pd := plain_dbg h3
  have k := c.ex _ _ h4
  refine PS.mono (L2N.ps_raise c.c.calm tk (L2N.pmk_own PySem.F.excBase_ValueError k.ei k.gC k.kC (raises_own k.sb k.ty) (c.c.gl h2) pd.1)) fun D σ H ⟨env, cc, st, e, q⟩ => ?_
  simp only [xexec] at e
  cases e
  exact q σ H st.same
theorem xt_ex (e : E) : SXt W g G Z (.ex e) := by
  intro Hin T X st Wc h hk c tk
  unfold okS at h
  split at h <;> try (cases h; done)
  all_goals try contradiction
  rename_i e' v pos heq
  cases heq
  simp only [Bool.and_eq_true] at h
  refine PS.mono (ps_expr (sx_E e Hin T X v Wc h.1 c tk) (swap_no h.2)) fun D σ H ⟨env, cc, st, ex, q⟩ => ?_
  exact ⟨env, cc, st, by simpa only [xexec] using ex, fun H' s => q σ H' s⟩
theorem xt_ret (e : E) : SXt W g G Z (.ret e) := by
  intro Hin T X st Wc h hk c tk
  unfold okS at h
  split at h <;> try (cases h; done)
  all_goals try contradiction
  rename_i e' v pos heq
  cases heq
  refine PS.mono (ps_ret (sx_E e Hin T X v Wc h c tk)) fun D σ H ⟨env, cc, st, ex, q⟩ => ?_
  exact ⟨env, cc, st, by simpa only [xexec] using ex, fun H' s => q σ H' s⟩
theorem xt_ife (t : E) (a b : Ss) (ha : SXs W g G Z a) (hb : SXs W g G Z b) : SXt W g G Z (.ife t a b) := by
  intro Hin T X st Wc h hk c tk
  unfold okS at h
  split at h <;> try (cases h; done)
  all_goals try contradiction
  rename_i t' a' b' pt xs ys pos heq
  cases heq
  simp only [Bool.and_eq_true] at h
  obtain ⟨⟨⟨h1, h2⟩, h3⟩, h4⟩ := h
  refine PS.mono (ps_if (PT.nox ((snd_E t Hin T X.nox pt h1 c.c).2 h2)) (ha Hin T X xs Wc h3 hk c tk) (hb Hin T X ys Wc h4 hk c tk)) fun D σ H ⟨env, cc, st, e, q⟩ => ?_
  simp only [xexec] at e
  split at e <;> try (cases e; done)
  · rename_i e1
    exact ⟨env, true, st, e1, fun H' s => iteT ⟨env, cc, st.mono s, e, q⟩⟩
  · rename_i e1
    exact ⟨env, false, st, e1, fun H' s => iteF ⟨env, cc, st.mono s, e, q⟩⟩
theorem xs_nil : SXs W g G Z .nil := fun Hin T X st Wc _ _ _ _ => ⟨fun pins s σ H D I ⟨env, c, _, e, _⟩ => by simp only [xexecs] at e; cases e⟩
theorem xs_cons (s : S) (ss : Ss) (hs : SXt W g G Z s) (hss : SXs W g G Z ss) : SXs W g G Z (.cons s ss) := by
  intro Hin T X st Wc h hk c tk
  cases st with
  | nil => simp only [okSs] at h; cases h
  | cons x xs =>
    simp only [okSs, Bool.and_eq_true] at h
    refine ⟨fun pins s0 σ H D I ⟨env, cc, st, e, q⟩ => ?_⟩
    simp only [xexecs] at e
    split at e
    · rename_i c0 e1
      cases e
      exact (pss_cons (hs Hin T X x Wc h.1 hk c tk) (hss Hin T X xs Wc h.2 hk c tk)).run pins s0 σ H D I ⟨env, cc, st, e1, q⟩
    · split at e <;> try (cases e; done)
      rename_i env' e1
      refine (pss_cons (PS.nox (snd_St s Hin T X.nox x h.1 hk c.c)) (hss Hin T X xs Wc h.2 hk c tk)).run pins s0 σ H D I ⟨env, .next env', st, e1, fun σ' H' f st' _ => ?_⟩
      exact ⟨env', cc, st', e, q⟩
theorem xs_frz (i : Nat) (ss : Ss) (hss : SXs W g G Z ss) : SXs W g G Z (.frz i ss) := by
  intro Hin T X st Wc h hk c tk
  simp only [okSs] at h
  refine PSs.mono (PSs.unfree (hss Hin T X st Wc h hk c tk)) fun D σ H ⟨env, cc, st, e, q⟩ => ?_
  simp only [xexecs] at e
  unfold freeze at e
  split at e
  · rename_i ds e1
    obtain ⟨a, vs, h1, h2⟩ := st.frzOwn e1
    exact .inr ⟨a, vs, h1, fun ob => ⟨_, cc, h2 ob, e, q⟩⟩
  · exact .inl ⟨env, cc, st, e, q⟩
mutual
theorem sx_St : ∀ s : S, SXt W g G Z s
  | .rais n x => xt_rais n x
  | .ex e => xt_ex e
  | .ret e => xt_ret e
  | .ife c a b => xt_ife c a b (sx_Ss a) (sx_Ss b)
  | .asg _ _ _ | .par _ _ _ | .unp _ _ | .aug _ _ _ | .app _ _ | .pop _ | .seti _ _ _ | .for _ _ _ | .while _ _ _ | .stop | .rvs _ | .mcal _ _ _ | .mcalE _ _ => xt_no fun env => by simp only [xexec]
theorem sx_Ss : ∀ s : Ss, SXs W g G Z s
  | .nil => xs_nil
  | .cons s ss => xs_cons s ss (sx_St s) (sx_Ss ss)
  | .frz i ss => xs_frz i ss (sx_Ss ss)
end
/-- what is known around, of what raises -/
structure AroundX (W : Wd) (g : Gi) (Z : Xm) (P : Program) (w : World) (K : PySem.W.Frag) (mg : Str → Option Value) (base : Heap) (k : Nat) : Prop where
  xf : ∀ (f : Nat) (x : Str) (xs : List Sl → Option Nat), g.fns[f]? = some x → Z f = some xs → ∃ (j : Nat) (ad : Addr) (fd : FuncData) (ps : List Str) (sem : List Sl → Option R),
    j ≤ k ∧ mg x = some (.ref ad) ∧ PySem.W.keepIn K (.ref ad) = true ∧ Binds K fd ps [] ∧ FnOk P w K mg base (L2N.CX P w) j ad fd ps (spX W sem xs)
  ex : ∀ (n : Nat) (x : Str), g.exs.lookup n = some x → ExcK K mg x (W.ex n)
  xl : ∀ (f : Nat) (xs : List Sl → Option Nat), f ∈ g.lams → Z f = some xs → ∃ (j : Nat) (sem : List Sl → Option R), j ≤ k ∧ ∀ q params body scope, W.lam f q params body scope → LamOk P w K mg base (L2N.CX P w) j q params body scope (spX W sem xs)
variable {P : Program} {w : World} {K : PySem.W.Frag} {mg : Str → Option Value} {base : Heap}
/-- the promise of a def that may raise -/
theorem okXN {x qual : Str} {st : Stmt} {f : Addr} {fd : FuncData} {N ps : List Str} {k : Nat} {sp : Sp} (F : Fun K x qual st f fd) (S : FnScope N ps (defScope st)) (len : ∀ vs H Q E, sp vs H Q E → vs.length = ps.length)
    (hbody : ∀ (cdv : Value) (A : Around) (outer : List PySem.Env) (s : Shared) (H : Hp) (vs : List V) (Q : VK) (E : XK), Room k (A.deeper (envOfC qual (defScope st) s.heap.objs.size f cdv)) → sp vs H Q E →
      ∃ t, PSs (cxOf (L2N.CX P w) P w K mg base N qual (defScope st) f cdv A outer s H E) (defBody st) t ∧ t { nx := fun _ H' => Q .non H', rt := Q } (start N vs) H) : FnOk P w K mg base (L2N.CX P w) (k + 1) f fd ps sp := by
  obtain ⟨oc, od, kV, doc, pm, an, cdv, ct, osl, e0, lk, hcd⟩ := F.ex
  subst e0
  exact fn_of lk hcd S len fun A outer s H vs Q E hr hsp => hbody cdv A outer s H vs Q E hr hsp
/-- a def that may raise keeps what the small language tells -/
theorem fn_mcX {x qual : Str} {st : Stmt} {f : Addr} {fd : FuncData} {N ps : List Str} {k : Nat} {body : Ss} (hK : K = W.K) (F : Fun K x qual st f fd) (S : FnScope N ps (defScope st))
    (hok : okSs g ⟨N, defScope st, defScope st, false⟩ body (defBody st) = true) (A : Around_ W g G P w K mg base k) (B : AroundX W g Z P w K mg base k) :
    FnOk P w K mg base (L2N.CX P w) (k + 1) f fd ps (spX W (run G ps.length N.length body) (xrun G Z ps.length N.length body)) := by
  refine okXN F S (fun vs H Q E h => ?_) (fun cdv A' outer s H vs Q E hr h => ?_)
  · rcases h with ⟨as, r, ra, e, _⟩ | ⟨as, c, ra, e, _⟩
    · unfold run at e
      split at e <;> try (cases e; done)
      rename_i hl
      rw [← ra.length]; exact hl
    · unfold xrun at e
      split at e <;> try (cases e; done)
      rename_i hl
      rw [← ra.length]; exact hl
  · have cok := cok_of (CX := L2N.CX P w) (outer := outer) (s := s) (H := H) (E := E) (ml := false) hK S hr A (fun z => by cases z)
    rcases h with ⟨as, r, ra, e, hp, q⟩ | ⟨as, c, ra, e, q⟩
    · unfold run at e
      split at e <;> try (cases e; done)
      refine ⟨_, PSs.nox (snd_Ss body H ⟨N, defScope st, defScope st, false⟩ _ (defBody st) hok S.kind cok), ?_⟩
      split at e <;> try (cases e; done)
      · rename_i r' e1
        cases e
        exact ⟨_, .ret r, st_start ra, e1, fun v H' s hp rr => q v H' s rr⟩
      · rename_i env' e1
        cases e
        exact ⟨_, .next env', st_start ra, e1, fun σ' H' _ st' _ => q .non H' st'.same (rep_non : Rep W H' .non .non)⟩
    · unfold xrun at e
      split at e <;> try (cases e; done)
      have cokx : CokX W g G Z ⟨N, defScope st, defScope st, false⟩ (cxOf (L2N.CX P w) P w K mg base N qual (defScope st) f cdv A' outer s H E) :=
        ⟨cok, fun f x xs h1 h2 => by
          obtain ⟨j, ad, fd, ps, sem, hj, h3⟩ := B.xf f x xs h1 h2
          exact ⟨j, ad, fd, ps, sem, hr.mono hj, h3⟩, B.ex, fun f xs h1 h2 => by
          obtain ⟨j, sem, hj, h3⟩ := B.xl f xs h1 h2
          exact ⟨j, sem, hr.mono hj, h3⟩⟩
      refine ⟨_, sx_Ss body H ⟨N, defScope st, defScope st, false⟩ _ (defBody st) (fun cls d _ H' => E cls d H') hok S.kind cokx (L2N.takes_of rfl rfl rfl rfl), ?_⟩
      exact ⟨_, c, st_start ra, e, fun _ H' s => q H' s⟩
theorem xrun_ret1 {G : Gm} {Z : Xm} {ar n : Nat} {e : E} {as : List Sl} {c : Nat} (h : xrun G Z ar n (.cons (.ret e) .nil) as = some c) : as.length = ar ∧ xev G Z e (as.map some ++ List.replicate (n - as.length) none) = some c := by
  unfold xrun at h
  split at h <;> try (cases h; done)
  rename_i hl
  refine ⟨hl, ?_⟩
  simp only [xexecs, xexec] at h
  split at h
  · rename_i c0 e0
    cases h; exact e0
  · split at h <;> try (cases h; done)
/-- a lambda that may raise -/
theorem lam_mcX {N ps : List Str} {k : Nat} {e : E} {q : Str} {params : Arguments} {body : Expr} {scope : Scope} (hK : K = W.K) (S : FnScope N ps scope)
    (hb : ∀ (us : List Value) (pm cv ctv : Value), us.length = ps.length → bindArgs (PySem.W.kla_fn "<lambda>" q params body scope [] pm cv ctv) ⟨us, []⟩ = pure (ps.zip us))
    (hok : okE g ⟨N, scope, scope, false⟩ e body = true) (A : Around_ W g G P w K mg base k) (B : AroundX W g Z P w K mg base k) :
    LamOk P w K mg base (L2N.CX P w) (k + 1) q params body scope (spX W (run G ps.length N.length (.cons (.ret e) .nil)) (xrun G Z ps.length N.length (.cons (.ret e) .nil))) := by
  refine lam_of S hb (fun vs H Q E h => ?_) (fun a c A' outer s H vs Q E hr h => ?_)
  · rcases h with ⟨as, r, ra, e, _⟩ | ⟨as, c, ra, e, _⟩
    · rw [← ra.length]; exact (run_ret1 e).1
    · rw [← ra.length]; exact (xrun_ret1 e).1
  · have cok := cok_of (CX := L2N.CX P w) (outer := outer) (s := s) (H := H) (E := E) (ml := false) (f := a) (cdv := .ref c) (qual := q) hK S hr A (fun z => by cases z)
    rcases h with ⟨as, r, ra, e1, hp, qq⟩ | ⟨as, cc, ra, e1, qq⟩
    · obtain ⟨_, r0, e2, hr0⟩ := run_ret1 e1
      exact ⟨_, PE.nox (snd_E e H ⟨N, scope, scope, false⟩ _ body hok cok).1, _, r0, st_start ra, e2, fun v H' s rr => qq v H' s (hr0 _ _ _ _ rr)⟩
    · have cokx : CokX W g G Z ⟨N, scope, scope, false⟩ (cxOf (L2N.CX P w) P w K mg base N q scope a (.ref c) A' outer s H E) :=
        ⟨cok, fun f x xs h1 h2 => by
          obtain ⟨j, ad, fd, ps, sem, hj, h3⟩ := B.xf f x xs h1 h2
          exact ⟨j, ad, fd, ps, sem, hr.mono hj, h3⟩, B.ex, fun f xs h1 h2 => by
          obtain ⟨j, sem, hj, h3⟩ := B.xl f xs h1 h2
          exact ⟨j, sem, hr.mono hj, h3⟩⟩
      exact ⟨_, sx_E e H ⟨N, scope, scope, false⟩ _ body (fun cls d _ H' => E cls d H') hok cokx (L2N.takes_of rfl rfl rfl rfl), _, cc, st_start ra, (xrun_ret1 e1).2, fun H' s => qq H' s⟩
/-- where it raises nothing -/
theorem lamX_0 {q : Str} {params : Arguments} {body : Expr} {scope : Scope} {k : Nat} {sem : List Sl → Option R} {xs : List Sl → Option Nat} (F : LamOk P w K mg base (L2N.CX P w) k q params body scope (spX W sem xs)) : LamOk P w K mg base CX0 k q params body scope (spOf W sem) where
  run := fun A outer s H a c us vs Q E hr he h1 h2 r h => by
    refine codeAny_mono (F.run A outer s H a c us vs Q (fun _ _ _ => False) hr he h1 h2 r (.inl h)) fun r s' hq => ?_
    cases r with
    | error e =>
      obtain ⟨_, _, _, _, _, _, _, _, _, _, _, _, z⟩ := hq
      exact z.elim
    | ok fl => cases fl <;> exact hq
/-- where it raises nothing -/
theorem fnX_0 {f : Addr} {fd : FuncData} {ps : List Str} {k : Nat} {sem : List Sl → Option R} {xs : List Sl → Option Nat} (F : FnOk P w K mg base (L2N.CX P w) k f fd ps (spX W sem xs)) : FnOk P w K mg base CX0 k f fd ps (spOf W sem) where
  len := fun vs H Q E h => F.len vs H Q E (.inl h)
  run := fun A outer s H a us vs Q E hr he hb r h => by
    refine codeAny_mono (F.run A outer s H a us vs Q (fun _ _ _ => False) hr he hb r (.inl h)) fun r s' hq => ?_
    cases r with
    | error e =>
      obtain ⟨_, _, _, _, _, _, _, _, _, _, _, _, z⟩ := hq
      exact z.elim
    | ok fl => cases fl <;> exact hq
end
end Mc
namespace Mc
open PySem PySem.Spec PyProof.Rows L2 HotX L2H
/-- the same context, with the caught error kept in sight -/
abbrev hotX (X : Cx) (p : Addr × Obj) : Cx := { X with pn := [p] }
theorem hotX_ok {X : Cx} {p : Addr × Obj} (ok : X.Ok) : (hotX X p).Ok :=
  ⟨ok.mod, ok.kind, ok.glob, ok.blt, ok.above, ok.inj, ok.has, ok.cab, ok.hd, ok.frames, ok.stk, ok.exf, ok.bs, ok.bsz, ok.noex, ok.exfs, ok.funs, ok.frf⟩
theorem hotX_inv {X : Cx} {p : Addr × Obj} {σ : L2.St} {H : Hp} {s : Shared} (h0 : X.pn = []) (I : Inv X [] σ H s) (hp : s.heap.get? p.1 = some p.2 ∧ H p.1 = none ∧ p.1 ≠ X.env.locals ∧ p.1 ∉ X.fs ∧ ∀ v, p.2.data ≠ .cell v) : Inv (hotX X p) [] σ H s :=
  ⟨hotX_ok I.ok, I.os, I.bare, I.base, I.loc, I.cell, I.free, I.freeC, fun q hq => (by
    have hq : q ∈ [p] ++ ([] : List (Addr × Obj)) := hq
    rw [List.append_nil, List.mem_singleton] at hq
    subst hq
    exact hp), I.hok, I.len⟩
theorem not_in_stack {X : Cx} {pins : List (Addr × Obj)} {σ : L2.St} {H : Hp} {s : Shared} (I : Inv X pins σ H s) {p : Addr × Obj} (h : p ∈ X.pn) : p.1 ∉ frs X.stack := by
  obtain ⟨_, _, h1, h2, _⟩ := I.pin p (List.mem_append_left _ h)
  rcases I.ok.stk with e | ⟨e, ef⟩
  · rw [e]; exact h2
  · rw [e]
    intro hm
    obtain ⟨v, hv, hf⟩ := List.mem_filterMap.mp hm
    rcases List.mem_cons.mp hv with rfl | hv
    · rw [ef] at hf; exact h1 (Option.some.inj hf).symm
    · exact h2 (List.mem_filterMap.mpr ⟨v, hv, hf⟩)
section
variable {X : Cx} {p : Addr × Obj}
/-- [elt for tg in iter] where an error is handled -/
theorem pe_lcH {elt tg iter : Expr} {scope : Scope} {own : List (Str × Nat)} {pos : Pos} {wi : TI} {g : TG} {te : TE} (hot : Hot1 X.A p) (hpn : p ∈ X.pn) (hN : X.N.Nodup) (hi : PIH X tg iter wi) (ok : BlkOk X.N X.env.scope scope own)
    (hg : ∀ (s : Shared) (H : Hp) (C : Addr) (cl : List (Str × Addr)) (fp : List Addr), PG (hotX (X.blk s H scope (compEnvC scope cl C X.env) fp) p) tg g)
    (he : ∀ (s : Shared) (H : Hp) (C : Addr) (cl : List (Str × Addr)) (fp : List Addr), PE (hotX (X.blk s H scope (compEnvC scope cl C X.env) fp) p) elt te) (hs : ∀ x, foldedSetIterable iter X.env x = pure x) :
    PE X (.ListComp elt [⟨tg, iter, [], 0⟩] scope pos) (tLc wi g tYes te (own.map (·.2))) := by
  refine ⟨fun pins s σ H Q I h => ?_⟩
  rw [eval_ListComp]
  have hfr : ∀ y ∈ scope.names, y.2 = .free → ∃ c, X.env.cells.lookup y.1 = some c := fun y hy e => (ok.free y hy e).elim (fun k => I.ok.has _ (.inl k)) (fun k => I.ok.has _ (.inr k))
  refine wpAny_comprehension_free (use := none) rfl hs (closure_ok hfr) ok.kind (fun y hy e => (ok.uniq y hy).trans (by rw [e])) (thn (hi.run pins s σ H _ I h) fun xv sa ha => thn ha fun iv sb hb => ?_)
  obtain ⟨it, fp, tn, J, Hb, rfl, Ib, T, tb, fb, q⟩ := hb
  refine wpAny_newObj_type (newEnv_comp ?_) (by show 0 ≤ sizeLine; decide)
  generalize eL : sb.heap.objs.size = L
  have nL : Hb L = none := Ib.hok.fresh (Nat.le_of_eq eL)
  obtain ⟨V0, ⟨k0, v0⟩, turn⟩ := q L nL
  generalize ec : ({ sb with heap := sb.heap.push { cls := .type "list", data := .seq ([] : List Value).toArray } } : Shared) = sc
  have hh : sc.heap = sb.heap.push { cls := .type "list", data := .seq ([] : List Value).toArray } := by rw [← ec]
  have Ic : Inv X pins σ (upd Hb L (.lst [])) sc := by
    rw [← ec]
    exact Ib.laid (t' := sb.toks) (fun b o e => Heap.get?_push_of_some _ e) (Nat.le_of_eq eL) ⟨Nat.zero_le _, [], 0, .nil, (by rw [← eL]; exact Heap.get?_push_size _ rfl)⟩
  have fc : ∀ b ∈ fp, FpOk X pins (upd Hb L (.lst [])) b ∧ b < sc.heap.objs.size := fun b hb => by
    obtain ⟨o, e, _⟩ := T.obj _ _ tb b hb
    have lt := Heap.lt_size e
    exact ⟨⟨(by rw [upd_ne (by rw [← eL]; exact Nat.ne_of_lt lt)]; exact (fb b hb).1), (fb b hb).2⟩, (by rw [hh, Heap.size_push]; exact Nat.lt_succ_of_lt lt)⟩
  have tc : tn 0 sc.heap := T.keep _ _ _ tb fun b _ o e => (by rw [hh]; exact Heap.get?_push_of_some _ e)
  have Id := block_start Ic ok hN fc
  show codeAny _ _ (.compStart (.ListComp elt [⟨tg, iter, [], 0⟩] scope pos) 0 (.ref it) (.ref L) (compEnvC scope (cellsFrom (sc.heap.objs.size + 1) scope.names (cloFrom X.env.cells scope.names [])) sc.heap.objs.size X.env)) (compPost (model X.prog X.w) X.A X.xe none (EP X pins σ Q) (.ref L) sc.heap.objs.size) { sc with heap := pushCells (sc.heap.push { cls := .type "dict", data := .dict #[] }) scope.names }
  generalize ecl : cellsFrom (sc.heap.objs.size + 1) scope.names (cloFrom X.env.cells scope.names []) = cl at Id ⊢
  have pg := hg sc (upd Hb L (.lst [])) sc.heap.objs.size cl fp
  have pe := he sc (upd Hb L (.lst [])) sc.heap.objs.size cl fp
  obtain ⟨g1, g2, g3, g4, g5⟩ := Ic.pin p (List.mem_append_left _ hpn)
  have nst := not_in_stack Ic hpn
  have nfp : ∀ b ∈ fp, upd Hb L (.lst []) b = none := fun b hb => (fc b hb).1.1
  generalize een : compEnvC scope cl sc.heap.objs.size X.env = ce at Id pg pe ⊢
  have cL : ce.locals = sc.heap.objs.size := by subst een; rfl
  generalize eH : upd Hb L (.lst []) = Hc at *
  generalize ed : ({ sc with heap := pushCells (sc.heap.push { cls := .type "dict", data := .dict #[] }) scope.names } : Shared) = sd at Id ⊢
  have kd : ∀ b o, sc.heap.get? b = some o → sd.heap.get? b = some o := fun b o e => by rw [← ed]; exact pushCells_keeps _ _ _ _ (Heap.get?_push_of_some _ e)
  have td : tn 0 sd.heap := T.keep _ _ _ tc fun b _ o e => kd b o e
  have Ie : Inv (hotX (X.blk sc Hc scope ce fp) p) [] (wipe σ (own.map (·.2))) Hc sd := hotX_inv rfl Id ⟨kd _ _ g1, g2, (by show p.1 ≠ ce.locals; rw [cL]; exact Nat.ne_of_lt (Heap.lt_size g1)), nst, g5⟩
  have hc : HotC (hotX (X.blk sc Hc scope ce fp) p) := ⟨p, hot, List.mem_singleton.mpr rfl⟩
  have np : ∀ b ∈ fp, p.1 ≠ b := fun b hb => (fc b hb).1.2.2.2.2.2 p (List.mem_append_left _ hpn)
  have still : ∀ {σ' : L2.St} {H' : Hp} {s' : Shared}, Inv (hotX (X.blk sc Hc scope ce fp) p) [] σ' H' s' → (∀ b ∈ fp, H' b = none) → ∀ b ∈ fp, FpOk (hotX (X.blk sc Hc scope ce fp) p) [] H' b := fun {σ' H' s'} I' hn b hb =>
    ⟨hn b hb, (I'.ok.exf b hb).1, I'.ok.exfs b hb, .inl hb, fun x c e => (I'.ok.exf b hb).2 x c e, fun r hr => (by
      have hr : r ∈ [p] ++ ([] : List (Addr × Obj)) := hr
      rw [List.append_nil, List.mem_singleton] at hr
      subst hr
      exact np b hb)⟩
  have loop : codeAny (model X.prog X.w) X.A (.compLoop (.ListComp elt [⟨tg, iter, [], 0⟩] scope pos) 0 (.ref it) (.ref L) ce) (compPost (model X.prog X.w) X.A X.xe none (EP X pins σ Q) (.ref L) sc.heap.objs.size) sd := by
    refine compLoop_any (fun k s' => ∃ i H', Inv (hotX (X.blk sc Hc scope ce fp) p) [] (wipe σ (own.map (·.2))) H' s' ∧ tn i s'.heap ∧ (∀ b ∈ fp, H' b = none) ∧ V0 i k H') ?_ k0 ⟨0, Hc, Ie, td, nfp, v0⟩
    rintro k se ⟨i, He, I5, t5, n5, v5⟩
    rcases turn i k He v5 with ⟨stop, qq⟩ | ⟨go, Nx, hNx, step⟩
    · refine thnF (T.done (hotX (X.blk sc Hc scope ce fp) p) rfl rfl rfl hc i [] se _ He (fun _ _ => False) I5 (still I5 n5) t5 stop) fun r sf hf => ?_
      obtain ⟨rfl, I6⟩ := hf
      have I7 : Inv X pins σ He sf := Ic.call' (ch := fp) I6.os I6.base I6.hok I6.bare fun b hb => ⟨(fc b hb).1.2.2.2.1, (fc b hb).1.2.1, (fc b hb).1.2.2.2.2.1, (fc b hb).1.2.2.2.2.2⟩
      have nC : He sc.heap.objs.size = none := by rw [← cL]; exact I6.free
      obtain ⟨m, hn, _⟩ := I6.loc
      have hn : sf.heap.Ns sc.heap.objs.size m := by rw [← cL]; exact hn
      obtain ⟨f0, f1, f2, f3, f4, f5⟩ := Ic.fpOk (H' := He) (Nat.le_refl _) nC
      exact ⟨m, hn, fun h'' sbt => ⟨.ref L, He, I7.turned (t' := sf.toks) (fun b o hb e => (sbt.2 b hb).trans e) f0 f1 f3 f4 f5, rfl, qq⟩⟩
    · refine thnF (T.item (hotX (X.blk sc Hc scope ce fp) p) rfl rfl rfl hc i [] se _ He (fun _ _ => False) I5 (still I5 n5) t5 go) fun r sf hf => ?_
      obtain ⟨u, rfl, h6⟩ := hf
      refine thnF h6 fun _ sg ⟨x, Hg, Ig, rg, yg, tg', ng⟩ => ?_
      have Ig' := Ig.pinned (still Ig ng) (T.obj _ _ tg')
      refine thnF (pg.run _ sg _ Hg x u _ Ig' rg (step x Hg yg)) fun _ sh ⟨σh, Hh, Ih, hwh, qh⟩ => ?_
      refine thnF ((pts_nil (X := hotX (X.blk sc Hc scope ce fp) p)).run _ sh σh Hh _ Ih qh) fun b si ⟨Hi, Ii, qi⟩ => ?_
      have fin : ∀ {s' : Shared} {H' : Hp}, Inv (hotX (X.blk sc Hc scope ce fp) p) ([] ++ pinsAt fp sg.heap) σh H' s' → Nx H' → ∃ m, m < k ∧ ∃ i H', Inv (hotX (X.blk sc Hc scope ce fp) p) [] (wipe σ (own.map (·.2))) H' s' ∧ tn i s'.heap ∧ (∀ b ∈ fp, H' b = none) ∧ V0 i m H' := fun {s' H'} I' nx => by
        obtain ⟨m', hm, w'⟩ := hNx H' nx
        have pin' : ∀ b ∈ fp, ∀ o, sg.heap.get? b = some o → s'.heap.get? b = some o ∧ H' b = none := fun b hb o e => ⟨(I'.pin (b, o) (List.mem_append_right _ (List.mem_append_right _ (mem_pinsAt hb e)))).1, (I'.pin (b, o) (List.mem_append_right _ (List.mem_append_right _ (mem_pinsAt hb e)))).2.1⟩
        refine ⟨m', hm, i + 1, H', (I'.unpinned (pins := [])).weak (by rw [← hwh, wipe_length]) (fun j v e => (wipe_some (by rw [← hwh] at e; exact e)).1), T.keep _ _ _ tg' fun b hb o e => (pin' b hb o e).1, fun b hb => ?_, w'⟩
        obtain ⟨o, e, _⟩ := T.obj _ _ tg' b hb
        exact (pin' b hb o e).2
      cases b with
      | false =>
        simp only [Bool.false_eq_true, if_false] at qi ⊢
        exact fin Ii qi
      | true =>
        simp only [if_true] at qi ⊢
        refine thnF (pe.run _ si σh Hi _ Ii qi) fun z sj ⟨yv, Hj, Ij, rj, acc, hDj, hzj, nx⟩ => ?_
        exact app_ok (X := hotX (X.blk sc Hc scope ce fp) p) Ij hDj hzj rj fun sk Ik => fin Ik nx
  exact codeAny_compStart_list loop (T.self X.A 0 _ _ _ td loop)
end
end Mc
namespace Mc
open PySem PySem.Spec PyProof.Rows L2
theorem takes0N {X : Cx} : L2N.Takes X (fun _ _ _ _ => False) := fun _ _ x => by
  obtain ⟨_, _, _, _, _, _, _, _, _, _, _, _, _, _, _, _, z⟩ := x
  exact z.elim
section
variable {W : Wd} {g : Gi} {G : Gm} {Z : Xm} {T : Tc} {X : Cx}
/-- within a try's body -/
theorem Cok.tr (c : Cok W g G T X) (pn : List (Addr × Obj)) (xe : Value → Shared → Prop) : Cok W g G T (X.tr pn xe).nox where
  K := c.K
  N := c.N
  nd := c.nd
  sc := c.sc
  rw := c.rw
  fn := c.fn
  calm := c.calm
  xe := rfl
  un := c.un
  blt := c.blt
  cst := c.cst
  fns := c.fns
  cls := c.cls
  make := c.make
  meth := c.meth
  isa := c.isa
  fvs := c.fvs
  muts := c.muts
  lam := c.lam
  lamk := c.lamk
  mkr := c.mkr
theorem CokX.tr (c : CokX W g G Z T X) (pn : List (Addr × Obj)) (xe : Value → Shared → Prop) : CokX W g G Z T (X.tr pn xe) where
  c := by
    have h := c.c.tr pn xe
    exact ⟨h.K, h.N, h.nd, h.sc, h.rw, h.fn, h.calm, rfl, h.un, h.blt, h.cst, h.fns, h.cls, h.make, h.meth, h.isa, h.fvs, h.muts, h.lam, h.lamk, h.mkr⟩
  xf := c.xf
  ex := c.ex
  xl := c.xl
end
end Mc
namespace Mc
open PySem PySem.Spec PyProof.Rows L2 L2H
theorem cmp4 : ∀ b0 b1 b2 b3 c0 c1 c2 c3 : Bool, cmpD .eq (.lst [.bl b0, .bl b1, .bl b2, .bl b3]) (.lst [.bl c0, .bl c1, .bl c2, .bl c3]) = some ((b0 == c0) && (b1 == c1) && (b2 == c2) && (b3 == c3)) := by decide +kernel
def dueL (due : Int) (n : Nat) : List V := (List.range n).map fun (k : Nat) => V.bl (decide ((k : Int) = due))
theorem dueL_succ (due : Int) (n : Nat) : dueL due (n + 1) = dueL due n ++ [.bl (decide ((n : Int) = due))] := by simp [dueL, List.range_succ]
theorem due_k (c : Nat) (due : Int) (h : c < 4) : ((decide (c = 0) == decide ((0 : Int) = due)) && (decide (c = 1) == decide ((1 : Int) = due)) && (decide (c = 2) == decide ((2 : Int) = due)) && (decide (c = 3) == decide ((3 : Int) = due))) = decide ((c : Int) = due) := by
  have h0 : c = 0 ∨ c = 1 ∨ c = 2 ∨ c = 3 := by omega
  rcases h0 with rfl | rfl | rfl | rfl
  all_goals
    by_cases d0 : (0 : Int) = due
    · subst d0; decide
    by_cases d1 : (1 : Int) = due
    · subst d1; decide
    by_cases d2 : (2 : Int) = due
    · subst d2; decide
    by_cases d3 : (3 : Int) = due
    · subst d3; decide
    simp [d0, d1, d2, d3]
/-- [k == due for k in range(4)], by the rules -/
theorem lc_due {due : Int} {W : Wd} {σ : L2.St} {H : Hp} {i j : Nat} {Q : VK} (hij : i ≠ j) (hl : i < σ.length) (h3 : σ[j]? = some (some (.int due))) (q : ∀ D, H D = none → Q (.ref D) (upd H D (.lst (dueL due 4)))) :
    tLc (iRng1 (tCons (tC (V.int 4)) tNil)) (gName i) tYes (tOp (rC W Cop.eq) (tVar i) (tVar j)) [i] σ H Q := by
  refine ⟨4, rfl, by decide, by decide, fun D hD => ⟨fun n m H' => n ≤ 4 ∧ m = 4 - n ∧ H' = upd H D (.lst (dueL due n)), ⟨4, by decide, rfl, rfl⟩, ?_⟩⟩
  rintro n m _ ⟨hn, rfl, rfl⟩
  by_cases h4 : n = 4
  · subst h4
    exact .inl ⟨Nat.le_refl _, q D hD⟩
  · refine .inr ⟨by show n < 4; omega, fun H' => H' = upd H D (.lst (dueL due (n + 1))), fun H' e => ⟨4 - (n + 1), by omega, by omega, rfl, e⟩, ?_⟩
    rintro x _ ⟨rfl, rfl⟩
    have e6 : ((wipe σ [i]).set i (some (V.int (0 + (n : Int)))))[i]? = some (some (.int (n : Int))) := by
      rw [List.getElem?_set_self (by rw [wipe_length]; exact hl)]; simp
    have e3 : ((wipe σ [i]).set i (some (V.int (0 + (n : Int)))))[j]? = some (some (.int due)) := by
      rw [List.getElem?_set_ne hij]
      show (σ.set i none)[j]? = _
      rw [List.getElem?_set_ne hij]; exact h3
    refine ⟨?_, ?_⟩
    · show ((σ.set i none).set i _).set i none = σ.set i none
      rw [List.set_set, List.set_set]
    · unfold tYes
      dsimp only
      rw [if_pos rfl]
      refine ⟨_, e6, _, e3, .int (n : Int), .int due, decide ((n : Int) = due), ?_, ?_, rfl, dueL due n, upd_same, ?_, ?_⟩
      · show Rep W _ _ _; simp only [Rep]
      · show Rep W _ _ _; simp only [Rep]
      · simp [dueL]; have : (4 : Nat) < sizeLine := by decide
        omega
      · rw [upd_upd, dueL_succ]
/-- the list of four of them -/
theorem rl4 {W : Wd} {H : Hp} (a b c d : Bool) : RepL W H [.bl a, .bl b, .bl c, .bl d] [.bl a, .bl b, .bl c, .bl d] := .cons rep_bl (.cons rep_bl (.cons rep_bl (.one rep_bl)))
theorem relv_ref {a : Addr} {u : Value} (h : RelV (.ref a) u) : u = .ref a := by cases h; rfl
theorem relv_ty {a : String} {u : Value} (h : RelV (.ty a) u) : u = .type a := by cases h; rfl
end Mc
namespace Mc
open PySem PySem.Spec PyProof.Rows L2
section
variable {W : Wd} {g : Gi} {Z : Xm} {P : Program} {w : World} {K : PySem.W.Frag} {mg : Str → Option Value} {base : Heap}
theorem AroundX.mono {k j : Nat} (B : AroundX W g Z P w K mg base k) (h : k ≤ j) : AroundX W g Z P w K mg base j :=
  ⟨fun f x xs h1 h2 => let ⟨i, ad, fd, ps, sem, a, b⟩ := B.xf f x xs h1 h2; ⟨i, ad, fd, ps, sem, Nat.le_trans a h, b⟩, B.ex, fun f xs h1 h2 => let ⟨i, sem, a, b⟩ := B.xl f xs h1 h2; ⟨i, sem, Nat.le_trans a h, b⟩⟩
theorem AroundX.add {k j n : Nat} {x : Str} {sem : List Sl → Option R} {xs : List Sl → Option Nat} {ad : Addr} {fd : FuncData} {ps : List Str} (B : AroundX W g Z P w K mg base k) (hn : g.fns[n]? = some x) (hj : j ≤ k + 1) (h3 : mg x = some (.ref ad)) (h4 : PySem.W.keepIn K (.ref ad) = true) (h5 : Binds K fd ps [])
    (h6 : FnOk P w K mg base (L2N.CX P w) j ad fd ps (spX W sem xs)) (hlm : g.lams.all (fun q => q != n) = true := by rfl) : AroundX W g (Z.add n xs) P w K mg base (k + 1) := by
  refine ⟨fun f y s h1 h2 => ?_, B.ex, fun f s h1 h2 => ?_⟩
  rotate_left
  · have hne : f ≠ n := by
      have := List.all_eq_true.mp hlm _ h1
      simpa using this
    unfold Xm.add at h2
    rw [if_neg hne] at h2
    obtain ⟨i, sem, a, b⟩ := B.xl f s h1 h2
    exact ⟨i, sem, Nat.le_trans a (Nat.le_succ k), b⟩
  unfold Xm.add at h2
  split at h2
  · rename_i e
    subst e
    cases h2
    rw [hn] at h1
    cases h1
    exact ⟨j, ad, fd, ps, sem, hj, h3, h4, h5, h6⟩
  · obtain ⟨i, ad, fd, ps, sem, a, b⟩ := B.xf f y s h1 h2
    exact ⟨i, ad, fd, ps, sem, Nat.le_trans a (Nat.le_succ k), b⟩
theorem AroundX.addL {k j n : Nat} {sem : List Sl → Option R} {xs : List Sl → Option Nat} (B : AroundX W g Z P w K mg base k) (hf : g.fns.length ≤ n) (hj : j ≤ k + 1)
    (h6 : ∀ q params body scope, W.lam n q params body scope → LamOk P w K mg base (L2N.CX P w) j q params body scope (spX W sem xs)) : AroundX W g (Z.add n xs) P w K mg base (k + 1) := by
  refine ⟨fun f y s h1 h2 => ?_, B.ex, fun f s h1 h2 => ?_⟩
  · have hne : f ≠ n := fun z => by
      have := (List.getElem?_eq_some_iff.mp h1).1
      omega
    unfold Xm.add at h2
    rw [if_neg hne] at h2
    obtain ⟨i, ad, fd, ps, sem, a, b⟩ := B.xf f y s h1 h2
    exact ⟨i, ad, fd, ps, sem, Nat.le_trans a (Nat.le_succ k), b⟩
  · unfold Xm.add at h2
    split at h2
    · rename_i e
      subst e
      cases h2
      exact ⟨j, sem, hj, h6⟩
    · obtain ⟨i, sem, a, b⟩ := B.xl f s h1 h2
      exact ⟨i, sem, Nat.le_trans a (Nat.le_succ k), b⟩
/-- an error of a class below S is what «except S» names -/
theorem exm_sub {C S : Addr} (h1 : PySem.W.subIn K (.ref S) (.type "BaseException") = some true) (h2 : PySem.W.isClsIn K S = true) (h3 : PySem.W.typeIn K (.ref S) = some (.type "type")) (h4 : PySem.W.subIn K (.ref C) (.ref S) = some true) : PySem.W.exmOne K (.ref C) (.ref S) = some true := by
  have e1 : (PySem.W.subIn K (.ref S) (.type "BaseException") == some true) = true := by rw [h1]; rfl
  have e2 : ((PySem.W.clsIn K S).isSome && PySem.W.typeIn K (.ref S) == some (.type "type")) = true := by
    rw [h3, Bool.and_eq_true]
    exact ⟨h2, rfl⟩
  unfold PySem.W.exmOne
  rw [if_pos e1]
  show (if ((PySem.W.clsIn K S).isSome && PySem.W.typeIn K (.ref S) == some (.type "type")) = true then PySem.W.subIn K (.ref C) (.ref S) else none) = some true
  rw [if_pos e2]
  exact h4
end
end Mc
namespace Mc
open PySem PySem.Spec PyProof.Rows L2
/-! ### the check of a lambda's text -/
def okArgs : List Str → Arguments → Bool
  | [x], ⟨[], [a], none, [], [], none, []⟩ => decide (a.arg = x)
  | [x, y], ⟨[], [a, b], none, [], [], none, []⟩ => decide (a.arg = x) && decide (b.arg = y)
  | _, _ => false
def fnScB (N ps : List Str) (sc : Scope) : Bool := decide (sc.kind = .function) && !sc.isCoroutine && !sc.isGenerator && decide N.Nodup && decide (N.take ps.length = ps) && ps.all (fun x => decide (sc.names.lookup x = some .local) || decide (sc.names.lookup x = some .cell)) && sc.names.all fun y => decide (y.2 ≠ .free)
theorem fnScB_ok {N ps : List Str} {sc : Scope} (h : fnScB N ps sc = true) : FnScope N ps sc := by
  unfold fnScB at h
  simp only [Bool.and_eq_true, Bool.or_eq_true, Bool.not_eq_true', decide_eq_true_eq, List.all_eq_true] at h
  obtain ⟨⟨⟨⟨⟨⟨h1, h2⟩, h3⟩, h4⟩, h5⟩, h6⟩, h7⟩ := h
  exact ⟨h1, h2, h3, h4, h5, h6, h7⟩
def lamC (g : Gi) (N ps : List Str) (e : E) (params : Arguments) (body : Expr) (scope : Scope) : Bool := okArgs ps params && fnScB N ps scope && okE g ⟨N, scope, scope, false⟩ e body
theorem okArgs1 {x : Str} {params : Arguments} (h : okArgs [x] params = true) : ∃ an pos, params = ⟨[], [⟨x, an, pos⟩], none, [], [], none, []⟩ := by
  unfold okArgs at h
  split at h <;> try (cases h; done)
  rotate_left
  · rename_i e; cases e
  rename_i y a e
  cases e
  obtain ⟨ar, an, pos⟩ := a
  have : ar = x := by simpa using h
  subst this
  exact ⟨an, pos, rfl⟩
theorem okArgs2 {x y : Str} {params : Arguments} (h : okArgs [x, y] params = true) : ∃ an pos an' pos', params = ⟨[], [⟨x, an, pos⟩, ⟨y, an', pos'⟩], none, [], [], none, []⟩ := by
  unfold okArgs at h
  split at h <;> try (cases h; done)
  · rename_i e; cases e
  rename_i x' y' a b e
  cases e
  obtain ⟨ar, an, pos⟩ := a
  obtain ⟨br, an', pos'⟩ := b
  simp only [Bool.and_eq_true, decide_eq_true_eq] at h
  obtain ⟨rfl, rfl⟩ := h
  exact ⟨an, pos, an', pos', rfl⟩
theorem okArgs_def {ps : List Str} {params : Arguments} (h : okArgs ps params = true) (env : PySem.Env) : defaultsOf params env = ([], []) := by
  unfold okArgs at h
  split at h <;> first | rfl | cases h
abbrev LamT := List (Nat × (List Str × List Str × E))
def Gi.withL (g : Gi) (t : LamT) : Gi := { g with lams := t.map (·.1), lamk := fun j params body scope => match t.lookup j with
  | some (N, ps, e) => lamC g N ps e params body scope
  | none => false }
theorem withL_ok {g : Gi} {t : LamT} {j : Nat} {params : Arguments} {body : Expr} {scope : Scope} (h : (g.withL t).lamk j params body scope = true) : (∀ env, defaultsOf params env = ([], [])) ∧ ∀ y ∈ scope.names, y.2 ≠ .free := by
  unfold Gi.withL at h
  dsimp only at h
  split at h <;> try (cases h; done)
  rename_i N ps e h1
  unfold lamC at h
  simp only [Bool.and_eq_true] at h
  exact ⟨okArgs_def h.1.1, (fnScB_ok h.1.2).nofree⟩
section
variable {W : Wd} {g : Gi} {G : Gm} {Z : Xm} {t : LamT} {P : Program} {w : World} {K : PySem.W.Frag} {mg : Str → Option Value} {base : Heap} {k : Nat}
theorem Around_.plain (A : Around_ W (g.withL t) G P w K mg base k) (h1 : g.lams = [] := by rfl) (h2 : g.lamk = (fun _ _ _ _ => false) := by rfl) : Around_ W g G P w K mg base k :=
  ⟨A.blt, A.cst, A.fns, A.cls, A.make, A.meth, A.isa, A.fvs, A.muts, fun f sem h => absurd h (by rw [h1]; exact List.not_mem_nil), fun j q params body scope h => absurd h (by rw [h2]; exact Bool.false_ne_true)⟩
theorem AroundX.plain (B : AroundX W (g.withL t) Z P w K mg base k) (h1 : g.lams = [] := by rfl) : AroundX W g Z P w K mg base k :=
  ⟨B.xf, B.ex, fun f xs h => absurd h (by rw [h1]; exact List.not_mem_nil)⟩
end
end Mc
namespace Mc
open PySem PySem.Spec PyProof.Rows L2 PySem.W
/-- the end of a law's row where the tables of the makers' code objects are read off the top -/
theorem walk_ofQ {l : PySem.W.OpenLaw} {n k : Nat} {q : Program} {loose : List Str} {XP : (Str → Option Value) → Heap → Prop} {YP : World → Heap → Prop} {d : DefRec} {K : Params → PySem.W.Frag} {CX : World → CXT} {x : Str}
    (hn : l.most = some n) (hn2 : n ≤ sizeLine) (hdf : d.params.defaults = []) (hr : Room k callerA) (hY : ∀ (w : World) (h : Heap), YP w h → (K w.params).In h)
    (F : ∀ (w : World) (s₀ : Shared) (mg mb : Str → Option Value) (fa : Addr) (h : Heap), (K w.params).In h → Top q (looseW q loose) (ExcName.means s₀.heap) mg mb h → mg d.name = some (.ref fa) → LamX.LawAtS l w (K w.params) (CX w) k n x mg fa h)
    (hCX : ∀ (w : World) (H : Hp) (s : Shared) (e : Value) (s' : Shared), CX w [] H s (fun _ _ _ => False) e s' → False) :
    PySem.W.WalkO q loose XP YP l.row.toRowW d [] (fun f vs => PySem.call f vs) := by
  refine Att.attach_callB hn hdf fun w s₀ s₁ mg mb fa o pm cd doc a vs ns G Y ho hd hcd hmg hobj hints hlen hbits hg => ?_
  have KX := hY w _ Y
  obtain ⟨fd, cs, sp, hT, nT, C, hb, hsp, hF⟩ := F w s₀ mg mb fa _ KX G.T hmg
  exact LamX.law_callTs KX G.T.g G.T.b G.T.builtins G.T.nolimit hg hT nT C G.T.bmain hobj hints (Nat.le_trans hlen hn2) hr hF hb (fun H hH hS => hsp H a ns hlen hbits hH hS) fun H e s' => hCX w H s₁ e s'
end Mc
namespace Pg
open Mc
def p_is_number : Ss := (.cons (.ret (.and (.cons (.isi (.slot 0) .int) (.cons (.not (.isi (.slot 0) .bool)) (.cons (.chain .le .le (.slot 1) (.slot 0) (.slot 2)) .nil))))) .nil)
def p_is_set : Ss := (.cons (.ret (.and (.cons (.isi (.slot 0) .str) (.cons (.cmp .le (.bi .len (.cons (.slot 0) .nil)) (.gint "LONGEST" 200)) (.cons (.bi .all (.cons (.lc (.cmp .isin (.slot 1) (.str [120, 45])) (.nm 1) (.seq (.slot 0)) .non) .nil)) .nil))))) .nil)
def p_check_set : Ss := (.cons (.ife (.not (.call 0 (.cons (.slot 0) .nil))) (.cons (.rais 0 "BadSet") .nil) .nil) .nil)
def p_check_length : Ss := (.cons (.ife (.not (.call 9 (.cons (.slot 0) (.cons (.int 0) (.cons (.gint "LONGEST" 200) .nil))))) (.cons (.rais 1 "BadLength") .nil) .nil) .nil)
def p_marks_of : Ss := (.cons (.asg 1 false (.int 0)) (.cons (.for (.nm 2) (.seq (.slot 0)) (.cons (.asg 1 false (.bin .add (.bin .mul (.slot 1) (.int 2)) (.ite (.cmp .eq (.slot 2) (.str [120])) (.int 1) (.int 0)))) .nil)) (.cons (.ret (.slot 1)) .nil)))
def p_holds : Ss := (.cons (.ret (.cmp .eq (.bin .and (.slot 0) (.slot 1)) (.slot 0))) .nil)
def p_is_within : Ss := (.cons (.ex (.call 1 (.cons (.slot 0) .nil))) (.cons (.ex (.call 1 (.cons (.slot 1) .nil))) (.cons (.ife (.cmp .ne (.bi .len (.cons (.slot 0) .nil)) (.bi .len (.cons (.slot 1) .nil))) (.cons (.rais 0 "BadSet") .nil) .nil) (.cons (.ret (.call 17 (.cons (.call 16 (.cons (.slot 0) .nil)) (.cons (.call 16 (.cons (.slot 1) .nil)) .nil)))) .nil))))
def p_picks : Ss := (.cons (.asg 2 false (.int 1)) (.cons (.for (.nm 3) (.rng1 (.slot 1)) (.cons (.asg 2 false (.bin .fdiv (.bin .mul (.slot 2) (.bin .sub (.slot 0) (.slot 3))) (.bin .add (.slot 3) (.int 1)))) .nil)) (.cons (.ret (.slot 2)) .nil)))
def p_ways : Ss := (.cons (.ex (.call 10 (.cons (.slot 0) .nil))) (.cons (.ife (.not (.call 9 (.cons (.slot 1) (.cons (.int 0) (.cons (.slot 0) .nil))))) (.cons (.rais 2 "BadNumber") .nil) .nil) (.cons (.ret (.call 11 (.cons (.slot 0) (.cons (.slot 1) .nil)))) .nil)))
def p_loose_of : Ss := (.cons (.asg 1 true (.lst .nil)) (.cons (.asg 2 true (.lst .nil)) (.cons (.for (.tp [3, 4]) (.enum (.slot 0)) (.cons (.ife (.cmp .eq (.slot 4) (.str [45])) (.cons (.app 1 (.slot 3)) .nil) (.cons (.ife (.cmp .gt (.bi .len (.cons (.slot 1) .nil)) (.int 0)) (.cons (.pop 1) .nil) (.cons (.app 2 (.slot 3)) .nil)) .nil)) .nil)) (.cons (.ret (.bin .add (.slot 2) (.slot 1))) .nil))))
def p_with_signs : Ss := (.cons (.asg 3 true (.bi .list (.cons (.slot 0) .nil))) (.cons (.for (.tp [4, 5]) (.enum (.slot 1)) (.cons (.seti 3 (.slot 5) (.ite (.cmp .lt (.slot 4) (.slot 2)) (.str [120]) (.str [45]))) .nil)) (.cons (.ret (.meth .join (.str []) (.cons (.slot 3) .nil))) .nil)))
def p_row_of : Ss := (.cons (.asg 1 false (.call 2 (.cons (.slot 0) .nil))) (.cons (.ret (.lc (.call 3 (.cons (.slot 0) (.cons (.slot 1) (.cons (.slot 2) .nil)))) (.nm 2) (.rng1 (.bin .add (.bi .len (.cons (.slot 1) .nil)) (.int 1))) .non)) .nil))
def p_row : Ss := (.cons (.ex (.call 1 (.cons (.slot 0) .nil))) (.cons (.ret (.call 4 (.cons (.slot 0) .nil))) .nil))
def p_beside : Ss := (.cons (.asg 2 false (.call 2 (.cons (.slot 0) .nil))) (.cons (.asg 3 false (.bin .add (.bi .len (.cons (.lc (.slot 4) (.nm 4) (.seq (.slot 2)) (.one (.cmp .eq (.sub (.slot 0) (.slot 4)) (.str [120])))) .nil)) (.slot 1))) (.cons (.ife (.not (.chain .le .le (.int 0) (.slot 3) (.bi .len (.cons (.slot 2) .nil)))) (.cons (.ret .non) .nil) .nil) (.cons (.ret (.call 3 (.cons (.slot 0) (.cons (.slot 2) (.cons (.slot 3) .nil))))) .nil))))
def p_above : Ss := (.cons (.ex (.call 1 (.cons (.slot 0) .nil))) (.cons (.ret (.call 6 (.cons (.slot 0) (.cons (.int 1) .nil)))) .nil))
def p_below : Ss := (.cons (.ex (.call 1 (.cons (.slot 0) .nil))) (.cons (.ret (.call 6 (.cons (.slot 0) (.cons (.neg (.int 1)) .nil)))) .nil))
def p_rests_of : Ss := (.cons (.asg 1 true (.lst (.cons (.lc (.int 1) (.nm 2) (.rng1 (.bin .add (.slot 0) (.int 2))) .non) .nil))) (.cons (.for (.nm 3) (.rng1 (.slot 0)) (.cons (.asg 4 false (.sub (.slot 1) (.neg (.int 1)))) (.cons (.asg 5 true (.lst .nil)) (.cons (.for (.nm 2) (.rng1 (.bin .sub (.bin .add (.slot 0) (.int 1)) (.slot 3))) (.cons (.asg 6 false (.ite (.cmp .gt (.slot 2) (.int 0)) (.sub (.slot 4) (.bin .sub (.slot 2) (.int 1))) (.int 0))) (.cons (.app 5 (.bin .add (.sub (.slot 4) (.bin .add (.slot 2) (.int 1))) (.slot 6))) .nil))) (.frz 5 (.cons (.app 1 (.slot 5)) .nil)))))) (.cons (.ret (.slot 1)) .nil)))
def p_rows : Ss := (.cons (.ex (.call 10 (.cons (.slot 0) .nil))) (.cons (.ret (.call 11 (.cons (.slot 0) (.cons (.bin .fdiv (.slot 0) (.int 2)) .nil)))) .nil))
def p_row_by : Ss := (.cons (.ex (.call 10 (.cons (.slot 0) .nil))) (.cons (.ife (.not (.call 9 (.cons (.slot 1) (.cons (.int 0) (.cons (.bin .sub (.call 11 (.cons (.slot 0) (.cons (.bin .fdiv (.slot 0) (.int 2)) .nil))) (.int 1)) .nil))))) (.cons (.rais 2 "BadNumber") .nil) .nil) (.cons (.asg 2 false (.call 12 (.cons (.slot 0) .nil))) (.cons (.asg 3 true (.lst .nil)) (.cons (.asg 4 false (.int 0)) (.cons (.for (.nm 5) (.rng3 (.bin .sub (.slot 0) (.int 1)) (.neg (.int 1)) (.neg (.int 1))) (.cons (.asg 6 false (.sub (.sub (.slot 2) (.slot 5)) (.bin .add (.slot 4) (.int 1)))) (.cons (.ife (.cmp .lt (.slot 1) (.slot 6)) (.cons (.app 3 (.str [45])) (.cons (.aug 4 .add (.int 1)) .nil)) (.cons (.aug 1 .sub (.slot 6)) (.cons (.app 3 (.str [120])) (.cons (.aug 4 .sub (.int 1)) .nil)))) .nil))) (.cons (.ret (.call 4 (.cons (.meth .join (.str []) (.cons (.slot 3) .nil)) .nil))) .nil)))))))
def p_number_of : Ss := (.cons (.ex (.call 1 (.cons (.slot 0) .nil))) (.cons (.asg 1 false (.call 3 (.cons (.slot 0) (.cons (.call 2 (.cons (.slot 0) .nil)) (.cons (.int 0) .nil))))) (.cons (.asg 2 false (.call 12 (.cons (.bi .len (.cons (.slot 1) .nil)) .nil))) (.cons (.asg 3 false (.int 0)) (.cons (.asg 4 false (.int 0)) (.cons (.for (.tp [5, 6]) (.enum (.slot 1)) (.cons (.ife (.cmp .eq (.slot 6) (.str [120])) (.cons (.aug 3 .add (.sub (.sub (.slot 2) (.bin .sub (.bin .sub (.bi .len (.cons (.slot 1) .nil)) (.slot 5)) (.int 1))) (.bin .add (.slot 4) (.int 1)))) (.cons (.aug 4 .sub (.int 1)) .nil)) (.cons (.aug 4 .add (.int 1)) .nil)) .nil)) (.cons (.ret (.slot 3)) .nil)))))))
def p_lowest : Ss := (.cons (.par [2, 3] [false, false] (.cons (.slot 0) (.cons (.slot 1) .nil))) (.cons (.while (2 ^ 10000) (.cmp .gt (.slot 3) (.int 0)) (.cons (.par [2, 3] [false, false] (.cons (.slot 3) (.cons (.bin .mod (.slot 2) (.slot 3)) .nil))) .nil)) (.cons (.ret (.tup (.cons (.bin .fdiv (.slot 0) (.slot 2)) (.cons (.bin .fdiv (.slot 1) (.slot 2)) .nil)))) .nil)))
def p_share_of : Ss := (.cons (.unp [1, 2] (.tup (.cons (.int 0) (.cons (.int 1) .nil)))) (.cons (.for (.nm 3) (.seq (.slot 0)) (.cons (.asg 4 false (.call 11 (.cons (.bi .len (.cons (.slot 3) .nil)) (.cons (.meth .count (.slot 3) (.cons (.str [120]) .nil)) .nil)))) (.cons (.unp [1, 2] (.call 27 (.cons (.bin .add (.bin .mul (.slot 1) (.slot 4)) (.slot 2)) (.cons (.bin .mul (.slot 2) (.slot 4)) .nil)))) .nil))) (.cons (.ret (.tup (.cons (.slot 1) (.cons (.slot 2) .nil)))) .nil)))
def p_first_within : Ss := (.cons (.asg 1 false (.lc (.call 16 (.cons (.slot 2) .nil)) (.nm 2) (.seq (.slot 0)) .non)) (.cons (.for (.tp [3, 4]) (.enum (.slot 1)) (.cons (.for (.tp [5, 6]) (.enum (.slot 1)) (.cons (.ife (.and (.cons (.cmp .ne (.slot 3) (.slot 5)) (.cons (.call 17 (.cons (.slot 4) (.cons (.slot 6) .nil))) .nil))) (.cons (.ret (.tup (.cons (.slot 3) (.cons (.slot 5) .nil)))) .nil) .nil) .nil)) .nil)) (.cons (.ret .non) .nil)))
def p_check_leasts : Ss := (.cons (.ex (.call 21 (.cons (.slot 0) .nil))) (.cons (.ife (.cmp .isnot (.call 20 (.cons (.slot 0) .nil)) .non) (.cons (.rais 3 "BadFamily") .nil) .nil) .nil))
def p_says_yes : Ss := (.cons (.ret (.bi .any (.cons (.lc (.call 17 (.cons (.slot 2) (.cons (.slot 1) .nil))) (.nm 2) (.seq (.slot 0)) .non) .nil))) .nil)
def p_says : Ss := (.cons (.ex (.call 22 (.cons (.slot 0) .nil))) (.cons (.ex (.call 1 (.cons (.slot 1) .nil))) (.cons (.ife (.and (.cons (.cmp .ne (.slot 0) (.lst .nil)) (.cons (.cmp .ne (.bi .len (.cons (.sub (.slot 0) (.int 0)) .nil)) (.bi .len (.cons (.slot 1) .nil))) .nil))) (.cons (.rais 0 "BadSet") .nil) .nil) (.cons (.ret (.call 23 (.cons (.lc (.call 16 (.cons (.slot 2) .nil)) (.nm 2) (.seq (.slot 0)) .non) (.cons (.call 16 (.cons (.slot 1) .nil)) .nil)))) .nil))))
def p_is_settled : Ss := (.cons (.ret (.or (.cons (.bi .any (.cons (.lc (.call 17 (.cons (.slot 3) (.cons (.slot 2) .nil))) (.nm 3) (.seq (.slot 0)) .non) .nil)) (.cons (.bi .any (.cons (.lc (.call 17 (.cons (.slot 2) (.cons (.slot 3) .nil))) (.nm 3) (.seq (.slot 1)) .non) .nil)) .nil)))) .nil)
def p__law_length : Ss := (.cons (.asg 1 false (.bi .sum (.cons (.slot 0) .nil))) (.cons (.par [2, 3, 4] [false, false, false] (.cons (.bin .mod (.bin .fdiv (.slot 1) (.int 56)) (.int 8)) (.cons (.bin .add (.int 1) (.bin .mod (.bin .fdiv (.slot 1) (.int 56)) (.int 40))) (.cons (.bin .add (.int 60) (.bin .mod (.bin .fdiv (.slot 1) (.int 56)) (.int 141))) .nil)))) (.cons (.ret (.sub (.tup (.cons (.slot 2) (.cons (.bi .min (.cons (.int 200) (.cons (.bi .len (.cons (.slot 0) .nil)) .nil))) (.cons (.slot 3) (.cons (.slot 2) (.cons (.slot 3) (.cons (.bi .min (.cons (.int 63) (.cons (.bi .len (.cons (.slot 0) .nil)) .nil))) (.cons (.slot 3) (.cons (.slot 4) .nil))))))))) (.bin .mod (.bin .fdiv (.slot 1) (.int 7)) (.int 8)))) .nil)))
def p__law_sets : Ss := (.cons (.asg 2 true (.lst .nil)) (.cons (.for (.tp [3, 4]) (.enum (.ite (.cmp .lt (.slot 1) (.int 60)) (.slice (.slot 0) .non (.one (.int 63))) (.slice (.slot 0) .non (.one (.int 4))))) (.cons (.asg 5 false (.bin .add (.bin .add (.bin .mul (.slot 4) (.int 48271)) (.bin .mul (.slot 3) (.int 69621))) (.int 11))) (.cons (.asg 5 false (.bin .fdiv (.bin .mul (.bin .mul (.slot 5) (.slot 5)) (.slot 5)) (.int 1009))) (.cons (.asg 6 false (.ite (.cmp .ge (.slot 4) (.bin .pow (.int 10) (.int 18))) (.slot 4) (.bin .fdiv (.bin .mul (.bin .mul (.slot 5) (.slot 5)) (.slot 5)) (.int 1000003)))) (.cons (.app 2 (.meth .join (.str []) (.cons (.lc (.sub (.str [45, 120]) (.bin .and (.bin .shr (.slot 6) (.slot 7)) (.int 1))) (.nm 7) (.rng1 (.slot 1)) .non) .nil))) .nil))))) (.cons (.ret (.slot 2)) .nil)))
def p__law_picks : Ss := (.cons (.unp [2, 3] (.tup (.cons (.int 1) (.cons (.int 1) .nil)))) (.cons (.for (.nm 4) (.rng1 (.slot 1)) (.cons (.par [2, 3] [false, false] (.cons (.bin .mul (.slot 2) (.bin .sub (.slot 0) (.slot 4))) (.cons (.bin .mul (.slot 3) (.bin .add (.slot 4) (.int 1))) .nil))) .nil)) (.cons (.ret (.bin .fdiv (.slot 2) (.slot 3))) .nil)))
def p__law_every : Ss := (.cons (.ret (.lc (.meth .join (.str []) (.cons (.lc (.sub (.str [45, 120]) (.bin .and (.bin .shr (.slot 2) (.slot 1)) (.int 1))) (.nm 1) (.rng1 (.slot 0)) .non) .nil)) (.nm 2) (.rng1 (.bin .shl (.int 1) (.slot 0))) .non)) .nil)
def p__law_whole : Ss := (.cons (.ret (.and (.cons (.isi (.slot 0) .int) (.cons (.not (.isi (.slot 0) .bool)) .nil)))) .nil)
def p__law_inside : Ss := (.cons (.ret (.bi .all (.cons (.lc (.cmp .eq (.sub (.slot 1) (.slot 2)) (.str [120])) (.nm 2) (.rng1 (.bi .len (.cons (.slot 0) .nil))) (.one (.cmp .eq (.sub (.slot 0) (.slot 2)) (.str [120])))) .nil))) .nil)
def p__law_marks : Ss := (.cons (.ret (.bi .sum (.cons (.lc (.bin .shl (.int 1) (.slot 1)) (.tp [1, 2]) (.enum (.slot 0)) (.one (.cmp .eq (.slot 2) (.str [120])))) .nil))) .nil)
def p__law_family : Ss := (.cons (.par [2, 3] [true, true] (.cons (.lst .nil) (.cons (.lst .nil) .nil))) (.cons (.for (.nm 4) (.seq (.slot 0)) (.cons (.asg 5 false (.call 37 (.cons (.slot 4) .nil))) (.cons (.asg 6 false (.cmp .notin (.slot 5) (.slot 3))) (.cons (.ife (.cmp .eq (.slot 1) (.int 1)) (.cons (.asg 6 false (.and (.cons (.slot 6) (.cons (.cmp .eq (.meth .count (.slot 4) (.cons (.str [120]) .nil)) (.meth .count (.sub (.slot 0) (.int 0)) (.cons (.str [120]) .nil))) .nil)))) .nil) .nil) (.cons (.ife (.cmp .gt (.slot 1) (.int 1)) (.cons (.asg 6 false (.and (.cons (.slot 6) (.cons (.not (.bi .any (.cons (.lc (.cmp .isin (.bin .and (.slot 5) (.slot 7)) (.lst (.cons (.slot 5) (.cons (.slot 7) .nil)))) (.nm 7) (.seq (.slot 3)) .non) .nil))) .nil)))) .nil) .nil) (.cons (.ife (.slot 6) (.cons (.app 2 (.slot 4)) (.cons (.app 3 (.slot 5)) .nil)) .nil) .nil)))))) (.cons (.ret (.slot 2)) .nil)))
def p__law_share : Ss := (.cons (.unp [1, 2] (.tup (.cons (.int 0) (.cons (.int 1) .nil)))) (.cons (.for (.nm 3) (.seq (.slot 0)) (.cons (.asg 4 false (.call 32 (.cons (.bi .len (.cons (.slot 3) .nil)) (.cons (.meth .count (.slot 3) (.cons (.str [120]) .nil)) .nil)))) (.cons (.par [1, 2] [false, false] (.cons (.bin .add (.bin .mul (.slot 1) (.slot 4)) (.slot 2)) (.cons (.bin .mul (.slot 2) (.slot 4)) .nil))) (.cons (.par [5, 6] [false, false] (.cons (.slot 1) (.cons (.slot 2) .nil))) (.cons (.while (2 ^ 10000) (.cmp .gt (.slot 6) (.int 0)) (.cons (.par [5, 6] [false, false] (.cons (.slot 6) (.cons (.bin .mod (.slot 5) (.slot 6)) .nil))) .nil)) (.cons (.par [1, 2] [false, false] (.cons (.bin .fdiv (.slot 1) (.slot 5)) (.cons (.bin .fdiv (.slot 2) (.slot 5)) .nil))) .nil)))))) (.cons (.ret (.tup (.cons (.slot 1) (.cons (.slot 2) .nil)))) .nil)))
def p__law_none_within : Ss := (.cons (.asg 1 false (.lc (.call 37 (.cons (.slot 2) .nil)) (.nm 2) (.seq (.slot 0)) .non)) (.cons (.for (.tp [3, 4]) (.enum (.slot 1)) (.cons (.ife (.bi .any (.cons (.lc (.cmp .eq (.bin .and (.slot 4) (.sub (.slot 1) (.slot 5))) (.slot 4)) (.nm 5) (.rng1 (.bi .len (.cons (.slot 1) .nil))) (.one (.cmp .ne (.slot 5) (.slot 3)))) .nil)) (.cons (.ret (.bl false)) .nil) .nil) .nil)) (.cons (.ret (.bl true)) .nil)))
def p_check_family : Ss := (.cons (.ife (.or (.cons (.not (.isi (.slot 0) .list)) (.cons (.not (.bi .all (.cons (.lc (.call 0 (.cons (.slot 1) .nil)) (.nm 1) (.seq (.slot 0)) .non) .nil))) .nil))) (.cons (.rais 3 "BadFamily") .nil) .nil) (.cons (.ife (.or (.cons (.bi .any (.cons (.lc (.cmp .ne (.bi .len (.cons (.slot 1) .nil)) (.bi .len (.cons (.sub (.slot 0) (.int 0)) .nil))) (.nm 1) (.seq (.slot 0)) .non) .nil)) (.cons (.cmp .ne (.lset (.slot 0)) (.bi .len (.cons (.slot 0) .nil))) .nil))) (.cons (.rais 3 "BadFamily") .nil) .nil) .nil))
def p_Apart_shows : Ss := (.cons (.ret (.and (.cons (.cmp .is (.call 20 (.cons (.slot 1) .nil)) .non) (.cons (.cmp .eq (.fld (.slot 0) 1 0) (.call 28 (.cons (.slot 1) .nil))) .nil)))) .nil)
def p_Within_shows : Ss := (.cons (.ife (.or (.cons (.not (.call 9 (.cons (.fld (.slot 0) 2 0) (.cons (.int 0) (.cons (.bin .sub (.bi .len (.cons (.slot 1) .nil)) (.int 1)) .nil))))) (.cons (.not (.call 9 (.cons (.fld (.slot 0) 2 1) (.cons (.int 0) (.cons (.bin .sub (.bi .len (.cons (.slot 1) .nil)) (.int 1)) .nil))))) .nil))) (.cons (.ret (.bl false)) .nil) .nil) (.cons (.ret (.and (.cons (.cmp .ne (.fld (.slot 0) 2 0) (.fld (.slot 0) 2 1)) (.cons (.call 17 (.cons (.call 16 (.cons (.sub (.slot 1) (.fld (.slot 0) 2 0)) .nil)) (.cons (.call 16 (.cons (.sub (.slot 1) (.fld (.slot 0) 2 1)) .nil)) .nil))) .nil)))) .nil))
def p__law_part : Ss := (.cons (.asg 2 false (.bi .sum (.cons (.slot 0) .nil))) (.cons (.asg 3 false (.call 31 (.cons (.slot 0) (.cons (.slot 1) .nil)))) (.cons (.ret (.ite (.or (.cons (.cmp .eq (.bin .mod (.bin .fdiv (.slot 2) (.int 5)) (.int 16)) (.int 7)) (.cons (.cmp .ge (.slot 1) (.int 60)) .nil))) (.slot 3) (.step (.slot 3) (.bin .mod (.slot 2) (.int 3)) 3))) .nil)))
def p_apart : Ss := (.cons (.ex (.call 21 (.cons (.slot 0) .nil))) (.cons (.asg 1 false (.call 20 (.cons (.slot 0) .nil))) (.cons (.ife (.cmp .is (.slot 1) .non) (.cons (.ret (.new 1 (.cons (.call 28 (.cons (.slot 0) .nil)) .nil))) .nil) .nil) (.cons (.ret (.new 2 (.cons (.sub (.slot 1) (.int 0)) (.cons (.sub (.slot 1) (.int 1)) .nil)))) .nil))))
def p_learnt : Ss := (.cons (.ife (.not (.call 9 (.cons (.slot 0) (.cons (.int 0) (.cons (.gint "LONGEST_LEARNT" 8) .nil))))) (.cons (.rais 1 "BadLength") .nil) .nil) (.cons (.ex (.call 22 (.cons (.slot 1) .nil))) (.cons (.ife (.and (.cons (.cmp .ne (.slot 1) (.lst .nil)) (.cons (.cmp .ne (.bi .len (.cons (.sub (.slot 1) (.int 0)) .nil)) (.slot 0)) .nil))) (.cons (.rais 3 "BadFamily") .nil) .nil) (.cons (.asg 2 false (.lc (.call 16 (.cons (.slot 3) .nil)) (.nm 3) (.seq (.slot 1)) .non)) (.cons (.par [4, 5, 6] [true, true, true] (.cons (.lst .nil) (.cons (.lst .nil) (.cons (.lst .nil) .nil)))) (.cons (.for (.nm 7) (.seq (.sortl (.lc (.call 14 (.cons (.slot 0) (.cons (.slot 8) .nil))) (.nm 8) (.rng1 (.call 13 (.cons (.slot 0) .nil))) .non))) (.cons (.for (.nm 9) (.seq (.slot 7)) (.cons (.asg 10 false (.call 16 (.cons (.slot 9) .nil))) (.cons (.ife (.not (.call 25 (.cons (.slot 4) (.cons (.slot 5) (.cons (.slot 10) .nil))))) (.cons (.asg 11 false (.call 23 (.cons (.slot 2) (.cons (.slot 10) .nil)))) (.cons (.ife (.slot 11) (.cons (.app 4 (.slot 10)) .nil) (.cons (.app 5 (.slot 10)) .nil)) (.cons (.app 6 (.tup (.cons (.slot 9) (.cons (.slot 11) .nil)))) .nil))) .nil) .nil))) .nil)) (.cons (.ret (.slot 6)) .nil)))))))
end Pg
namespace Pg
open Mc
def Ok (s : List Nat) : Prop := s.length ≤ 200 ∧ Ch s

/-- the walk of loose_of -/
def lr : List Nat → Nat → List Nat → List Nat → List Nat × List Nat
  | [], _, W, L => (W, L)
  | c :: s, k, W, L => if c = 45 then lr s (k+1) (W ++ [k]) L else if W.isEmpty then lr s (k+1) W (L ++ [k]) else lr s (k+1) W.dropLast L
theorem lr_append : ∀ (a b : List Nat) (k : Nat) (W L : List Nat), lr (a ++ b) k W L = lr b (k + a.length) (lr a k W L).1 (lr a k W L).2
  | [], b, k, W, L => by simp [lr]
  | c :: a, b, k, W, L => by
    simp only [List.cons_append, lr, List.length_cons]
    split
    · rw [lr_append a b]; congr 1; omega
    · split
      · rw [lr_append a b]; congr 1; omega
      · rw [lr_append a b]; congr 1; omega
/-- the walk of with_signs -/
def ws (m : Nat) : List Nat → Nat → List Nat → List Nat
  | [], _, s => s
  | p :: P, a, s => ws m P (a + 1) (s.set p (if a < m then 120 else 45))
theorem ws_snoc (m : Nat) : ∀ (P : List Nat) (q a : Nat) (s : List Nat), ws m (P ++ [q]) a s = (ws m P a s).set q (if a + P.length < m then 120 else 45)
  | [], q, a, s => by simp [ws]
  | p :: P, q, a, s => by
    simp only [List.cons_append, ws, List.length_cons, ws_snoc m P q]
    congr 2; simp; omega
theorem ws_len (m : Nat) : ∀ (P : List Nat) (a : Nat) (s : List Nat), (ws m P a s).length = s.length
  | [], a, s => by simp [ws]
  | p :: P, a, s => by simp [ws, ws_len m P]
theorem ws_app (m : Nat) : ∀ (P : List Nat) (a : Nat) (s r : List Nat), (∀ p ∈ P, p < s.length) → ws m P a (s ++ r) = ws m P a s ++ r
  | [], a, s, r, _ => by simp [ws]
  | p :: P, a, s, r, h => by
    simp only [ws]
    rw [List.set_append_left _ _ (h p (List.mem_cons_self ..)), ws_app m P (a+1) _ r]
    intro q hq; rw [List.length_set]; exact h q (List.mem_cons_of_mem _ hq)

def Bal (B : List Nat) : Prop := Ch B ∧ (∀ k W L, lr B k W L = (W, L)) ∧ 2 * B.count 120 = B.length
theorem _root_.Mc.Ch.app {a b : List Nat} (ha : Ch a) (hb : Ch b) : Ch (a ++ b) := fun c hc => by
  rcases List.mem_append.1 hc with h | h
  · exact ha c h
  · exact hb c h
theorem Bal.nil : Bal [] := ⟨fun c h => by simp at h, fun k W L => rfl, rfl⟩
theorem Bal.app {a b : List Nat} (ha : Bal a) (hb : Bal b) : Bal (a ++ b) :=
  ⟨ha.1.app hb.1, fun k W L => by rw [lr_append, ha.2.1]; exact hb.2.1 _ _ _, by
    have := ha.2.2; have := hb.2.2; simp only [List.count_append, List.length_append]; omega⟩
theorem Bal.wrap {a : List Nat} (ha : Bal a) : Bal (45 :: (a ++ [120])) := by
  refine ⟨?_, fun k W L => ?_, ?_⟩
  · intro c hc
    simp only [List.mem_cons, List.mem_append, List.not_mem_nil, or_false] at hc
    rcases hc with h | h | h
    · exact .inr h
    · exact ha.1 c h
    · exact .inl h
  · simp only [lr, ite_true]
    rw [lr_append, ha.2.1]
    simp [lr]
  · have := ha.2.2
    simp only [List.count_cons, List.count_append, List.length_cons, List.length_append, List.count_nil, List.length_nil]
    simp; omega

inductive Fam : (Nat → List Nat) → List Nat → Prop
  | base (B : List Nat) : Bal B → Fam (fun _ => B) []
  | snoc (T : Nat → List Nat) (P B : List Nat) : Fam T P → Bal B → Fam (fun m => T m ++ ((if P.length < m then 120 else 45) :: B)) (P ++ [(T 0).length])

theorem Fam.ext {T : Nat → List Nat} {P C : List Nat} (h : Fam T P) (hc : Bal C) : Fam (fun m => T m ++ C) P := by
  cases h with
  | base B hB => exact Fam.base _ (hB.app hc)
  | snoc T P B hT hB =>
    have := Fam.snoc T P (B ++ C) hT (hB.app hc)
    simpa using this
theorem Fam.len {T : Nat → List Nat} {P : List Nat} (h : Fam T P) (m : Nat) : (T m).length = (T 0).length := by
  induction h with
  | base B hB => rfl
  | snoc T P B hT hB ih => simp [ih]
theorem Fam.ch {T : Nat → List Nat} {P : List Nat} (h : Fam T P) (m : Nat) : Ch (T m) := by
  induction h with
  | base B hB => exact hB.1
  | snoc T P B hT hB ih =>
    refine ih.app ?_
    intro c hc
    rcases List.mem_cons.1 hc with h | h
    · subst h; split <;> simp
    · exact hB.1 c h
theorem Fam.cut {T : Nat → List Nat} {P : List Nat} (h : Fam T P) (m : Nat) (hm : P.length ≤ m) : T m = T P.length := by
  induction h generalizing m with
  | base B hB => rfl
  | snoc T P B hT hB ih =>
    simp only [List.length_append, List.length_cons, List.length_nil] at hm ⊢
    rw [ih m (by omega), ih (P.length + (0 + 1)) (by omega), if_pos (by omega), if_pos (by omega)]
theorem Fam.rng {T : Nat → List Nat} {P : List Nat} (h : Fam T P) : ∀ p ∈ P, p < (T 0).length := by
  induction h with
  | base B hB => intro p hp; simp at hp
  | snoc T P B hT hB ih =>
    intro p hp
    simp only [List.length_append, List.length_cons]
    rcases List.mem_append.1 hp with h | h
    · have := ih p h; omega
    · simp only [List.mem_cons, List.not_mem_nil, or_false] at h; omega
theorem Fam.lr {T : Nat → List Nat} {P : List Nat} (h : Fam T P) (m : Nat) : lr (T m) 0 [] [] = (P.drop m, P.take m) := by
  induction h with
  | base B hB => simp [hB.2.1]
  | snoc T P B hT hB ih =>
    rw [lr_append, ih, hT.len]
    by_cases hm : P.length < m
    · simp only [if_pos hm, Pg.lr]
      have : P.drop m = [] := List.drop_eq_nil_iff.2 (by omega)
      simp [this, hB.2.1]
      refine ⟨by omega, ?_⟩
      rw [List.take_of_length_le (by omega), List.take_of_length_le (by simp; omega)]
    · simp only [if_neg hm, Pg.lr]
      simp [hB.2.1]
      rw [List.drop_append_of_le_length (by omega), List.take_append_of_le_length (by omega)]
      simp
theorem Fam.ws {T : Nat → List Nat} {P : List Nat} (h : Fam T P) (m k : Nat) : ws m P 0 (T k) = T m := by
  induction h with
  | base B hB => rfl
  | snoc T P B hT hB ih =>
    rw [ws_snoc, ws_app _ _ _ _ _ (by intro p hp; rw [hT.len]; exact hT.rng p hp), ih]
    rw [← hT.len m]
    simp
theorem Fam.count {T : Nat → List Nat} {P : List Nat} (h : Fam T P) : ∃ b, (T 0).length = 2 * b + P.length ∧ ∀ m, m ≤ P.length → (T m).count 120 = b + m := by
  induction h with
  | base B hB => exact ⟨B.count 120, by have := hB.2.2; simp; omega, fun m hm => by simp at hm; simp [hm]⟩
  | snoc T P B hT hB ih =>
    obtain ⟨b, h1, h2⟩ := ih
    have hB2 := hB.2.2
    refine ⟨b + B.count 120, by simp [h1]; omega, fun m hm => ?_⟩
    simp only [List.length_append, List.length_cons, List.length_nil] at hm
    show List.count 120 (T m ++ (if P.length < m then 120 else 45) :: B) = _
    by_cases h : P.length < m
    · have hm' : m = P.length + 1 := by omega
      rw [if_pos h, List.count_append, List.count_cons_self, hT.cut m (by omega), h2 _ (Nat.le_refl _)]; omega
    · rw [if_neg h, List.count_append, h2 m (by omega), List.count_cons]; simp; omega
theorem Fam.sub {T : Nat → List Nat} {P : List Nat} (h : Fam T P) (m : Nat) (k : Nat) (hk : (T m)[k]? = some 120) : (T (m + 1))[k]? = some 120 := by
  induction h generalizing k with
  | base B hB => exact hk
  | snoc T P B hT hB ih =>
    rw [List.getElem?_append] at hk ⊢
    rw [hT.len] at hk ⊢
    by_cases h : k < (T 0).length
    · rw [if_pos h] at hk ⊢; exact ih k hk
    · rw [if_neg h] at hk ⊢
      cases hj : k - (T 0).length with
      | zero =>
        rw [hj] at hk
        simp only [List.getElem?_cons_zero] at hk ⊢
        by_cases hm : P.length < m
        · rw [if_pos (by omega)]
        · rw [if_neg hm] at hk; simp at hk
      | succ j => rw [hj] at hk; simpa using hk
theorem Fam.fil {T : Nat → List Nat} {P : List Nat} (h : Fam T P) (m : Nat) (hm : m ≤ P.length) : (P.filter fun p => decide ((T m)[p]? = some 120)).length = m := by
  induction h generalizing m with
  | base B hB => simp at hm; simp [hm]
  | snoc T P B hT hB ih =>
    have e : ∀ (c : Nat), (P.filter fun p => decide ((T m ++ c :: B)[p]? = some 120)) = P.filter fun p => decide ((T m)[p]? = some 120) := fun c =>
      List.filter_congr fun p hp => by
        rw [List.getElem?_append_left (by rw [hT.len]; exact hT.rng p hp)]
    have e2 : ∀ c : Nat, (T m ++ c :: B)[(T 0).length]? = some c := fun c => by
      rw [List.getElem?_append_right (by rw [hT.len]; exact Nat.le_refl _), hT.len m, Nat.sub_self]; rfl
    simp only [List.length_append, List.length_cons, List.length_nil] at hm
    rw [List.filter_append, e, List.length_append]
    simp only [List.filter_cons, e2, List.filter_nil]
    by_cases h : P.length < m
    · have := ih P.length (Nat.le_refl _)
      rw [hT.cut m (by omega)]; simp only [h, ite_true]; rw [this]; simp; omega
    · have := ih m (by omega)
      simp only [h, ite_false]; rw [this]; simp
theorem fam_of : ∀ (r : List Nat), Ch r → ∃ T P m, Fam T P ∧ m ≤ P.length ∧ T m = r.reverse
  | [], _ => ⟨_, [], 0, Fam.base [] Bal.nil, Nat.le_refl _, rfl⟩
  | c :: r, h => by
    obtain ⟨T, P, m, hF, hm, e⟩ := fam_of r (fun d hd => h d (List.mem_cons_of_mem _ hd))
    rw [List.reverse_cons, ← e]
    rcases h c (List.mem_cons_self ..) with hc | hc
    · subst hc
      by_cases hp : m = P.length
      · refine ⟨_, _, m + 1, Fam.snoc T P [] hF Bal.nil, by simp; omega, ?_⟩
        show T (m+1) ++ (if P.length < m + 1 then 120 else 45) :: [] = _
        rw [if_pos (by omega), hF.cut (m + 1) (by omega), hp]
      · cases hF with
        | base B hB => simp at hm hp; omega
        | snoc T P B hT hB =>
          simp only [List.length_append, List.length_cons, List.length_nil] at hm hp
          refine ⟨_, P, m, hT.ext hB.wrap, by omega, ?_⟩
          show T m ++ _ = (T m ++ (if P.length < m then 120 else 45) :: B) ++ [120]
          rw [if_neg (by omega)]; simp
    · subst hc
      refine ⟨_, _, m, Fam.snoc T P [] hF Bal.nil, by simp; omega, ?_⟩
      show T m ++ (if P.length < m then 120 else 45) :: [] = _
      rw [if_neg (by omega)]
theorem fam_ex (s : List Nat) (h : Ch s) : ∃ T P m, Fam T P ∧ m ≤ P.length ∧ T m = s := by
  obtain ⟨T, P, m, h1, h2, h3⟩ := fam_of s.reverse (fun c hc => h c (List.mem_reverse.1 hc))
  exact ⟨T, P, m, h1, h2, by rw [h3, List.reverse_reverse]⟩
end Pg
namespace Pg
open Mc L2
abbrev Fn := List Sl → Option R
abbrev nI (P : List Nat) : List D := P.map fun (p : Nat) => D.int (p : Int)
abbrev chs (s : List Nat) : List D := s.map fun c => D.str [c]
abbrev Tf (T : Nat → List Nat) (P : List Nat) : List D := (List.range (P.length + 1)).map fun j => .str (T j)
def SIsSet (F : Fn) : Prop := ∀ s, Ok s → F [.fz (.str s)] = some (.val (.bl true))
def SCheckSet (F : Fn) : Prop := ∀ s, Ok s → F [.fz (.str s)] = some (.val .non)
def SLoose (F : Fn) : Prop := ∀ {T : Nat → List Nat} {P : List Nat}, Fam T P → (T 0).length ≤ 200 → ∀ m, F [.fz (.str (T m))] = some (.fresh (nI P))
def SWith (F : Fn) : Prop := ∀ (s P : List Nat) (m : Nat), (∀ p ∈ P, p < s.length) → s.length ≤ 200 → F [.fz (.str s), .fz (.lst (nI P)), .fz (.int m)] = some (.val (.str (ws m P 0 s)))
def SRow (F : Fn) : Prop := ∀ {T : Nat → List Nat} {P : List Nat}, Fam T P → (T 0).length ≤ 200 → ∀ m, F [.fz (.str (T m))] = some (.fresh (Tf T P))
def SBeside (F : Fn) : Prop := ∀ {T : Nat → List Nat} {P : List Nat}, Fam T P → (T 0).length ≤ 200 → ∀ m, m ≤ P.length → ∀ far : Int,
    F [.fz (.str (T m)), .fz (.int far)] = some (.val (if 0 ≤ (m : Int) + far ∧ (m : Int) + far ≤ P.length then .str (T ((m : Int) + far).toNat) else .non))
def SAbove (F : Fn) : Prop := ∀ {T : Nat → List Nat} {P : List Nat}, Fam T P → (T 0).length ≤ 200 → ∀ m, m ≤ P.length → F [.fz (.str (T m))] = some (.val (if m + 1 ≤ P.length then .str (T (m + 1)) else .non))
def SBelow (F : Fn) : Prop := ∀ {T : Nat → List Nat} {P : List Nat}, Fam T P → (T 0).length ≤ 200 → ∀ m, m ≤ P.length → F [.fz (.str (T m))] = some (.val (if 0 < m then .str (T (m - 1)) else .non))
def SInside (F : Fn) : Prop := ∀ a b : List Nat, a.length ≤ 200 → b.length = a.length → (∀ k : Nat, a[k]? = some 120 → b[k]? = some 120) → F [.fz (.str a), .fz (.str b)] = some (.val (.bl true))
theorem is_set_ok (G : Gm) : SIsSet (run G 1 2 p_is_set) := by
  intro s h
  have hl : s.length ≤ LINE := by have := h.1; rw [LN]; omega
  have e : ∀ env : Env, env = [some (.fz (.str s)), none] → ev G (.lc (.cmp .isin (.slot 1) (.str [120, 45])) (.nm 1) (.seq (.slot 0)) .non) env = some (.fresh (s.map fun c => .bl (decide (c ∈ [120, 45])))) := by
    intro env he
    subst he
    refine ev_lc_m s (fun c => .str [c]) _ (by simp) hl ?_
    intro c hc
    exact ⟨_, rfl, by simp [cmpD]⟩
  rw [run_eq _ _ _ _ _ (by rfl), p_is_set]
  simp [e _ rfl, biD, hl, cmpD, blsD_map]
  have := h.1
  simp [show ((s.length : Int) ≤ 200) by omega]
  rw [List.all_eq_true.2]
  intro c hc
  rcases h.2 c hc with h | h <;> simp [h]
theorem check_set_ok (G : Gm) (F0) (g0 : G 0 = some F0) (e0 : SIsSet F0) : SCheckSet (run G 1 1 p_check_set) := by
  intro s h
  rw [run_eq _ _ _ _ _ (by rfl), p_check_set]
  simp [g0, e0 s h]
theorem lr_loop (G : Gm) (a : Option Sl) : ∀ (s : List Nat) (k : Nat) (W L : List Nat) (p c : Option Sl), k + s.length ≤ 1000 → W.length ≤ k → L.length ≤ k → 
    ∃ p' c', forLoop (bindT (.tp [3, 4])) (execs G (.cons (.ife (.cmp .eq (.slot 4) (.str [45])) (.cons (.app 1 (.slot 3)) .nil) (.cons (.ife (.cmp .gt (.bi .len (.cons (.slot 1) .nil)) (.int 0)) (.cons (.pop 1) .nil) (.cons (.app 2 (.slot 3)) .nil)) .nil)) .nil)) (enumD k (s.map fun c => .str [c])) [a, some (.own (nI W)), some (.own (nI L)), p, c]
      = some (.next [a, some (.own (nI (lr s k W L).1)), some (.own (nI (lr s k W L).2)), p', c'])
  | [], k, W, L, p, c, _, _, _ => ⟨p, c, rfl⟩
  | x :: s, k, W, L, p, c, hk, hW, hL => by
    simp only [List.length_cons] at hk
    have hW' : W.length < LINE := by rw [LN]; omega
    have hL' : L.length < LINE := by rw [LN]; omega
    simp only [List.map_cons, enumD, forLoop, bindT2, setAll0, setAll1, setE1, lr]
    have ek : ((k : Int) + 1) = ((k + 1 : Nat) : Int) := by omega
    by_cases hx : x = 45
    · obtain ⟨p', c', ih⟩ := lr_loop G a s (k + 1) (W ++ [k]) L (some (.fz (.int k))) (some (.fz (.str [x]))) (by omega) (by simp; omega) (by omega)
      refine ⟨p', c', ?_⟩
      simp [hx, cmpD, eqD, hW']
      simp [hx] at ih
      exact ih
    · by_cases hw : W.isEmpty
      · obtain ⟨p', c', ih⟩ := lr_loop G a s (k + 1) W (L ++ [k]) (some (.fz (.int k))) (some (.fz (.str [x]))) (by omega) (by omega) (by simp; omega)
        refine ⟨p', c', ?_⟩
        have : W = [] := by simpa using hw
        subst this
        simp [hx, cmpD, eqD, hL', biD]
        simp at ih
        exact ih
      · obtain ⟨p', c', ih⟩ := lr_loop G a s (k + 1) W.dropLast L (some (.fz (.int k))) (some (.fz (.str [x]))) (by omega) (by simp; omega) (by omega)
        refine ⟨p', c', ?_⟩
        have h0 : 0 < W.length := by cases W <;> simp at hw ⊢
        simp [hx, cmpD, eqD, hL', biD, hw, h0]
        simp [show ¬ W = [] from fun h => by simp [h] at hw] at ih ⊢
        exact ih
theorem Fam.ok {T : Nat → List Nat} {P : List Nat} (h : Fam T P) (h2 : (T 0).length ≤ 200) (m : Nat) : Ok (T m) := ⟨by rw [h.len]; exact h2, h.ch m⟩
theorem Fam.pl {T : Nat → List Nat} {P : List Nat} (h : Fam T P) (h2 : (T 0).length ≤ 200) : P.length ≤ 200 := by
  obtain ⟨b, h, _⟩ := h.count; omega
theorem loose_of_ok (G : Gm) : SLoose (run G 1 5 p_loose_of) := by
  intro T P h h2 m
  rw [run_eq _ _ _ _ _ (by rfl), p_loose_of]
  obtain ⟨p', c', e⟩ := lr_loop G (some (.fz (.str (T m)))) (T m) 0 [] [] none none (by have := h.len m; omega) (by simp) (by simp)
  simp [List.replicate]
  rw [exec_for (items := enumD 0 ((T m).map fun c => .str [c])) (by simp) (by simp)]
  simp [nI] at e
  rw [e]
  have hl : P.length ≤ LINE := by have := h.pl h2; rw [LN]; omega
  simp [binD, h.lr, show min m P.length + (P.length - m) ≤ LINE by omega]
theorem ws_loop (G : Gm) (A B : Option Sl) (m : Nat) : ∀ (P : List Nat) (a : Nat) (s : List Nat) (x y : Option Sl), (∀ p ∈ P, p < s.length) →
    ∃ x' y', forLoop (bindT (.tp [4, 5])) (execs G (.cons (.seti 3 (.slot 5) (.ite (.cmp .lt (.slot 4) (.slot 2)) (.str [120]) (.str [45]))) .nil)) (enumD a (nI P)) [A, B, some (.fz (.int m)), some (.own (chs s)), x, y]
      = some (.next [A, B, some (.fz (.int m)), some (.own (chs (ws m P a s))), x', y'])
  | [], a, s, x, y, _ => ⟨x, y, rfl⟩
  | p :: P, a, s, x, y, h => by
    simp only [List.map_cons, enumD, forLoop, bindT2, setAll0, setAll1, setE1, ws]
    have hp := h p (List.mem_cons_self ..)
    obtain ⟨x', y', ih⟩ := ws_loop G A B m P (a + 1) (s.set p (if a < m then 120 else 45)) (some (.fz (.int a))) (some (.fz (.int p))) (by
      intro q hq; rw [List.length_set]; exact h q (List.mem_cons_of_mem _ hq))
    refine ⟨x', y', ?_⟩
    simp at ih
    by_cases ha : a < m
    · simp [cmpD, ha, ixN, hp]
      simp [ha] at ih
      exact ih
    · simp [cmpD, ha, ixN, hp]
      simp [ha] at ih
      exact ih
theorem flat1 : ∀ s : List Nat, (s.map fun c => [c]).flatten = s
  | [] => rfl
  | c :: s => by simp [flat1 s]
theorem with_signs_ok (G : Gm) : SWith (run G 3 6 p_with_signs) := by
  intro s P m h hs
  rw [run_eq _ _ _ _ _ (by rfl), p_with_signs]
  obtain ⟨x', y', e⟩ := ws_loop G (some (.fz (.str s))) (some (.fz (.lst (nI P)))) m P 0 s none none h
  have hl : s.length ≤ LINE := by rw [LN]; omega
  simp [List.replicate, biD, hl]
  rw [exec_for (items := enumD 0 (nI P)) (by simp) (by simp)]
  simp [nI] at e
  rw [e]
  simp [mtD, strsD_map, flat1, ws_len, hl]
theorem row_of_ok (G : Gm) (F2 F3) (g2 : G 2 = some F2) (g3 : G 3 = some F3) (s2 : SLoose F2) (s3 : SWith F3) : SRow (run G 1 3 p_row_of) := by
  intro T P h h2 m
  have hp := h.pl h2
  have e2 := s2 h h2 m
  have e3 : ∀ j : Nat, F3 [.fz (.str (T m)), .fz (.lst (nI P)), .fz (.int j)] = some (.val (.str (T j))) := fun j => by
    rw [← h.ws j m]; exact s3 (T m) P j (by rw [h.len]; exact h.rng) (by rw [h.len]; exact h2)
  refine run_ret [some (.fz (.str (T m))), none, none] rfl rfl ?_
  refine q_next [some (.fz (.str (T m))), some (.fz (.lst (nI P))), none] (q_asg _ (q_call _ _ _ (by simp) g2 e2 rfl) rfl) ?_
  refine q_ret (q_rf _ (ev_lc_m (List.range (P.length + 1)) (fun (i : Nat) => D.int (i : Int)) (fun j => .str (T j)) ?_ ?_ ?_))
  · simp [biD, binD]
    rw [show ((P.length : Int) + 1) = ((P.length + 1 : Nat) : Int) by omega, small62_nat _ (by omega)]
    simp [rangeD0]
  · rw [List.length_range, LN]; omega
  · intro j hj
    refine ⟨_, rfl, ?_⟩
    simp [g3, e3]
theorem row_ok (G : Gm) (F1 F4) (g1 : G 1 = some F1) (g4 : G 4 = some F4) (s1 : SCheckSet F1) (s4 : SRow F4) : SRow (run G 1 1 p_row) := by
  intro T P h h2 m
  have e1 := s1 _ (h.ok h2 m)
  have e4 := s4 h h2 m
  rw [run_eq _ _ _ _ _ (by rfl), p_row]
  simp [List.replicate, g1, g4, e1, e4]
theorem beside_ok (G : Gm) (F2 F3) (g2 : G 2 = some F2) (g3 : G 3 = some F3) (s2 : SLoose F2) (s3 : SWith F3) : SBeside (run G 2 5 p_beside) := by
  intro T P h h2 m hm far
  have hp := h.pl h2
  have e2 := s2 h h2 m
  have e3 : ∀ j : Nat, F3 [.fz (.str (T m)), .fz (.lst (nI P)), .fz (.int j)] = some (.val (.str (T j))) := fun j => by
    rw [← h.ws j m]; exact s3 (T m) P j (by rw [h.len]; exact h.rng) (by rw [h.len]; exact h2)
  rw [run_eq _ _ _ _ _ (by rfl), p_beside]
  simp [List.replicate, g2, e2]
  rw [ev_lc_fm P (fun (i : Nat) => D.int (i : Int)) (fun p => decide ((T m)[p]? = some 120)) (fun (i : Nat) => D.int (i : Int))]
  · simp [biD, binD, h.fil m hm, cmpD]
    by_cases c1 : 0 ≤ (m : Int) + far
    · by_cases c2 : (m : Int) + far ≤ P.length
      · have e : (m : Int) + far = (((m : Int) + far).toNat : Int) := by omega
        have e4 := e3 ((m : Int) + far).toNat
        rw [← e] at e4
        simp [c1, c2, g3, e4]
      · simp [c1, c2]
    · simp [c1]
  · simp
  · rw [LN]; omega
  · intro p hpP
    refine ⟨_, rfl, ?_, ?_⟩
    · have hr := h.rng p hpP
      have hl : (T m).length ≤ LINE := by rw [h.len, LN]; omega
      have hr' : p < (T m).length := by rw [h.len]; exact hr
      simp [subD, atI, ixN, cmpD, eqD, hl, hr']
    · simp
theorem above_ok (G : Gm) (F1 F6) (g1 : G 1 = some F1) (g6 : G 6 = some F6) (s1 : SCheckSet F1) (s6 : SBeside F6) : SAbove (run G 1 1 p_above) := by
  intro T P h h2 m hm
  have e1 := s1 _ (h.ok h2 m)
  have e6 := s6 h h2 m hm 1
  have q : (0 ≤ (m : Int) + 1 ∧ (m : Int) + 1 ≤ P.length) ↔ m + 1 ≤ P.length := by omega
  rw [show ((m : Int) + 1).toNat = m + 1 by omega] at e6
  simp only [q] at e6
  rw [run_eq _ _ _ _ _ (by rfl), p_above]
  simp [List.replicate, g1, g6, e1, e6]
theorem below_ok (G : Gm) (F1 F6) (g1 : G 1 = some F1) (g6 : G 6 = some F6) (s1 : SCheckSet F1) (s6 : SBeside F6) : SBelow (run G 1 1 p_below) := by
  intro T P h h2 m hm
  have e1 := s1 _ (h.ok h2 m)
  have e6 := s6 h h2 m hm (-1)
  have q : (0 ≤ (m : Int) + -1 ∧ (m : Int) + -1 ≤ P.length) ↔ 0 < m := by omega
  rw [show ((m : Int) + -1).toNat = m - 1 by omega] at e6
  simp only [q] at e6
  rw [run_eq _ _ _ _ _ (by rfl), p_below]
  simp [List.replicate, g1, g6, e1, e6]
theorem _root_.Mc.Ch.okc {s : List Nat} (h : Ch s) : okc s = true := by
  rw [Mc.okc, List.all_eq_true]
  intro c hc
  rcases h c hc with h | h <;> simp [h]
theorem _law_inside_ok (G : Gm)  : SInside (run G 2 3 p__law_inside) := by
  intro a b ha hab h
  refine run_ret [some (.fz (.str a)), some (.fz (.str b)), none] rfl rfl ?_
  have hl : a.length ≤ LINE := by rw [LN]; omega
  have e : ev G (.lc (.cmp .eq (.sub (.slot 1) (.slot 2)) (.str [120])) (.nm 2) (.rng1 (.bi .len (.cons (.slot 0) .nil))) (.one (.cmp .eq (.sub (.slot 0) (.slot 2)) (.str [120])))) [some (.fz (.str a)), some (.fz (.str b)), none]
      = some (.fresh (((List.range a.length).filter fun k => decide (a[k]? = some 120)).map fun k => .bl true)) := by
    refine ev_lc_fm (List.range a.length) (fun (i : Nat) => D.int (i : Int)) _ _ ?_ ?_ ?_
    · simp [biD, hl, small62_nat a.length (by omega), rangeD0]
    · rw [List.length_range]; exact hl
    · intro k hk
      have hk : k < a.length := List.mem_range.1 hk
      refine ⟨_, rfl, ?_, ?_⟩
      · simp [subD, atI, ixN, cmpD, eqD, hl, hk]
      · intro hp
        have := h k (by simpa using hp)
        have hb : b[k]'(by omega) = 120 := by
          rw [List.getElem?_eq_getElem (by omega)] at this; simpa using this
        simp [subD, atI, ixN, cmpD, eqD, hl, hk, hab, hb]
  refine q_ret (q_rv _ ?_)
  rw [ev_bi, evD1, e]
  simp [biD, blsD_map]
theorem subD_T (T : Nat → List Nat) (P : List Nat) (j : Nat) (hj : j ≤ P.length) : subD (.lst (Tf T P)) (.int j) = some (.str (T j)) := by
  have e : ixN (Tf T P).length (j : Int) = some j := by
    rw [ixN, if_pos (by omega), if_pos (by simp; omega)]; simp
  rw [subD, atI, e]
  simp [show j < P.length + 1 by omega]
theorem subD_last (T : Nat → List Nat) (P : List Nat) : subD (.lst (Tf T P)) (.int (-1)) = some (.str (T P.length)) := by
  have e : ixN (Tf T P).length (-1) = some P.length := by
    rw [ixN, if_neg (by omega), if_pos (by simp; omega)]; simp; omega
  rw [subD, atI, e]
  simp
end Pg
namespace Pg
open Mc L2
/-- binomials -/
def C : Nat → Nat → Nat
  | _, 0 => 1
  | 0, _ + 1 => 0
  | n + 1, k + 1 => C n k + C n (k + 1)
theorem C_zero (n : Nat) : C n 0 = 1 := by cases n <;> rfl
theorem C_gt : ∀ (n k : Nat), n < k → C n k = 0
  | 0, 0, h => absurd h (Nat.lt_irrefl _)
  | 0, k + 1, _ => rfl
  | n + 1, 0, h => absurd h (Nat.not_lt_zero _)
  | n + 1, k + 1, h => by rw [C, C_gt n k (by omega), C_gt n (k + 1) (by omega)]
theorem C_step : ∀ (n k : Nat), k ≤ n → C n k * (n - k) = C n (k + 1) * (k + 1)
  | 0, k, h => by
    have : k = 0 := by omega
    subst this; rfl
  | n + 1, 0, _ => by
    rw [C_zero, C, C_zero]
    cases n with
    | zero => rfl
    | succ n =>
      have := C_step (n + 1) 0 (by omega)
      rw [C_zero] at this
      omega
  | n + 1, k + 1, h => by
    have h1 := C_step n k (by omega)
    rw [C, C]
    by_cases hk : k + 1 ≤ n
    · have h2 := C_step n (k + 1) hk
      obtain ⟨d, hd⟩ : ∃ d, n = k + 1 + d := ⟨n - (k + 1), by omega⟩
      subst hd
      rw [show k + 1 + d - k = d + 1 by omega] at h1
      rw [show k + 1 + d - (k + 1) = d by omega] at h2
      rw [show k + 1 + d + 1 - (k + 1) = d + 1 by omega]
      generalize C (k + 1 + d) k = a at *
      generalize C (k + 1 + d) (k + 1) = b at *
      generalize C (k + 1 + d) (k + 1 + 1) = c at *
      rw [Nat.mul_add, Nat.mul_one] at h1
      simp only [Nat.add_mul, Nat.mul_add, Nat.mul_one] at *
      omega
    · have : n = k := by omega
      subst this
      rw [C_gt n (n + 1) (by omega), C_gt n (n + 1 + 1) (by omega)]
      simp
theorem C_pow : ∀ n k : Nat, C n k ≤ 2 ^ n
  | 0, 0 => by decide
  | 0, k + 1 => by rw [C]; omega
  | n + 1, 0 => by rw [C]; exact Nat.one_le_two_pow
  | n + 1, k + 1 => by
    rw [C, Nat.pow_succ]
    have := C_pow n k
    have := C_pow n (k + 1)
    omega
theorem C_pos : ∀ n k : Nat, k ≤ n → 0 < C n k
  | _, 0, _ => by rw [C_zero]; omega
  | 0, k + 1, h => by omega
  | n + 1, k + 1, h => by rw [C]; have := C_pos n k (by omega); omega
/-- fast -/
def pk (n : Nat) : Nat → Nat
  | 0 => 1
  | k + 1 => pk n k * (n - k) / (k + 1)
theorem pk_C (n : Nat) : ∀ k, k ≤ n + 1 → pk n k = C n k
  | 0, _ => by rw [pk, C_zero]
  | k + 1, h => by rw [pk, pk_C n k (by omega), C_step n k (by omega), Nat.mul_div_cancel _ (by omega)]
/-- ways on with w waiting -/
def N : Nat → Nat → Nat
  | 0, _ => 1
  | l + 1, 0 => N l 1
  | l + 1, w + 1 => N l (w + 1 + 1) + N l w
def nxt : Nat → List Nat → List Nat
  | p, a :: b :: r => (b + p) :: nxt a (b :: r)
  | _, _ => []
theorem nxt_N (l : Nat) : ∀ (n a : Nat), nxt (match a with | 0 => 0 | v + 1 => N l v) ((List.range' a (n + 1)).map (N l)) = (List.range' a n).map (N (l + 1))
  | 0, a => by simp [List.range', nxt]
  | n + 1, a => by
    have ih := nxt_N l n (a + 1)
    conv => lhs; rw [List.range'_succ, List.range'_succ, List.map_cons, List.map_cons, nxt]
    rw [List.range'_succ, List.map_cons] at ih
    conv => rhs; rw [List.range'_succ, List.map_cons]
    simp only [] at ih
    rw [ih]
    cases a with
    | zero => simp [N]
    | succ a => simp [N]
def chk : Nat → Nat → List Nat → Bool
  | 0, _, _ => true
  | f + 1, l, r => (match r with | a :: _ => a == pk l (l / 2) | [] => false) && chk f (l + 1) (nxt 0 r)
theorem chk_N : ∀ (f l n : Nat), chk f l ((List.range' 0 (n + f)).map (N l)) = true → ∀ j, j < f → N (l + j) 0 = pk (l + j) ((l + j) / 2)
  | 0, _, _, _, j, h => absurd h (Nat.not_lt_zero _)
  | f + 1, l, n, h, j, hj => by
    rw [chk.eq_def] at h
    simp only [] at h
    have e := nxt_N l (n + f) 0
    simp only [] at e
    rw [show n + (f + 1) = n + f + 1 by omega] at h
    rw [e, Bool.and_eq_true] at h
    cases j with
    | zero =>
      have h1 := h.1
      rw [List.range'_succ, List.map_cons] at h1
      simpa using h1
    | succ j =>
      have := chk_N f (l + 1) n h.2 j (by omega)
      rwa [show l + 1 + j = l + (j + 1) by omega] at this
theorem row0 : ∀ n a, (List.range' a n).map (N 0) = List.replicate n 1
  | 0, _ => rfl
  | n + 1, a => by rw [List.range'_succ, List.map_cons, row0 n, N, List.replicate]
theorem chk_all : chk 201 0 (List.replicate 202 1) = true := by decide +kernel
theorem N_C (n : Nat) (h : n ≤ 200) : N n 0 = C n (n / 2) := by
  have := chk_N 201 0 1 (by rw [row0]; exact chk_all) n (by omega)
  rw [Nat.zero_add] at this
  rw [this, pk_C _ _ (by omega)]
theorem N_pow : ∀ l w, N l w ≤ 2 ^ l
  | 0, _ => by rw [N]; decide
  | l + 1, 0 => by rw [N, Nat.pow_succ]; have := N_pow l 1; omega
  | l + 1, w + 1 => by rw [N, Nat.pow_succ]; have := N_pow l (w + 1 + 1); have := N_pow l w; omega
/-- first sets in order -/
def rank : List Nat → Nat → Nat
  | [], _ => 0
  | c :: s, w => if c = 45 then rank s (w + 1) else N s.length (w + 1) + rank s (w - 1)
def valid : List Nat → Nat → Prop
  | [], _ => True
  | c :: s, w => if c = 45 then valid s (w + 1) else 0 < w ∧ c = 120 ∧ valid s (w - 1)
def unrank : Nat → Nat → Nat → List Nat
  | 0, _, _ => []
  | l + 1, w, k => if k < N l (w + 1) then 45 :: unrank l (w + 1) k else 120 :: unrank l (w - 1) (k - N l (w + 1))
theorem unrank_ok : ∀ l w k, k < N l w → valid (unrank l w k) w ∧ rank (unrank l w k) w = k ∧ (unrank l w k).length = l
  | 0, w, k, h => by rw [N] at h; simp [unrank, valid, rank]; omega
  | l + 1, w, k, h => by
    rw [unrank]
    by_cases hk : k < N l (w + 1)
    · rw [if_pos hk]
      obtain ⟨h1, h2, h3⟩ := unrank_ok l (w + 1) k hk
      simp [valid, rank, h1, h2, h3]
    · rw [if_neg hk]
      cases w with
      | zero => rw [N] at h; exact absurd h hk
      | succ w =>
        rw [N] at h
        obtain ⟨h1, h2, h3⟩ := unrank_ok l w (k - N l (w + 1 + 1)) (by omega)
        simp [valid, rank, h1, h2, h3]
        omega
theorem rank_ok : ∀ s w, valid s w → rank s w < N s.length w ∧ unrank s.length w (rank s w) = s
  | [], w, _ => by simp [rank, N, unrank]
  | c :: s, w, h => by
    rw [valid] at h
    by_cases hc : c = 45
    · rw [if_pos hc] at h
      obtain ⟨h1, h2⟩ := rank_ok s (w + 1) h
      simp only [rank, hc, ite_true, List.length_cons, unrank, h1, h2]
      refine ⟨?_, trivial⟩
      cases w with
      | zero => rw [N]; exact h1
      | succ w => rw [N]; omega
    · rw [if_neg hc] at h
      obtain ⟨h1, h2⟩ := rank_ok s (w - 1) h.2.2
      cases w with
      | zero => omega
      | succ w =>
        simp only [rank, hc, ite_false, List.length_cons, unrank, N]
        simp only [Nat.add_sub_cancel] at h1 h2
        rw [if_neg (by omega), Nat.add_sub_cancel_left]
        simp only [Nat.add_sub_cancel, h2, h.2.1]
        exact ⟨by omega, trivial⟩
theorem lr_valid : ∀ (s : List Nat) (k : Nat) (W L : List Nat), Ch s → L.length ≤ (lr s k W L).2.length ∧ ((lr s k W L).2.length = L.length ↔ valid s W.length)
  | [], k, W, L, _ => by simp [lr, valid]
  | c :: s, k, W, L, h => by
    have hs : Ch s := fun d hd => h d (List.mem_cons_of_mem _ hd)
    have hc := h c (List.mem_cons_self ..)
    rw [lr, valid]
    by_cases h45 : c = 45
    · rw [if_pos h45, if_pos h45]
      have := lr_valid s (k + 1) (W ++ [k]) L hs
      simpa using this
    · rw [if_neg h45, if_neg h45]
      by_cases hW : W.isEmpty
      · rw [if_pos hW]
        have h1 := lr_valid s (k + 1) W (L ++ [k]) hs
        have : W = [] := by simpa using hW
        subst this
        simp only [List.length_append, List.length_cons, List.length_nil] at h1 ⊢
        refine ⟨by omega, ?_⟩
        constructor
        · intro e; omega
        · intro e; omega
      · rw [if_neg hW]
        have h1 := lr_valid s (k + 1) W.dropLast L hs
        have h0 : 0 < W.length := by cases W <;> simp at hW ⊢
        rw [List.length_dropLast] at h1
        refine ⟨h1.1, h1.2.trans ⟨fun e => ⟨h0, by omega, e⟩, fun e => e.2.2⟩⟩
theorem Fam.valid {T : Nat → List Nat} {P : List Nat} (h : Fam T P) : valid (T 0) 0 := by
  have := (lr_valid (T 0) 0 [] [] (h.ch 0)).2
  rw [h.lr] at this
  exact this.1 (by simp)
theorem valid_ch : ∀ s w, valid s w → Ch s
  | [], _, _ => fun c hc => by simp at hc
  | c :: s, w, h => by
    rw [valid] at h
    intro d hd
    by_cases hc : c = 45
    · rw [if_pos hc] at h
      rcases List.mem_cons.1 hd with e | e
      · exact .inr (e.trans hc)
      · exact valid_ch s _ h d e
    · rw [if_neg hc] at h
      rcases List.mem_cons.1 hd with e | e
      · exact .inl (e.trans h.2.1)
      · exact valid_ch s _ h.2.2 d e
theorem fam_valid (s : List Nat) (h : Pg.valid s 0) : ∃ T P, Fam T P ∧ T 0 = s := by
  obtain ⟨T, P, m, h1, h2, h3⟩ := fam_ex s (valid_ch _ _ h)
  refine ⟨T, P, h1, ?_⟩
  have e := (lr_valid s 0 [] [] (valid_ch _ _ h)).2.2 h
  rw [← h3, h1.lr] at e
  simp only [List.length_take, List.length_nil] at e
  have : m = 0 := by omega
  rw [← h3, this]
theorem fam_rank (n k : Nat) (h : k < N n 0) : ∃ T P, Fam T P ∧ (T 0).length = n ∧ rank (T 0) 0 = k := by
  obtain ⟨h1, h2, h3⟩ := unrank_ok n 0 k h
  obtain ⟨T, P, hF, e⟩ := fam_valid _ h1
  exact ⟨T, P, hF, by rw [e, h3], by rw [e, h2]⟩
end Pg
namespace Pg
open Mc L2
def SIsNumber (F : Fn) : Prop := ∀ i lo hi : Int, F [.fz (.int i), .fz (.int lo), .fz (.int hi)] = some (.val (.bl (decide (lo ≤ i ∧ i ≤ hi))))
def SCheckLength (F : Fn) : Prop := ∀ n : Nat, n ≤ 200 → F [.fz (.int n)] = some (.val .non)
def SPicks (F : Fn) : Prop := ∀ n k : Nat, n ≤ 200 → k ≤ n → F [.fz (.int n), .fz (.int k)] = some (.val (.int (C n k)))
def SRows (F : Fn) : Prop := ∀ n : Nat, n ≤ 200 → F [.fz (.int n)] = some (.val (.int (C n (n / 2))))
abbrev rL (n l : Nat) : List D := (List.range (n + 2 - l)).map fun w => .int (N l w)
abbrev rLL (n : Nat) (m : Nat) : List D := (List.range m).map fun l => .lst (rL n l)
def SRests (F : Fn) : Prop := ∀ n : Nat, n ≤ 200 → F [.fz (.int n)] = some (.fresh (rLL n (n + 1)))
def SRowBy (F : Fn) : Prop := ∀ {T : Nat → List Nat} {P : List Nat}, Fam T P → ∀ n k : Nat, n ≤ 200 → (T 0).length = n → rank (T 0) 0 = k → F [.fz (.int n), .fz (.int k)] = some (.fresh (Tf T P))
def SNumberOf (F : Fn) : Prop := ∀ {T : Nat → List Nat} {P : List Nat}, Fam T P → (T 0).length ≤ 200 → ∀ m, F [.fz (.str (T m))] = some (.val (.int (rank (T 0) 0)))

theorem is_number_ok (G : Gm) : SIsNumber (run G 3 3 p_is_number) := by
  intro i lo hi
  refine run_ret [some (.fz (.int i)), some (.fz (.int lo)), some (.fz (.int hi))] rfl rfl ?_
  refine q_ret (q_rv _ ?_)
  refine q_and1 (by simp [isiD]) ?_
  refine q_and1 (q_not false (by simp [isiD])) ?_
  by_cases h1 : lo ≤ i
  · by_cases h2 : i ≤ hi
    · exact (q_and1 (by simp [cmpD, h1, h2]) q_andN).trans (by simp [h1, h2])
    · exact (q_and0 (by simp [cmpD, h1, h2])).trans (by simp [h1, h2])
  · exact (q_and0 (by simp [cmpD, h1])).trans (by simp [h1])
theorem check_length_ok (G : Gm) (F9) (g9 : G 9 = some F9) (s9 : SIsNumber F9) : SCheckLength (run G 1 1 p_check_length) := by
  intro n hn
  rw [run_eq _ _ _ _ _ (by rfl), p_check_length]
  have e := s9 n 0 200
  rw [decide_eq_true (by omega)] at e
  simp [g9, e]
theorem bits_nat (a m : Nat) (h : a < 2 ^ m) : bits (a : Int) ≤ m := PySem.intBits_le_iff.2 (by simpa using h)
theorem picks_loop (G : Gm) (n : Nat) (hn : n ≤ 200) (B : Option Sl) : ∀ (m a : Nat) (x : Option Sl), a + m ≤ n → ∃ x', forLoop (bindT (.nm 3)) (execs G (.cons (.asg 2 false (.bin .fdiv (.bin .mul (.slot 2) (.bin .sub (.slot 0) (.slot 3))) (.bin .add (.slot 3) (.int 1)))) .nil))
    ((List.range' a m).map fun (i : Nat) => D.int (i : Int)) [some (.fz (.int n)), B, some (.fz (.int (C n a))), x] = some (.next [some (.fz (.int n)), B, some (.fz (.int (C n (a + m)))), x'])
  | 0, a, x, _ => ⟨x, rfl⟩
  | m + 1, a, x, h => by
    obtain ⟨x', ih⟩ := picks_loop G n hn B m (a + 1) (some (.fz (.int a))) (by omega)
    refine ⟨x', ?_⟩
    rw [List.range'_succ, List.map_cons, forLoop, bindT1]
    simp only [setE1, List.set_cons_zero, List.set_cons_succ]
    have hb : bits (C n a : Int) ≤ 201 := bits_nat _ _ (Nat.lt_of_le_of_lt (C_pow n a) (Nat.pow_lt_pow_right (by omega) (by omega)))
    have hb2 : bits ((n : Int) - a) ≤ 8 := by
      rw [show (n : Int) - a = ((n - a : Nat) : Int) by omega]; exact bits_nat _ _ (by have : 2 ^ 8 = 256 := rfl; omega)
    have e : (C n a : Int) * ((n : Int) - a) / ((a : Int) + 1) = (C n (a + 1) : Int) := by
      have := C_step n a (by omega)
      rw [show (n : Int) - a = ((n - a : Nat) : Int) by omega, ← Int.natCast_mul, this, show (a : Int) + 1 = ((a + 1 : Nat) : Int) by omega, ← Int.natCast_ediv, Nat.mul_div_cancel _ (by omega)]
    have d : (0 : Int) < (a : Int) + 1 ∧ ((a : Int) + 1).natAbs.log2 < 9000 := by
      refine ⟨by omega, ?_⟩
      rw [show ((a : Int) + 1).natAbs = a + 1 by omega]
      refine Nat.lt_of_le_of_lt (Nat.log2_le_self _) (by omega)
    have e2 : ev G (.bin .fdiv (.bin .mul (.slot 2) (.bin .sub (.slot 0) (.slot 3))) (.bin .add (.slot 3) (.int 1))) [some (.fz (.int n)), B, some (.fz (.int (C n a))), some (.fz (.int a))] = some (.val (.int (C n (a + 1)))) := by
      refine q_bin (.val (.int ((C n a : Int) * ((n : Int) - a)))) (.val (.int ((a : Int) + 1))) _ (q_bin (.val (.int (C n a))) (.val (.int ((n : Int) - a))) _ (by simp) (by simp [binD]) (ml _ _ (by omega))) (by simp [binD]) ?_
      rw [Rd1, Rd1, fd _ _ d.1 d.2, e]
    rw [q_next [some (.fz (.int n)), B, some (.fz (.int (C n (a + 1)))), some (.fz (.int a))] (q_asg _ e2 rfl) (execs0 _ _)]
    simp only []
    rw [ih, show a + 1 + m = a + (m + 1) by omega]
theorem picks_ok (G : Gm) : SPicks (run G 2 4 p_picks) := by
  intro n k hn hk
  refine run_ret [some (.fz (.int n)), some (.fz (.int k)), none, none] rfl rfl ?_
  refine q_next [some (.fz (.int n)), some (.fz (.int k)), some (.fz (.int 1)), none] (q_asg (.val (.int 1)) (by simp) rfl) ?_
  obtain ⟨x', e⟩ := picks_loop G n hn (some (.fz (.int k))) k 0 none (by omega)
  rw [C_zero, Nat.zero_add] at e
  refine q_next _ (q_for _ (srcFix4 _ _ _) ?_ e) ?_
  · simp [small62_nat k (by omega), rangeD0, List.range_eq_range']
  · exact q_ret (q_rv _ (by simp))
theorem half_eq (n : Nat) : (n : Int) / 2 = ((n / 2 : Nat) : Int) := by omega
theorem rows_ok (G : Gm) (F10 F11) (g10 : G 10 = some F10) (g11 : G 11 = some F11) (s10 : SCheckLength F10) (s11 : SPicks F11) : SRows (run G 1 1 p_rows) := by
  intro n hn
  refine run_ret [some (.fz (.int n))] rfl rfl ?_
  have d2 : (0 : Int) < 2 ∧ (2 : Int).natAbs.log2 < 9000 := by decide
  refine q_next [some (.fz (.int n))] (by rw [exec_ex, q_call _ _ _ (by simp) g10 (s10 n hn) rfl]) ?_
  refine q_ret (q_rv _ (q_call [.fz (.int n), .fz (.int (n / 2 : Nat))] F11 _ ?_ g11 (s11 n (n / 2) hn (by omega)) rfl))
  simp [fd _ 2 d2.1 d2.2]
end Pg
namespace Pg
open Mc L2
theorem sub_range (f : Nat → D) (m i : Nat) (h : i < m) : subD (.lst ((List.range m).map f)) (.int i) = some (f i) := by
  have e : ixN ((List.range m).map f).length (i : Int) = some i := by
    rw [ixN, if_pos (by omega), if_pos (by simp; omega)]; simp
  rw [subD, atI, e]
  simp [h]
theorem sub_range_last (f : Nat → D) (m : Nat) : subD (.lst ((List.range (m + 1)).map f)) (.int (-1)) = some (f m) := by
  have e : ixN ((List.range (m + 1)).map f).length (-1) = some m := by
    rw [ixN, if_neg (by omega), if_pos (by simp; omega)]; simp; omega
  rw [subD, atI, e]
  simp
def rIn : Ss := (.cons (.asg 6 false (.ite (.cmp .gt (.slot 2) (.int 0)) (.sub (.slot 4) (.bin .sub (.slot 2) (.int 1))) (.int 0))) (.cons (.app 5 (.bin .add (.sub (.slot 4) (.bin .add (.slot 2) (.int 1))) (.slot 6))) .nil))
abbrev nL (l m : Nat) : List D := (List.range m).map fun w => .int (N l w)
theorem rests_in (G : Gm) (l k : Nat) (hk : k ≤ 300) (A B E : Option Sl) : ∀ (m a : Nat) (x y : Option Sl), a + m + 1 ≤ k → ∃ x' y',
    forLoop (bindT (.nm 2)) (execs G rIn) ((List.range' a m).map fun (i : Nat) => D.int (i : Int)) [A, B, x, E, some (.fz (.lst (nL l k))), some (.own (nL (l + 1) a)), y]
      = some (.next [A, B, x', E, some (.fz (.lst (nL l k))), some (.own (nL (l + 1) (a + m))), y'])
  | 0, a, x, y, _ => ⟨x, y, rfl⟩
  | m + 1, a, x, y, h => by
    have s1 := sub_range (fun w => .int (N l w)) k (a + 1) (by omega)
    rw [show ((a + 1 : Nat) : Int) = (a : Int) + 1 by omega] at s1
    have e1 : ∃ c : Nat, N l (a + 1) + c = N (l + 1) a ∧ ev G (.ite (.cmp .gt (.slot 2) (.int 0)) (.sub (.slot 4) (.bin .sub (.slot 2) (.int 1))) (.int 0)) [A, B, some (.fz (.int a)), E, some (.fz (.lst (nL l k))), some (.own (nL (l + 1) a)), y] = some (.val (.int c)) := by
      cases a with
      | zero => exact ⟨0, by rw [N]; rfl, by simp [cmpD]⟩
      | succ a =>
        have s2 := sub_range (fun w => .int (N l w)) k a (by omega)
        refine ⟨N l a, by rw [N], ?_⟩
        simp [cmpD, binD]
        exact s2
    obtain ⟨c, hc, e1⟩ := e1
    obtain ⟨x', y', ih⟩ := rests_in G l k hk A B E m (a + 1) (some (.fz (.int a))) (some (.fz (.int c))) (by omega)
    refine ⟨x', y', ?_⟩
    rw [List.range'_succ, List.map_cons, forLoop, bindT1]
    simp only [setE1, List.set_cons_zero, List.set_cons_succ]
    have hl : (nL (l + 1) a).length < LINE := by rw [List.length_map, List.length_range, LN]; omega
    have ea : nL (l + 1) (a + 1) = nL (l + 1) a ++ [.int (N (l + 1) a)] := by simp [nL, List.range_succ]
    have b : execs G rIn [A, B, some (.fz (.int a)), E, some (.fz (.lst (nL l k))), some (.own (nL (l + 1) a)), y] = some (.next [A, B, some (.fz (.int a)), E, some (.fz (.lst (nL l k))), some (.own (nL (l + 1) (a + 1))), some (.fz (.int c))]) := by
      refine q_next _ (q_asg _ e1 rfl) ?_
      show execs G _ [A, B, some (.fz (.int a)), E, some (.fz (.lst (nL l k))), some (.own (nL (l + 1) a)), some (.fz (.int c))] = _
      refine q_next _ (q_app (nL (l + 1) a) (.val (.int (N (l + 1) a))) _ rfl ?_ rfl hl) ?_
      · refine q_bin (.val (.int (N l (a + 1)))) (.val (.int c)) _ (q_sub (.val (.lst (nL l k))) (.val (.int ((a : Int) + 1))) _ (by simp) (by simp [binD]) s1) (by simp) ?_
        rw [Rd1, Rd1, ad, ← hc]; simp
      · rw [execs0, ea]; rfl
    rw [b]
    simp only []
    rw [ih, show a + 1 + m = a + (m + 1) by omega]
def rOut : Ss := (.cons (.asg 4 false (.sub (.slot 1) (.neg (.int 1)))) (.cons (.asg 5 true (.lst .nil)) (.cons (.for (.nm 2) (.rng1 (.bin .sub (.bin .add (.slot 0) (.int 1)) (.slot 3))) rIn) (.frz 5 (.cons (.app 1 (.slot 5)) .nil)))))
theorem rests_out (G : Gm) (n : Nat) (hn : n ≤ 200) : ∀ (m l : Nat) (x2 x3 x4 x5 x6 : Option Sl), l + m = n → ∃ x2' x3' x4' x5' x6',
    forLoop (bindT (.nm 3)) (execs G rOut) ((List.range' l m).map fun (i : Nat) => D.int (i : Int)) [some (.fz (.int n)), some (.own (rLL n (l + 1))), x2, x3, x4, x5, x6]
      = some (.next [some (.fz (.int n)), some (.own (rLL n (n + 1))), x2', x3', x4', x5', x6'])
  | 0, l, x2, x3, x4, x5, x6, h => ⟨x2, x3, x4, x5, x6, by simp only [Nat.add_zero] at h; subst h; rfl⟩
  | m + 1, l, x2, x3, x4, x5, x6, h => by
    obtain ⟨y2, y6, e⟩ := rests_in G l (n + 2 - l) (by omega) (some (.fz (.int n))) (some (.own (rLL n (l + 1)))) (some (.fz (.int l))) (n + 1 - l) 0 x2 x6 (by omega)
    rw [Nat.zero_add] at e
    obtain ⟨x2', x3', x4', x5', x6', ih⟩ := rests_out G n hn m (l + 1) y2 (some (.fz (.int l))) (some (.fz (.lst (rL n l)))) (some (.fz (.lst (rL n (l + 1))))) y6 (by omega)
    refine ⟨x2', x3', x4', x5', x6', ?_⟩
    rw [List.range'_succ, List.map_cons, forLoop, bindT1]
    simp only [setE1, List.set_cons_zero, List.set_cons_succ]
    have hl : (rLL n (l + 1)).length < LINE := by rw [List.length_map, List.length_range, LN]; omega
    have ea : rLL n (l + 1 + 1) = rLL n (l + 1) ++ [.lst (rL n (l + 1))] := by simp [rLL, List.range_succ]
    have b : execs G rOut [some (.fz (.int n)), some (.own (rLL n (l + 1))), x2, some (.fz (.int l)), x4, x5, x6] = some (.next [some (.fz (.int n)), some (.own (rLL n (l + 1 + 1))), y2, some (.fz (.int l)), some (.fz (.lst (rL n l))), some (.fz (.lst (rL n (l + 1)))), y6]) := by
      refine q_next [some (.fz (.int n)), some (.own (rLL n (l + 1))), x2, some (.fz (.int l)), some (.fz (.lst (rL n l))), x5, x6] (q_asg (.val (.lst (rL n l))) (q_sub (.vown (rLL n (l + 1))) (.val (.int (-1))) _ (by simp) (by simp) (sub_range_last (fun l => .lst (rL n l)) l)) rfl) ?_
      refine q_next [some (.fz (.int n)), some (.own (rLL n (l + 1))), x2, some (.fz (.int l)), some (.fz (.lst (rL n l))), some (.own []), x6] (by simp) ?_
      refine q_next _ (q_for _ (srcFix4 _ _ _) ?_ e) ?_
      · have q : ev G (.bin .sub (.bin .add (.slot 0) (.int 1)) (.slot 3)) [some (.fz (.int n)), some (.own (rLL n (l + 1))), x2, some (.fz (.int l)), some (.fz (.lst (rL n l))), some (.own []), x6] = some (.val (.int ((n + 1 - l : Nat) : Int))) := by
          simp [binD]; omega
        show evS G (.rng1 _) [some (.fz (.int n)), some (.own (rLL n (l + 1))), x2, some (.fz (.int l)), some (.fz (.lst (rL n l))), some (.own []), x6] = _
        rw [evS_rng1, q]
        simp only [small62_nat (n + 1 - l) (by omega), ite_true, Int.toNat_natCast, rangeD0, List.range_eq_range']
      · rw [execs2]
        show execs G _ [some (.fz (.int n)), some (.own (rLL n (l + 1))), y2, some (.fz (.int l)), some (.fz (.lst (rL n l))), some (.fz (.lst (nL (l + 1) (n + 1 - l)))), y6] = _
        refine q_next _ (q_app (rLL n (l + 1)) (.val (.lst (nL (l + 1) (n + 1 - l)))) _ rfl (by simp) rfl hl) ?_
        rw [execs0, ea]
        simp only [rL, nL, show n + 2 - (l + 1) = n + 1 - l by omega]; rfl
    rw [b]
    exact ih
theorem rests_of_ok (G : Gm) : SRests (run G 1 7 p_rests_of) := by
  intro n hn
  refine run_ret [some (.fz (.int n)), none, none, none, none, none, none] rfl rfl ?_
  have e0 : ev G (.lc (.int 1) (.nm 2) (.rng1 (.bin .add (.slot 0) (.int 2))) .non) [some (.fz (.int n)), none, none, none, none, none, none] = some (.fresh (rL n 0)) := by
    refine (ev_lc_m (List.range (n + 2)) (fun (i : Nat) => D.int (i : Int)) (fun w => .int (N 0 w)) ?_ ?_ ?_)
    · have q : ev G (.bin .add (.slot 0) (.int 2)) [some (.fz (.int n)), none, none, none, none, none, none] = some (.val (.int ((n + 2 : Nat) : Int))) := by simp [binD]
      rw [evS_rng1, q]
      simp only [small62_nat (n + 2) (by omega), ite_true, Int.toNat_natCast, rangeD0]
    · rw [List.length_range, LN]; omega
    · intro j hj
      exact ⟨_, rfl, by simp [N]⟩
  refine q_next [some (.fz (.int n)), some (.own (rLL n 1)), none, none, none, none, none] (q_asg (.fresh (rLL n 1)) ?_ rfl) ?_
  · rw [ev_lst, evV1, e0, evV0]
    have : 1 ≤ LINE := by rw [LN]; omega
    simp [this]; rfl
  obtain ⟨x2', x3', x4', x5', x6', e⟩ := rests_out G n hn n 0 none none none none none (by omega)
  refine q_next _ (q_for _ (srcFix4 _ _ _) ?_ e) ?_
  · rw [evS_rng1]
    simp [small62_nat n (by omega), rangeD0, List.range_eq_range']
  · exact q_ret (by simp)
end Pg
namespace Pg
open Mc L2
theorem q_augA {G : Gm} {env : Env} {i e} (x y : Int) (h : env[i]? = some (some (.fz (.int x)))) (h2 : ev G e env = some (.val (.int y))) : exec G (.aug i .add e) env = some (.next (env.set i (some (.fz (.int (x + y)))))) := by
  rw [exec, h, h2]; rfl
theorem q_augS {G : Gm} {env : Env} {i e} (x y : Int) (h : env[i]? = some (some (.fz (.int x)))) (h2 : ev G e env = some (.val (.int y))) : exec G (.aug i .sub e) env = some (.next (env.set i (some (.fz (.int (x - y)))))) := by
  rw [exec, h, h2]; rfl
def dn : Nat → List D
  | 0 => []
  | l + 1 => .int l :: dn l
theorem dn_range : ∀ n : Nat, rangeD ((n : Int) - 1) n (-1) = dn n
  | 0 => rfl
  | n + 1 => by
    rw [dn, ← dn_range n, rangeD, List.range_succ_eq_map, List.map_cons, List.map_map, rangeD]
    congr 1
    · congr 1; omega
    · congr 1; funext i; simp only [Function.comp]; congr 1; omega
theorem rng_down (G : Gm) (env : Env) (a b c : E) (n : Nat) (hn : n ≤ 1000) (ha : ev G a env = some (.val (.int ((n : Int) - 1)))) (hb : ev G b env = some (.val (.int (-1)))) (hc : ev G c env = some (.val (.int (-1)))) :
    evS G (.rng3 a b c) env = some (dn n) := by
  have sz : PySem.Builtin.Range.rangeSize ((n : Int) - 1) (-1) (-1) = n := by
    rw [PySem.Builtin.Range.rangeSize, if_neg (by omega)]
    by_cases h : (n : Int) - 1 > -1
    · rw [if_pos h, show - (-1 : Int) = 1 from rfl, Int.ediv_one]; omega
    · rw [if_neg h]; omega
  have sm : PySem.Builtin.Range.small ((n : Int) - 1) (-1) (-1) = true := by
    simp only [PySem.Builtin.Range.small, PySem.Builtin.Range.rangeFitsLong, Bool.and_eq_true, Bool.or_eq_true, decide_eq_true_eq, beq_iff_eq, sz]
    rw [if_neg (by omega)]
    simp only [Bool.and_eq_true, decide_eq_true_eq]
    omega
  rw [evS, ha, hb, hc]
  have c1 : decide ((-1 : Int) ≠ 0) = true := by decide
  have c2 : decide ((-1 : Int).natAbs < 1073741824) = true := by decide
  have c3 : decide (0 ≤ (n : Int)) = true := decide_eq_true (by omega)
  simp only [c1, c2, sm, sz, c3, Bool.and_self, ite_true, Int.toNat_natCast, dn_range]
def rbB : Ss := (.cons (.asg 6 false (.sub (.sub (.slot 2) (.slot 5)) (.bin .add (.slot 4) (.int 1)))) (.cons (.ife (.cmp .lt (.slot 1) (.slot 6)) (.cons (.app 3 (.str [45])) (.cons (.aug 4 .add (.int 1)) .nil)) (.cons (.aug 1 .sub (.slot 6)) (.cons (.app 3 (.str [120])) (.cons (.aug 4 .sub (.int 1)) .nil)))) .nil))
theorem sub_rests (n l w : Nat) (hl : l ≤ n) (hw : w + l ≤ n + 1) : subD (.lst (rLL n (n + 1))) (.int l) = some (.lst (rL n l)) ∧ subD (.lst (rL n l)) (.int w) = some (.int (N l w)) :=
  ⟨sub_range (fun l => .lst (rL n l)) (n + 1) l (by omega), sub_range (fun w => .int (N l w)) (n + 2 - l) w (by omega)⟩
theorem rb_loop (G : Gm) (n : Nat) (hn : n ≤ 200) (A : Option Sl) : ∀ (l w k : Nat) (acc : List Nat) (x y : Option Sl), k < N l w → w + l ≤ n → acc.length + l ≤ 300 → ∃ k' w' x' y',
    forLoop (bindT (.nm 5)) (execs G rbB) (dn l) [A, some (.fz (.int k)), some (.fz (.lst (rLL n (n + 1)))), some (.own (chs acc)), some (.fz (.int w)), x, y]
      = some (.next [A, k', some (.fz (.lst (rLL n (n + 1)))), some (.own (chs (acc ++ unrank l w k))), w', x', y'])
  | 0, w, k, acc, x, y, _, _, _ => ⟨_, _, x, y, by rw [dn, forLoop, unrank, List.append_nil]⟩
  | l + 1, w, k, acc, x, y, hk, hw, ha => by
    obtain ⟨s1, s2⟩ := sub_rests n l (w + 1) (by omega) (by omega)
    rw [show ((w + 1 : Nat) : Int) = (w : Int) + 1 by omega] at s2
    have hl : (chs acc).length < LINE := by rw [List.length_map, LN]; omega
    have e1 : ∀ y, ev G (.sub (.sub (.slot 2) (.slot 5)) (.bin .add (.slot 4) (.int 1))) [A, some (.fz (.int k)), some (.fz (.lst (rLL n (n + 1)))), some (.own (chs acc)), some (.fz (.int w)), some (.fz (.int l)), y] = some (.val (.int (N l (w + 1)))) := fun y =>
      q_sub (.val (.lst (rL n l))) (.val (.int ((w : Int) + 1))) _ (q_sub (.val (.lst (rLL n (n + 1)))) (.val (.int l)) _ (by simp) (by simp) s1) (by simp [binD]) s2
    have ca : ∀ c, chs (acc ++ [c]) = chs acc ++ [.str [c]] := fun c => by simp [chs]
    rw [dn, forLoop, bindT1]
    simp only [setE1, List.set_cons_zero, List.set_cons_succ]
    by_cases hc : k < N l (w + 1)
    · obtain ⟨k', w', x', y', ih⟩ := rb_loop G n hn A l (w + 1) k (acc ++ [45]) (some (.fz (.int l))) (some (.fz (.int (N l (w + 1))))) hc (by omega) (by simp; omega)
      refine ⟨k', w', x', y', ?_⟩
      have b : execs G rbB [A, some (.fz (.int k)), some (.fz (.lst (rLL n (n + 1)))), some (.own (chs acc)), some (.fz (.int w)), some (.fz (.int l)), y] = some (.next [A, some (.fz (.int k)), some (.fz (.lst (rLL n (n + 1)))), some (.own (chs (acc ++ [45]))), some (.fz (.int (w + 1 : Nat))), some (.fz (.int l)), some (.fz (.int (N l (w + 1))))]) := by
        refine q_next [A, some (.fz (.int k)), some (.fz (.lst (rLL n (n + 1)))), some (.own (chs acc)), some (.fz (.int w)), some (.fz (.int l)), some (.fz (.int (N l (w + 1))))] (q_asg _ (e1 y) rfl) ?_
        refine q_next _ (q_then ?_ ?_) (execs0 _ _)
        · exact q_cmp (.val (.int k)) (.val (.int (N l (w + 1)))) true (by simp) (by simp) (by simp [cmpD, hc])
        · refine q_next _ (q_app (chs acc) (.val (.str [45])) _ rfl (ev_str _ _ _) rfl hl) ?_
          refine q_next _ (q_augA (w : Int) 1 rfl (ev_int _ _ _)) ?_
          rw [execs0, ca]; rfl
      rw [b]
      simp only []
      rw [ih, unrank, if_pos hc]; simp
    · cases w with
      | zero => rw [N] at hk; exact absurd hk hc
      | succ w =>
        rw [N] at hk
        obtain ⟨k', w', x', y', ih⟩ := rb_loop G n hn A l w (k - N l (w + 1 + 1)) (acc ++ [120]) (some (.fz (.int l))) (some (.fz (.int (N l (w + 1 + 1))))) (by omega) (by omega) (by simp; omega)
        refine ⟨k', w', x', y', ?_⟩
        have b : execs G rbB [A, some (.fz (.int k)), some (.fz (.lst (rLL n (n + 1)))), some (.own (chs acc)), some (.fz (.int (w + 1 : Nat))), some (.fz (.int l)), y] = some (.next [A, some (.fz (.int (k - N l (w + 1 + 1) : Nat))), some (.fz (.lst (rLL n (n + 1)))), some (.own (chs (acc ++ [120]))), some (.fz (.int w)), some (.fz (.int l)), some (.fz (.int (N l (w + 1 + 1))))]) := by
          refine q_next [A, some (.fz (.int k)), some (.fz (.lst (rLL n (n + 1)))), some (.own (chs acc)), some (.fz (.int (w + 1 : Nat))), some (.fz (.int l)), some (.fz (.int (N l (w + 1 + 1))))] (q_asg _ (e1 y) rfl) ?_
          refine q_next _ (q_else ?_ ?_) (execs0 _ _)
          · exact q_cmp (.val (.int k)) (.val (.int (N l (w + 1 + 1)))) false (by simp) (by simp) (by simp [cmpD]; omega)
          · refine q_next _ (q_augS (k : Int) (N l (w + 1 + 1)) rfl (by simp)) ?_
            refine q_next _ (q_app (chs acc) (.val (.str [120])) _ rfl (ev_str _ _ _) rfl hl) ?_
            refine q_next _ (q_augS ((w + 1 : Nat) : Int) 1 rfl (ev_int _ _ _)) ?_
            rw [execs0, ca, show ((w + 1 : Nat) : Int) - 1 = (w : Int) by omega, show ((k : Nat) : Int) - (N l (w + 1 + 1) : Nat) = ((k - N l (w + 1 + 1) : Nat) : Int) by omega]; rfl
        rw [b]
        simp only []
        rw [ih, unrank, if_neg hc]; simp
theorem row_by_ok (G : Gm) (F4 F9 F10 F11 F12) (g4 : G 4 = some F4) (g9 : G 9 = some F9) (g10 : G 10 = some F10) (g11 : G 11 = some F11) (g12 : G 12 = some F12)
    (s4 : SRow F4) (s9 : SIsNumber F9) (s10 : SCheckLength F10) (s11 : SPicks F11) (s12 : SRests F12) : SRowBy (run G 2 7 p_row_by) := by
  intro T P h n k hn hT hk
  have hv := rank_ok _ _ h.valid
  rw [hT, hk] at hv
  obtain ⟨hv1, hv2⟩ := hv
  have hC : C n (n / 2) = N n 0 := (N_C n hn).symm
  have d2 : (0 : Int) < 2 ∧ (2 : Int).natAbs.log2 < 9000 := by decide
  refine run_ret [some (.fz (.int n)), some (.fz (.int k)), none, none, none, none, none] rfl rfl ?_
  refine q_next [some (.fz (.int n)), some (.fz (.int k)), none, none, none, none, none] (by rw [exec_ex, q_call _ _ _ (by simp) g10 (s10 n hn) rfl]) ?_
  refine q_next [some (.fz (.int n)), some (.fz (.int k)), none, none, none, none, none] (q_else (q_not true ?_) (execs0 _ _)) ?_
  · have e := s9 k 0 ((C n (n / 2) : Int) - 1)
    rw [decide_eq_true (by omega)] at e
    refine q_call [.fz (.int k), .fz (.int 0), .fz (.int ((C n (n / 2) : Int) - 1))] F9 _ ?_ g9 e rfl
    have e2 : ev G (.bin .sub (.call 11 (.cons (.slot 0) (.cons (.bin .fdiv (.slot 0) (.int 2)) .nil))) (.int 1)) [some (.fz (.int n)), some (.fz (.int k)), none, none, none, none, none] = some (.val (.int ((C n (n / 2) : Int) - 1))) := by
      refine q_bin (.val (.int (C n (n / 2)))) (.val (.int 1)) _ (q_call [.fz (.int n), .fz (.int (n / 2 : Nat))] F11 _ ?_ g11 (s11 n (n / 2) hn (by omega)) rfl) (ev_int _ _ _) rfl
      simp [fd _ 2 d2.1 d2.2]
    rw [evA1, show ev G (.slot 1) [some (.fz (.int n)), some (.fz (.int k)), none, none, none, none, none] = some (.val (.int k)) by simp, evA1, ev_int, evA1, e2, evA0]; rfl
  refine q_next [some (.fz (.int n)), some (.fz (.int k)), some (.fz (.lst (rLL n (n + 1)))), none, none, none, none] (q_asg _ (q_call _ _ _ (by simp) g12 (s12 n hn) rfl) rfl) ?_
  refine q_next [some (.fz (.int n)), some (.fz (.int k)), some (.fz (.lst (rLL n (n + 1)))), some (.own []), none, none, none] (by simp) ?_
  refine q_next [some (.fz (.int n)), some (.fz (.int k)), some (.fz (.lst (rLL n (n + 1)))), some (.own []), some (.fz (.int 0)), none, none] (by simp) ?_
  obtain ⟨k', w', x', y', e⟩ := rb_loop G n hn (some (.fz (.int n))) n 0 k [] none none hv1 (by omega) (by simp; omega)
  rw [hv2, List.nil_append] at e
  refine q_next _ (q_for _ (srcFix6 _ _ _ _ _) (rng_down G _ _ _ _ n (by omega) (by simp [binD]) (by simp) (by simp)) e) ?_
  refine q_ret (q_rf _ (q_call [.fz (.str (T 0))] F4 _ ?_ g4 (s4 h (by omega) 0) rfl))
  have e2 : mtD .join (.str []) [.lst (chs (T 0))] = some (.val (.str (T 0))) := by
    have : (T 0).length ≤ LINE := by rw [LN]; omega
    rw [mtD, strsD_map]
    simp only [flat1, this, ite_true]
  rw [evA1, q_meth1 (.val (.str [])) (.vown (chs (T 0))) _ (ev_str _ _ _) (by simp) e2, evA0]; rfl
end Pg
namespace Pg
open Mc L2
def SPicksL (F : Fn) : Prop := SPicks F
def SWhole (F : Fn) : Prop := ∀ i : Int, F [.fz (.int i)] = some (.val (.bl true))
def noB : Ss := (.cons (.ife (.cmp .eq (.slot 6) (.str [120])) (.cons (.aug 3 .add (.sub (.sub (.slot 2) (.bin .sub (.bin .sub (.bi .len (.cons (.slot 1) .nil)) (.slot 5)) (.int 1))) (.bin .add (.slot 4) (.int 1)))) (.cons (.aug 4 .sub (.int 1)) .nil)) (.cons (.aug 4 .add (.int 1)) .nil)) .nil)
theorem no_loop (G : Gm) (n : Nat) (hn : n ≤ 200) (A : Option Sl) (t : List Nat) (ht : t.length = n) : ∀ (s : List Nat) (p w f : Nat) (x y : Option Sl), p + s.length = n → w ≤ p → valid s w → ∃ w' x' y',
    forLoop (bindT (.tp [5, 6])) (execs G noB) (enumD p (chs s)) [A, some (.fz (.str t)), some (.fz (.lst (rLL n (n + 1)))), some (.fz (.int f)), some (.fz (.int w)), x, y]
      = some (.next [A, some (.fz (.str t)), some (.fz (.lst (rLL n (n + 1)))), some (.fz (.int (f + rank s w : Nat))), w', x', y'])
  | [], p, w, f, x, y, _, _, _ => ⟨_, x, y, rfl⟩
  | c :: s, p, w, f, x, y, hp, hw, hv => by
    simp only [List.length_cons] at hp
    rw [valid] at hv
    rw [show chs (c :: s) = .str [c] :: chs s from rfl, enumD, forLoop, bindT2]
    simp only [setAll1, setAll0, setE1, List.set_cons_zero, List.set_cons_succ]
    by_cases hc : c = 45
    · rw [if_pos hc] at hv
      obtain ⟨w', x', y', ih⟩ := no_loop G n hn A t ht s (p + 1) (w + 1) f (some (.fz (.int p))) (some (.fz (.str [c]))) (by omega) (by omega) hv
      refine ⟨w', x', y', ?_⟩
      have b : execs G noB [A, some (.fz (.str t)), some (.fz (.lst (rLL n (n + 1)))), some (.fz (.int f)), some (.fz (.int w)), some (.fz (.int p)), some (.fz (.str [c]))] = some (.next [A, some (.fz (.str t)), some (.fz (.lst (rLL n (n + 1)))), some (.fz (.int f)), some (.fz (.int (w + 1 : Nat))), some (.fz (.int p)), some (.fz (.str [c]))]) := by
        refine q_next _ (q_else ?_ ?_) (execs0 _ _)
        · exact q_cmp (.val (.str [c])) (.val (.str [120])) false (by simp) (by simp) (by simp [cmpD, eqD, hc])
        · refine q_next _ (q_augA (w : Int) 1 rfl (ev_int _ _ _)) ?_
          rw [execs0]; rfl
      rw [b]
      simp only []
      rw [show ((p : Int) + 1) = ((p + 1 : Nat) : Int) by omega, ih, rank, if_pos hc]
    · rw [if_neg hc] at hv
      obtain ⟨v, rfl⟩ : ∃ v, w = v + 1 := ⟨w - 1, by omega⟩
      rw [Nat.add_sub_cancel] at hv
      obtain ⟨w', x', y', ih⟩ := no_loop G n hn A t ht s (p + 1) v (f + N s.length (v + 1 + 1)) (some (.fz (.int p))) (some (.fz (.str [c]))) (by omega) (by omega) hv.2.2
      refine ⟨w', x', y', ?_⟩
      obtain ⟨s1, s2⟩ := sub_rests n s.length (v + 1 + 1) (by omega) (by omega)
      have hl : t.length ≤ LINE := by rw [LN]; omega
      have b : execs G noB [A, some (.fz (.str t)), some (.fz (.lst (rLL n (n + 1)))), some (.fz (.int f)), some (.fz (.int (v + 1 : Nat))), some (.fz (.int p)), some (.fz (.str [c]))] = some (.next [A, some (.fz (.str t)), some (.fz (.lst (rLL n (n + 1)))), some (.fz (.int (f + N s.length (v + 1 + 1) : Nat))), some (.fz (.int v)), some (.fz (.int p)), some (.fz (.str [c]))]) := by
        refine q_next _ (q_then ?_ ?_) (execs0 _ _)
        · exact q_cmp (.val (.str [c])) (.val (.str [120])) true (by simp) (by simp) (by simp [cmpD, eqD, hv.2.1])
        · have i1 : ev G (.bin .sub (.bin .sub (.bi .len (.cons (.slot 1) .nil)) (.slot 5)) (.int 1)) [A, some (.fz (.str t)), some (.fz (.lst (rLL n (n + 1)))), some (.fz (.int f)), some (.fz (.int (v + 1 : Nat))), some (.fz (.int p)), some (.fz (.str [c]))] = some (.val (.int s.length)) := by
            have hl' : n ≤ LINE := ht ▸ hl
            simp [biD, hl', binD, ht]; omega
          have i2 : ev G (.bin .add (.slot 4) (.int 1)) [A, some (.fz (.str t)), some (.fz (.lst (rLL n (n + 1)))), some (.fz (.int f)), some (.fz (.int (v + 1 : Nat))), some (.fz (.int p)), some (.fz (.str [c]))] = some (.val (.int (v + 1 + 1 : Nat))) := by
            simp [binD]
          refine q_next _ (q_augA (f : Int) (N s.length (v + 1 + 1)) rfl (q_sub (.val (.lst (rL n s.length))) _ _ (q_sub (.val (.lst (rLL n (n + 1)))) _ _ (by simp) i1 s1) i2 s2)) ?_
          refine q_next _ (q_augS ((v + 1 : Nat) : Int) 1 rfl (ev_int _ _ _)) ?_
          rw [execs0, show ((v + 1 : Nat) : Int) - 1 = (v : Int) by omega, show ((f : Nat) : Int) + (N s.length (v + 1 + 1) : Nat) = ((f + N s.length (v + 1 + 1) : Nat) : Int) by omega]; rfl
      rw [b]
      simp only []
      rw [show ((p : Int) + 1) = ((p + 1 : Nat) : Int) by omega, ih, rank, if_neg hc, Nat.add_sub_cancel, Nat.add_assoc]
theorem number_of_ok (G : Gm) (F1 F2 F3 F12) (g1 : G 1 = some F1) (g2 : G 2 = some F2) (g3 : G 3 = some F3) (g12 : G 12 = some F12)
    (s1 : SCheckSet F1) (s2 : SLoose F2) (s3 : SWith F3) (s12 : SRests F12) : SNumberOf (run G 1 7 p_number_of) := by
  intro T P h h2 m
  have hl : (T 0).length ≤ LINE := by rw [LN]; omega
  refine run_ret [some (.fz (.str (T m))), none, none, none, none, none, none] rfl rfl ?_
  refine q_next [some (.fz (.str (T m))), none, none, none, none, none, none] (by rw [exec_ex, q_call _ _ _ (by simp) g1 (s1 _ (h.ok h2 m)) rfl]) ?_
  have e3 : F3 [.fz (.str (T m)), .fz (.lst (nI P)), .fz (.int (0 : Nat))] = some (.val (.str (T 0))) := by
    rw [← h.ws 0 m]; exact s3 (T m) P 0 (by rw [h.len]; exact h.rng) (by rw [h.len]; exact h2)
  refine q_next [some (.fz (.str (T m))), some (.fz (.str (T 0))), none, none, none, none, none] (q_asg _ (q_call [.fz (.str (T m)), .fz (.lst (nI P)), .fz (.int (0 : Nat))] F3 _ ?_ g3 e3 rfl) rfl) ?_
  · rw [evA1, show ev G (.slot 0) [some (.fz (.str (T m))), none, none, none, none, none, none] = some (.val (.str (T m))) by simp, evA1, q_call _ _ _ (by simp) g2 (s2 h h2 m) rfl, evA1, ev_int, evA0]; rfl
  refine q_next [some (.fz (.str (T m))), some (.fz (.str (T 0))), some (.fz (.lst (rLL (T 0).length ((T 0).length + 1)))), none, none, none, none] (q_asg _ (q_call [.fz (.int ((T 0).length : Nat))] F12 _ (by simp [biD, hl]) g12 (s12 _ h2) rfl) rfl) ?_
  refine q_next [some (.fz (.str (T m))), some (.fz (.str (T 0))), some (.fz (.lst (rLL (T 0).length ((T 0).length + 1)))), some (.fz (.int (0 : Nat))), none, none, none] (by simp) ?_
  refine q_next [some (.fz (.str (T m))), some (.fz (.str (T 0))), some (.fz (.lst (rLL (T 0).length ((T 0).length + 1)))), some (.fz (.int (0 : Nat))), some (.fz (.int (0 : Nat))), none, none] (by simp) ?_
  obtain ⟨w', x', y', e⟩ := no_loop G (T 0).length h2 (some (.fz (.str (T m)))) (T 0) rfl (T 0) 0 0 0 none none (by omega) (by omega) h.valid
  refine q_next _ (q_for _ ?_ ?_ e) ?_
  · simp
  · simp
  · exact q_ret (q_rv _ (by simp))
theorem _law_whole_ok (G : Gm) : SWhole (run G 1 1 p__law_whole) := by
  intro i
  refine run_ret [some (.fz (.int i))] rfl rfl ?_
  exact q_ret (q_rv _ (q_and1 (by simp [isiD]) (q_and1 (q_not false (by simp [isiD])) q_andN)))
/-- k! -/
def fac : Nat → Nat
  | 0 => 1
  | k + 1 => fac k * (k + 1)
theorem fac_pos : ∀ k, 0 < fac k
  | 0 => by decide
  | k + 1 => by rw [fac]; exact Nat.mul_pos (fac_pos k) (by omega)
theorem lp_loop (G : Gm) (n : Nat) (hn : n ≤ 200) (B : Option Sl) : ∀ (m a : Nat) (x : Option Sl), a + m ≤ n → bits (C n a * fac a : Nat) ≤ 9 * a + 1 → bits (fac a : Nat) ≤ 9 * a + 1 → ∃ x', forLoop (bindT (.nm 4)) (execs G (.cons (.par [2, 3] [false, false] (.cons (.bin .mul (.slot 2) (.bin .sub (.slot 0) (.slot 4))) (.cons (.bin .mul (.slot 3) (.bin .add (.slot 4) (.int 1))) .nil))) .nil))
    ((List.range' a m).map fun (i : Nat) => D.int (i : Int)) [some (.fz (.int n)), B, some (.fz (.int (C n a * fac a : Nat))), some (.fz (.int (fac a : Nat))), x] = some (.next [some (.fz (.int n)), B, some (.fz (.int (C n (a + m) * fac (a + m) : Nat))), some (.fz (.int (fac (a + m) : Nat))), x']) ∧ bits (fac (a + m) : Nat) ≤ 9 * (a + m) + 1
  | 0, a, x, _, _, h => ⟨x, rfl, h⟩
  | m + 1, a, x, h, hb1, hb2 => by
    have c1 : bits ((n : Int) - a) ≤ 9 := by
      rw [show (n : Int) - a = ((n - a : Nat) : Int) by omega]; exact bits_nat _ _ (by have : 2 ^ 9 = 512 := rfl; omega)
    have c2 : bits ((a : Int) + 1) ≤ 9 := by
      rw [show (a : Int) + 1 = ((a + 1 : Nat) : Int) by omega]; exact bits_nat _ _ (by have : 2 ^ 9 = 512 := rfl; omega)
    have e1 : ((C n a * fac a : Nat) : Int) * ((n : Int) - a) = ((C n (a + 1) * fac (a + 1) : Nat) : Int) := by
      have := C_step n a (by omega)
      rw [show (n : Int) - a = ((n - a : Nat) : Int) by omega, ← Int.natCast_mul]
      congr 1
      rw [fac, Nat.mul_right_comm, this, Nat.mul_assoc, Nat.mul_comm (a + 1)]
    have e2 : ((fac a : Nat) : Int) * ((a : Int) + 1) = ((fac (a + 1) : Nat) : Int) := by
      rw [fac]; push_cast; rfl
    have d1 : bits (C n (a + 1) * fac (a + 1) : Nat) ≤ 9 * (a + 1) + 1 := by
      rw [← e1]; exact Nat.le_trans (PySem.intBits_mul_le hb1 c1) (by omega)
    have d2 : bits (fac (a + 1) : Nat) ≤ 9 * (a + 1) + 1 := by
      rw [← e2]; exact Nat.le_trans (PySem.intBits_mul_le hb2 c2) (by omega)
    obtain ⟨x', ih, ih2⟩ := lp_loop G n hn B m (a + 1) (some (.fz (.int a))) (by omega) d1 d2
    rw [show a + 1 + m = a + (m + 1) by omega] at ih ih2
    refine ⟨x', ?_, ih2⟩
    rw [List.range'_succ, List.map_cons, forLoop, bindT1]
    simp only [setE1, List.set_cons_zero, List.set_cons_succ]
    have q1 : ev G (.bin .mul (.slot 2) (.bin .sub (.slot 0) (.slot 4))) [some (.fz (.int n)), B, some (.fz (.int (C n a * fac a : Nat))), some (.fz (.int (fac a : Nat))), some (.fz (.int a))] = some (.val (.int (C n (a + 1) * fac (a + 1) : Nat))) := by
      refine q_bin (.val (.int (C n a * fac a : Nat))) (.val (.int ((n : Int) - a))) _ rfl (by simp [binD]) ?_
      rw [Rd1, Rd1, ml _ _ (by omega), e1]
    have q2 : ev G (.bin .mul (.slot 3) (.bin .add (.slot 4) (.int 1))) [some (.fz (.int n)), B, some (.fz (.int (C n a * fac a : Nat))), some (.fz (.int (fac a : Nat))), some (.fz (.int a))] = some (.val (.int (fac (a + 1) : Nat))) := by
      refine q_bin (.val (.int (fac a : Nat))) (.val (.int ((a : Int) + 1))) _ rfl (by simp [binD]) ?_
      rw [Rd1, Rd1, ml _ _ (by omega), e2]
    have b : exec G (.par [2, 3] [false, false] (.cons (.bin .mul (.slot 2) (.bin .sub (.slot 0) (.slot 4))) (.cons (.bin .mul (.slot 3) (.bin .add (.slot 4) (.int 1))) .nil))) [some (.fz (.int n)), B, some (.fz (.int (C n a * fac a : Nat))), some (.fz (.int (fac a : Nat))), some (.fz (.int a))]
        = some (.next [some (.fz (.int n)), B, some (.fz (.int (C n (a + 1) * fac (a + 1) : Nat))), some (.fz (.int (fac (a + 1) : Nat))), some (.fz (.int a))]) := by
      rw [exec_par, evM1, q1, evM1, q2, evM0]; rfl
    rw [q_next _ b (execs0 _ _)]
    exact ih
theorem _law_picks_ok (G : Gm) : SPicksL (run G 2 5 p__law_picks) := by
  intro n k hn hk
  refine run_ret [some (.fz (.int n)), some (.fz (.int k)), none, none, none] rfl rfl ?_
  have l2 : 2 ≤ LINE := by rw [LN]; omega
  refine q_next [some (.fz (.int n)), some (.fz (.int k)), some (.fz (.int 1)), some (.fz (.int 1)), none] (by simp [l2]) ?_
  obtain ⟨x', e, hb⟩ := lp_loop G n hn (some (.fz (.int k))) k 0 none (by omega) (by rw [C_zero]; decide) (by decide)
  rw [C_zero, Nat.zero_add] at e
  rw [Nat.zero_add] at hb
  refine q_next _ (q_for _ (srcFix4 _ _ _) ?_ e) ?_
  · simp [small62_nat k (by omega), rangeD0, List.range_eq_range']
  · refine q_ret (q_rv _ (q_bin (.val (.int (C n k * fac k : Nat))) (.val (.int (fac k : Nat))) _ rfl rfl ?_))
    have fp := fac_pos k
    have lg : ((fac k : Nat) : Int).natAbs.log2 < 9000 := by
      have : bits (fac k : Nat) = ((fac k : Nat) : Int).natAbs.log2 + 1 := by
        show (if ((fac k : Nat) : Int) == 0 then 0 else _) = _
        rw [if_neg (by simp; omega)]
      omega
    rw [Rd1, Rd1, fd _ _ (by omega) lg, Int.natCast_mul, Int.mul_ediv_cancel _ (by omega)]
end Pg
namespace Th

/-! ### sets as lists of truths; a set within another one -/
def sub : List Bool → List Bool → Bool
  | a :: s, b :: t => (!a || b) && sub s t
  | _, _ => true
def size : List Bool → Nat
  | [] => 0
  | true :: s => size s + 1
  | false :: s => size s
def fac : Nat → Nat
  | 0 => 1
  | n + 1 => (n + 1) * fac n
theorem size_le : ∀ s : List Bool, size s ≤ s.length
  | [] => Nat.le_refl _
  | true :: s => by have := size_le s; simp [size]; omega
  | false :: s => by have := size_le s; simp [size]; omega
theorem sub_refl : ∀ s : List Bool, sub s s = true
  | [] => rfl
  | a :: s => by cases a <;> simp [sub, sub_refl s]
theorem sub_full : ∀ s t : List Bool, s.length = t.length → size t = t.length → sub s t = true
  | [], [], _, _ => rfl
  | [], _ :: _, h, _ => by simp at h
  | _ :: _, [], h, _ => by simp at h
  | a :: s, true :: t, h, g => by
    simp only [List.length_cons, Nat.add_right_cancel_iff] at h
    simp only [size, List.length_cons, Nat.add_right_cancel_iff] at g
    simp [sub, sub_full s t h g]
  | a :: s, false :: t, h, g => by
    have := size_le t
    simp only [size, List.length_cons] at g
    omega
def w (n : Nat) (s : List Bool) : Nat := fac (size s) * fac (n - size s)
def sm {α : Type} (f : α → Nat) : List α → Nat
  | [] => 0
  | x :: r => f x + sm f r
theorem sm_le {α : Type} {f g : α → Nat} : ∀ l : List α, (∀ x ∈ l, f x ≤ g x) → sm f l ≤ sm g l
  | [], _ => Nat.le_refl _
  | x :: r, h => by
    have h1 := h x (List.mem_cons_self ..)
    have h2 := sm_le r fun y hy => h y (List.mem_cons_of_mem _ hy)
    simp only [sm]; omega
theorem sm_congr {α : Type} {f g : α → Nat} : ∀ l : List α, (∀ x ∈ l, f x = g x) → sm f l = sm g l
  | [], _ => rfl
  | x :: r, h => by
    have h1 := h x (List.mem_cons_self ..)
    have h2 := sm_congr r fun y hy => h y (List.mem_cons_of_mem _ hy)
    simp only [sm, h1, h2]
theorem sm_const {α : Type} (c : Nat) : ∀ l : List α, sm (fun _ => c) l = l.length * c
  | [] => by simp [sm]
  | x :: r => by simp only [sm, sm_const c r, List.length_cons, Nat.add_mul]; omega
theorem sm_add {α : Type} (f g : α → Nat) : ∀ l : List α, sm (fun x => f x + g x) l = sm f l + sm g l
  | [] => rfl
  | x :: r => by simp only [sm, sm_add f g r]; omega
theorem sm_swap {α β : Type} (f : α → β → Nat) (l : List α) : ∀ m : List β, sm (fun a => sm (f a) m) l = sm (fun b => sm (fun a => f a b) l) m
  | [] => by simp only [sm]; rw [sm_const]; simp
  | b :: m => by
    simp only [sm]
    rw [sm_add, sm_swap f l m]
theorem sm_map {α β : Type} (f : β → Nat) (g : α → β) : ∀ l : List α, sm f (l.map g) = sm (fun a => f (g a)) l
  | [] => rfl
  | x :: r => by simp only [List.map_cons, sm, sm_map f g r]
theorem sm_filter {α : Type} (f : α → Nat) (p : α → Bool) : ∀ l : List α, sm f (l.filter p) = sm (fun a => if p a then f a else 0) l
  | [] => rfl
  | x :: r => by
    simp only [sm]
    rw [List.filter_cons]
    split
    · simp only [sm, sm_filter f p r]
    · rw [sm_filter f p r]; omega
/-! positions -/
def out (s : List Bool) (x : Nat) : Bool := s[x]? == some false
theorem sm_range_succ (f : Nat → Nat) : ∀ (n : Nat), sm f (List.range (n + 1)) = f 0 + sm (fun i => f (i + 1)) (List.range n) := by
  intro n
  rw [List.range_succ_eq_map]
  simp only [sm, sm_map]
theorem outs (c : Nat) : ∀ s : List Bool, sm (fun x => if out s x then c else 0) (List.range s.length) = (s.length - size s) * c
  | [] => by simp [sm]
  | a :: s => by
    rw [List.length_cons, sm_range_succ]
    have ih := outs c s
    have h : ∀ i, out (a :: s) (i + 1) = out s i := fun i => by simp [out]
    simp only [h]
    rw [ih]
    have := size_le s
    cases a
    · have h0 : out (false :: s) 0 = true := by simp [out]
      rw [if_pos h0]
      simp only [size]
      rw [show s.length + 1 - size s = (s.length - size s) + 1 by omega, Nat.add_mul]; omega
    · have h0 : ¬ out (true :: s) 0 = true := by simp [out]
      rw [if_neg h0]
      simp only [size]
      rw [show s.length + 1 - (size s + 1) = s.length - size s by omega]; omega
theorem size_erase : ∀ (s : List Bool) (x : Nat), out s x = true → size (s.eraseIdx x) = size s
  | [], x, h => by simp [out] at h
  | a :: s, 0, h => by
    have : a = false := by simpa [out] using h
    subst this
    simp [size]
  | a :: s, x + 1, h => by
    have h' : out s x = true := by simpa [out] using h
    have ih := size_erase s x h'
    cases a <;> simp [size, ih]
theorem sub_erase : ∀ (s t : List Bool) (x : Nat), s.length = t.length → out s x = true → out t x = true → sub (s.eraseIdx x) (t.eraseIdx x) = sub s t
  | [], _, x, _, h, _ => by simp [out] at h
  | _ :: _, [], x, _, _, h => by simp [out] at h
  | a :: s, b :: t, 0, _, h, g => by
    have h1 : a = false := by simpa [out] using h
    subst h1
    simp [sub]
  | a :: s, b :: t, x + 1, hl, h, g => by
    have h' : out s x = true := by simpa [out] using h
    have g' : out t x = true := by simpa [out] using g
    have ih := sub_erase s t x (by simpa using hl) h' g'
    simp [sub, ih]
def Anti (F : List (List Bool)) : Prop := F.Pairwise fun a b => sub a b = false ∧ sub b a = false
theorem fac_pos : ∀ n, 0 < fac n
  | 0 => Nat.one_pos
  | n + 1 => Nat.mul_pos (Nat.succ_pos n) (fac_pos n)

/-- of sets none within another: the shares together are at most one -/
theorem lym : ∀ (n : Nat) (F : List (List Bool)), (∀ s ∈ F, s.length = n) → Anti F → sm (w n) F ≤ fac n
  | 0, F, hl, ha => by
    match F, hl, ha with
    | [], _, _ => simp [sm, fac]
    | [s], hl, _ =>
      have : s = [] := List.length_eq_zero_iff.mp (hl s (List.mem_cons_self ..))
      subst this
      simp [sm, w, size, fac]
    | s :: t :: r, hl, ha =>
      have h1 : s = [] := List.length_eq_zero_iff.mp (hl s (List.mem_cons_self ..))
      have h2 : t = [] := List.length_eq_zero_iff.mp (hl t (by simp))
      subst h1 h2
      have := (List.pairwise_cons.mp ha).1 [] (List.mem_cons_self ..)
      simp [sub] at this
  | n + 1, F, hl, ha => by
    by_cases hf : ∃ s ∈ F, size s = n + 1
    · obtain ⟨s, hs, hz⟩ := hf
      have one : F = [s] := by
        obtain ⟨i, hi, e⟩ := List.getElem_of_mem hs
        match F, hi, e, hl, ha with
        | [t], hi, e, _, _ =>
          have : i = 0 := by simpa using hi
          subst this
          simpa using e
        | t :: u :: r, hi, e, hl, ha =>
          exfalso
          have full : ∀ v ∈ t :: u :: r, sub v s = true := fun v hv => sub_full v s (by rw [hl v hv, hl s hs]) (by rw [hl s hs]; exact hz)
          cases i with
          | zero =>
            have e : t = s := by simpa using e
            subst e
            have := (List.pairwise_cons.mp ha).1 u (List.mem_cons_self ..)
            rw [full u (by simp)] at this
            simp at this
          | succ i =>
            have hm : s ∈ u :: r := by
              rw [← e]; simp
            have := (List.pairwise_cons.mp ha).1 s hm
            rw [full t (by simp)] at this
            simp at this
      rw [one]
      simp only [sm, w, hz, Nat.sub_self, fac]
      omega
    · have hlt : ∀ s ∈ F, size s ≤ n := fun s hs => by
        have h1 := size_le s
        rw [hl s hs] at h1
        have h2 : size s ≠ n + 1 := fun e => hf ⟨s, hs, e⟩
        omega
      have e1 : sm (w (n + 1)) F = sm (fun s => sm (fun x => if out s x then w n s else 0) (List.range (n + 1))) F := by
        refine sm_congr F fun s hs => ?_
        have := outs (w n s) s
        rw [hl s hs] at this
        rw [this]
        have h3 := hlt s hs
        unfold w
        rw [show n + 1 - size s = (n - size s) + 1 by omega]
        simp only [fac]
        rw [Nat.mul_left_comm]
      rw [e1, sm_swap]
      have e2 : ∀ x ∈ List.range (n + 1), sm (fun s => if out s x then w n s else 0) F ≤ fac n := by
        intro x hx
        have hx : x < n + 1 := by simpa using hx
        have ih := lym n ((F.filter (fun s => out s x)).map (fun s => s.eraseIdx x)) ?_ ?_
        · rw [sm_map, ] at ih
          have e3 : sm (fun a => w n (a.eraseIdx x)) (F.filter (fun s => out s x)) = sm (w n) (F.filter (fun s => out s x)) := by
            refine sm_congr _ fun s hs => ?_
            have hs := (List.mem_filter.mp hs).2
            simp only [w, size_erase s x hs]
          rw [e3, sm_filter] at ih
          exact ih
        · intro s hs
          obtain ⟨t, ht, rfl⟩ := List.mem_map.mp hs
          have ht1 := (List.mem_filter.mp ht).1
          rw [List.length_eraseIdx]
          rw [if_pos (by rw [hl t ht1]; exact hx), hl t ht1]
          rfl
        · unfold Anti
          rw [List.pairwise_map]
          have hp : (F.filter (fun s => out s x)).Pairwise (fun a b => sub a b = false ∧ sub b a = false) := List.Pairwise.filter _ ha
          refine hp.imp_of_mem fun {a b} hma hmb h => ?_
          have a1 := List.mem_filter.mp hma
          have b1 := List.mem_filter.mp hmb
          have el : a.length = b.length := by rw [hl a a1.1, hl b b1.1]
          rw [sub_erase a b x el a1.2 b1.2, sub_erase b a x el.symm b1.2 a1.2]
          exact h
      have e4 := sm_le _ e2
      rw [sm_const, List.length_range] at e4
      exact e4
end Th
namespace Th
/-! ### sets as texts; as numbers -/
def b1 (c : Nat) : Nat := if c = 120 then 1 else 0
def bt (s : List Nat) : List Bool := s.map fun c => decide (c = 120)
def wi (s t : List Nat) : Bool := sub (bt s) (bt t)
/-- by the first sign first -/
def mkA : Nat → List Nat → Nat
  | a, [] => a
  | a, c :: s => mkA (a * 2 + b1 c) s
abbrev mk (s : List Nat) : Nat := mkA 0 s
/-- by the last sign first -/
def lmk : List Nat → Nat
  | [] => 0
  | c :: s => 2 * lmk s + b1 c
theorem b1_lt (c : Nat) : b1 c < 2 := by unfold b1; split <;> omega
theorem b1_le (c d : Nat) : (b1 c &&& b1 d = b1 c) ↔ (!decide (c = 120) || decide (d = 120)) = true := by
  unfold b1
  by_cases h : c = 120 <;> by_cases g : d = 120 <;> simp [h, g]
theorem and_bit (a b x y : Nat) (hx : x < 2) (hy : y < 2) : ((2 * a + x) &&& (2 * b + y)) = 2 * (a &&& b) + (x &&& y) := by
  have h1 : x = 0 ∨ x = 1 := by omega
  have h2 : y = 0 ∨ y = 1 := by omega
  apply Nat.eq_of_testBit_eq
  intro i
  cases i with
  | zero => rcases h1 with rfl | rfl <;> rcases h2 with rfl | rfl <;> simp [Nat.testBit_zero, Nat.add_mod, Nat.mul_mod_right]
  | succ i =>
    have e : ∀ (c z : Nat), z < 2 → (2 * c + z) / 2 = c := by intro c z h; omega
    have h3 : x &&& y < 2 := by rcases h1 with rfl | rfl <;> rcases h2 with rfl | rfl <;> decide
    rw [Nat.testBit_and, Nat.testBit_succ, Nat.testBit_succ, Nat.testBit_succ, e _ _ hx, e _ _ hy, e _ _ h3, Nat.testBit_and]
theorem and_le (a b c d : Nat) : ((2 * a + b1 c) &&& (2 * b + b1 d) = 2 * a + b1 c) ↔ (a &&& b = a ∧ (!decide (c = 120) || decide (d = 120)) = true) := by
  rw [and_bit _ _ _ _ (b1_lt c) (b1_lt d), ← b1_le]
  have h1 := b1_lt c
  have h2 : b1 c &&& b1 d ≤ b1 c := Nat.and_le_left
  constructor
  · intro h; constructor <;> omega
  · rintro ⟨h, g⟩; rw [h, g]
theorem mkA_and : ∀ (s t : List Nat) (a b : Nat), s.length = t.length → ((mkA a s &&& mkA b t = mkA a s) ↔ (a &&& b = a ∧ wi s t = true))
  | [], [], a, b, _ => by simp [mkA, wi, bt, sub]
  | [], _ :: _, _, _, h => by simp at h
  | _ :: _, [], _, _, h => by simp at h
  | c :: s, d :: t, a, b, h => by
    simp only [mkA]
    rw [mkA_and s t _ _ (by simpa using h), Nat.mul_comm a 2, Nat.mul_comm b 2, and_le]
    simp only [wi, bt, List.map_cons, sub, Bool.and_eq_true]
    exact and_assoc
theorem mk_and (s t : List Nat) (h : s.length = t.length) : decide (mk s &&& mk t = mk s) = wi s t := by
  have := mkA_and s t 0 0 h
  rw [Bool.eq_iff_iff, decide_eq_true_eq, this]
  simp
theorem lmk_and : ∀ (s t : List Nat), s.length = t.length → ((lmk s &&& lmk t = lmk s) ↔ wi s t = true)
  | [], [], _ => by simp [lmk, wi, bt, sub]
  | [], _ :: _, h => by simp at h
  | _ :: _, [], h => by simp at h
  | c :: s, d :: t, h => by
    simp only [lmk]
    rw [and_le, lmk_and s t (by simpa using h)]
    simp only [wi, bt, List.map_cons, sub, Bool.and_eq_true]
    exact and_comm
theorem lmk_inj : ∀ (s t : List Nat), (∀ c ∈ s, c = 120 ∨ c = 45) → (∀ c ∈ t, c = 120 ∨ c = 45) → s.length = t.length → lmk s = lmk t → s = t
  | [], [], _, _, _, _ => rfl
  | [], _ :: _, _, _, h, _ => by simp at h
  | _ :: _, [], _, _, h, _ => by simp at h
  | c :: s, d :: t, hs, ht, h, e => by
    simp only [lmk] at e
    have h1 := b1_lt c
    have h2 := b1_lt d
    have e1 : lmk s = lmk t := by omega
    have e2 : b1 c = b1 d := by omega
    have e3 := lmk_inj s t (fun x hx => hs x (List.mem_cons_of_mem _ hx)) (fun x hx => ht x (List.mem_cons_of_mem _ hx)) (by simpa using h) e1
    subst e3
    have c1 := hs c (List.mem_cons_self ..)
    have c2 := ht d (List.mem_cons_self ..)
    congr 1
    unfold b1 at e2
    rcases c1 with rfl | rfl <;> rcases c2 with rfl | rfl <;> simp at e2 <;> rfl
theorem lmk_lt : ∀ s : List Nat, lmk s < 2 ^ s.length
  | [] => by simp [lmk]
  | c :: s => by
    have h1 := lmk_lt s
    have h2 := b1_lt c
    simp only [lmk, List.length_cons, Nat.pow_succ]
    omega
theorem mkA_lt : ∀ (s : List Nat) (a n : Nat), a < 2 ^ n → mkA a s < 2 ^ (n + s.length)
  | [], a, n, h => by simpa [mkA] using h
  | c :: s, a, n, h => by
    have h2 := b1_lt c
    have := mkA_lt s (a * 2 + b1 c) (n + 1) (by rw [Nat.pow_succ]; omega)
    simp only [mkA, List.length_cons]
    rw [show n + (s.length + 1) = n + 1 + s.length by omega]
    exact this
theorem mk_lt (s : List Nat) : mk s < 2 ^ s.length := by
  have := mkA_lt s 0 0 (by simp)
  simpa using this
theorem sb_refl (s : List Nat) : wi s s = true := sub_refl _
theorem sub_at : ∀ (s t : List Bool), s.length = t.length → (sub s t = true ↔ ∀ k : Nat, s[k]? = some true → t[k]? = some true)
  | [], [], _ => by simp [sub]
  | [], _ :: _, h => by simp at h
  | _ :: _, [], h => by simp at h
  | a :: s, b :: t, h => by
    simp only [sub, Bool.and_eq_true]
    rw [sub_at s t (by simpa using h)]
    constructor
    · rintro ⟨h1, h2⟩ k hk
      cases k with
      | zero =>
        simp at hk
        subst hk
        simpa using h1
      | succ k => simpa using h2 k (by simpa using hk)
    · intro h2
      refine ⟨?_, fun k hk => by simpa using h2 (k + 1) (by simpa using hk)⟩
      cases a
      · rfl
      · have := h2 0 (by simp)
        simpa using this
theorem sb_at (s t : List Nat) (h : s.length = t.length) : wi s t = true ↔ ∀ k : Nat, s[k]? = some 120 → t[k]? = some 120 := by
  unfold wi
  rw [sub_at _ _ (by simp [bt, h])]
  have e : ∀ (s : List Nat) (k : Nat), (bt s)[k]? = some true ↔ s[k]? = some 120 := by
    intro s k
    simp only [bt, List.getElem?_map]
    cases s[k]? <;> simp
  simp only [e]
theorem sb_trans (s t u : List Nat) (h : s.length = t.length) (g : t.length = u.length) (a : wi s t = true) (b : wi t u = true) : wi s u = true := by
  rw [sb_at _ _ h] at a
  rw [sb_at _ _ g] at b
  rw [sb_at _ _ (h.trans g)]
  exact fun k hk => b k (a k hk)
theorem bt_size (s : List Nat) : size (bt s) = s.count 120 := by
  induction s with
  | nil => rfl
  | cons c s ih =>
    simp only [bt, List.map_cons] at ih ⊢
    by_cases h : c = 120
    · subst h; simp [size, ih]
    · rw [List.count_cons_of_ne (by simpa using h)]
      simp [h, size, ih]
theorem bt_len (s : List Nat) : (bt s).length = s.length := by simp [bt]
end Th
namespace Pg
open Mc PySem Th
abbrev sL (ss : List (List Nat)) : List D := ss.map D.str
abbrev fS (ss : List (List Nat)) : Sl := .fz (.lst (sL ss))
def SMarks (F : Fn) : Prop := ∀ s, s.length ≤ 200 → F [.fz (.str s)] = some (.val (.int (mk s)))
def SHolds (F : Fn) : Prop := ∀ a b : Nat, F [.fz (.int a), .fz (.int b)] = some (.val (.bl (decide (a &&& b = a))))
def bMarks : Ss := (.cons (.asg 1 false (.bin .add (.bin .mul (.slot 1) (.int 2)) (.ite (.cmp .eq (.slot 2) (.str [120])) (.int 1) (.int 0)))) .nil)
theorem marks_loop (G : Gm) (A : Option Sl) : ∀ (s : List Nat) (a n : Nat) (x : Option Sl), a < 2 ^ n → n + s.length ≤ 1000 →
    ∃ x', forLoop (bindT (.nm 2)) (execs G bMarks) (chs s) [A, some (.fz (.int a)), x] = some (.next [A, some (.fz (.int (mkA a s))), x'])
  | [], a, n, x, _, _ => ⟨x, rfl⟩
  | c :: s, a, n, x, h, hl => by
    simp only [List.length_cons] at hl
    have h2 := b1_lt c
    obtain ⟨x', ih⟩ := marks_loop G A s (a * 2 + b1 c) (n + 1) (some (.fz (.str [c]))) (by rw [Nat.pow_succ]; omega) (by omega)
    refine ⟨x', ?_⟩
    rw [chs, List.map_cons, forLoop, bindT1]
    simp only [setE1, List.set_cons_zero, List.set_cons_succ]
    have hb : bits (a : Int) ≤ n := bits_nat _ _ h
    have hb2 : bits 2 ≤ 2 := by decide
    have e : ev G (.bin .add (.bin .mul (.slot 1) (.int 2)) (.ite (.cmp .eq (.slot 2) (.str [120])) (.int 1) (.int 0))) [A, some (.fz (.int a)), some (.fz (.str [c]))] = some (.val (.int ((a * 2 + b1 c : Nat) : Int))) := by
      refine q_bin (.val (.int ((a : Int) * 2))) (.val (.int (b1 c : Nat))) _ (q_bin (.val (.int a)) (.val (.int 2)) _ (by simp) (by simp) (ml _ _ (by omega))) ?_ ?_
      · unfold b1
        by_cases hc : c = 120
        · subst hc; simp [cmpD, eqD]
        · simp [cmpD, eqD, hc]
      · simp [binD]
    rw [bMarks, q_next [A, some (.fz (.int ((a * 2 + b1 c : Nat) : Int))), some (.fz (.str [c]))] (q_asg _ e rfl) (execs0 _ _)]
    simp only []
    exact ih
theorem marks_of_ok (G : Gm) : SMarks (run G 1 3 p_marks_of) := by
  intro s hs
  refine run_ret [some (.fz (.str s)), none, none] rfl rfl ?_
  refine q_next [some (.fz (.str s)), some (.fz (.int 0)), none] (q_asg (.val (.int 0)) (by simp) rfl) ?_
  obtain ⟨x', e⟩ := marks_loop G (some (.fz (.str s))) s 0 0 none (by simp) (by omega)
  refine q_next _ (q_for _ (by simp) (by simp) e) ?_
  exact q_ret (q_rv _ (by simp))
theorem bitAnd_nat (a b : Nat) : Builtin.bitAnd (a : Int) (b : Int) = ((a &&& b : Nat) : Int) := by
  rw [PyProof.Rows.bitAnd_pp (by omega) (by omega)]
  simp
theorem holds_ok (G : Gm) : SHolds (run G 2 2 p_holds) := by
  intro a b
  refine run_ret [some (.fz (.int a)), some (.fz (.int b))] rfl rfl ?_
  refine q_ret (q_rv _ (q_cmp (.val (.int (a &&& b : Nat))) (.val (.int a)) _ ?_ (by simp) ?_))
  · exact q_bin (.val (.int a)) (.val (.int b)) _ (by simp) (by simp) (by simp only [Rd1, binD, bitAnd_nat])
  · simp only [Rd1, cmpD, eqD]
    congr 1
    rw [Bool.eq_iff_iff, decide_eq_true_eq, decide_eq_true_eq]
    omega

/-! ### loops that go through -/
theorem loop_thru {bind : D → Mc.Env → Option Mc.Env} {body : Mc.Env → Option Out} (P : Mc.Env → Prop) : ∀ (items : List D) (env : Mc.Env), P env →
    (∀ (d : D), d ∈ items → ∀ env : Mc.Env, P env → ∃ env1 env2, bind d env = some env1 ∧ body env1 = some (.next env2) ∧ P env2) → ∃ env', forLoop bind body items env = some (.next env') ∧ P env'
  | [], env, h, _ => ⟨env, rfl, h⟩
  | d :: r, env, h, hs => by
    obtain ⟨e1, e2, h1, h2, h3⟩ := hs d (List.mem_cons_self ..) env h
    obtain ⟨e', h4, h5⟩ := loop_thru P r e2 h3 fun d hd => hs d (List.mem_cons_of_mem _ hd)
    exact ⟨e', by rw [forLoop, h1]; simp only []; rw [h2]; exact h4, h5⟩
/-! ### comparisons of ints -/
theorem eqable_int (i : Int) : eqable (.int i) = true := by
  simp only [eqable, toPy, SeqAt.shaped, PyData.canLay0, PyData.depth]; rfl
theorem eqable_bl (i : Bool) : eqable (.bl i) = true := by
  simp only [eqable, toPy, SeqAt.shaped, PyData.canLay0, PyData.depth]; rfl
/-- flat things -/
def flatD : D → Bool
  | .int _ => true
  | .bl _ => true
  | .non => true
  | .str l => okc l
  | _ => false
theorem flat_lay {d : D} (h : flatD d = true) : (toPy d).canLay0 = true ∧ (toPy d).depth ≤ 0 := by
  cases d <;> simp only [flatD] at h <;> try (cases h; done)
  all_goals simp [toPy, PyData.canLay0, PyData.depth, strOk_cps, h]
theorem eqable_flat {d : D} (h : flatD d = true) : eqable d = true := by
  obtain ⟨h1, h2⟩ := flat_lay h
  simp only [eqable, SeqAt.shaped, h1, Bool.true_and, decide_eq_true_eq]
  omega
theorem eqable_lst {l : List D} (h : ∀ d ∈ l, flatD d = true) : eqable (.lst l) = true := by
  simp only [eqable, toPy, SeqAt.shaped, Bool.and_eq_true, decide_eq_true_eq, PyData.canLay0, PyData.depth]
  refine ⟨canLay_all _ fun d hd => (flat_lay (h d hd)).1, ?_⟩
  have := depth_all 0 l fun d hd => (flat_lay (h d hd)).2
  omega
theorem eqable_tup {l : List D} (h : ∀ d ∈ l, flatD d = true) : eqable (.tup l) = true := by
  simp only [eqable, toPy, SeqAt.shaped, Bool.and_eq_true, decide_eq_true_eq, PyData.canLay0, PyData.depth]
  refine ⟨canLay_all _ fun d hd => (flat_lay (h d hd)).1, ?_⟩
  have := depth_all 0 l fun d hd => (flat_lay (h d hd)).2
  omega
theorem eqv_int (i j : Int) : PyData.eqv (.int i) (.int j) = decide (i = j) := by
  rw [PyData.eqv]
  by_cases h : i = j
  · subst h; simp
  · simp [h]
theorem any_ints (l : List Nat) (i : Nat) : ((toPyL (nI l)).any fun z => PyData.eqv z (toPy (.int (i : Int)))) = l.contains i := by
  rw [nI, toPyL_map, List.any_map]
  induction l with
  | nil => rfl
  | cons a l ih =>
    rw [List.any_cons, ih, List.contains_cons]
    congr 1
    simp only [Function.comp, toPy, eqv_int]
    rw [Bool.eq_iff_iff]
    simp
    omega
theorem ints_flat (l : List Nat) : ∀ d ∈ nI l, flatD d = true := by
  intro d hd
  obtain ⟨a, _, rfl⟩ := List.mem_map.1 hd
  rfl
theorem isin_ints (l : List Nat) (i : Nat) : cmpD .isin (.int i) (.lst (nI l)) = some (l.contains i) := by
  simp only [cmpD, eqable_int, eqable_lst (ints_flat l), Bool.and_self, if_true, any_ints]
theorem notin_ints (l : List Nat) (i : Nat) : cmpD .notin (.int i) (.lst (nI l)) = some (!l.contains i) := by
  simp only [cmpD, eqable_int, eqable_lst (ints_flat l), Bool.and_self, if_true, any_ints]
theorem strs_flat (ss : List (List Nat)) (h : ∀ s ∈ ss, Ch s) : ∀ d ∈ sL ss, flatD d = true := by
  intro d hd
  obtain ⟨a, ha, rfl⟩ := List.mem_map.1 hd
  exact (h a ha).okc

/-! ### the program's functions -/
def SWithin (F : Fn) : Prop := ∀ s t, Ok s → Ok t → s.length = t.length → F [.fz (.str s), .fz (.str t)] = some (.val (.bl (wi s t)))
theorem is_within_ok (G : Gm) (F1 F16 F17) (g1 : G 1 = some F1) (g16 : G 16 = some F16) (g17 : G 17 = some F17) (s1 : SCheckSet F1) (s16 : SMarks F16) (s17 : SHolds F17) : SWithin (run G 2 2 p_is_within) := by
  intro s t hs ht hl
  have k : s.length ≤ LINE := by rw [LN]; have := hs.1; omega
  have k2 : t.length ≤ LINE := by rw [LN]; have := ht.1; omega
  refine run_ret [some (.fz (.str s)), some (.fz (.str t))] rfl rfl ?_
  refine q_next _ (q_ex _ (q_call _ _ _ (by simp) g1 (s1 s hs) rfl)) ?_
  refine q_next _ (q_ex _ (q_call _ _ _ (by simp) g1 (s1 t ht) rfl)) ?_
  refine q_next _ (q_else (q_cmp (.val (.int s.length)) (.val (.int t.length)) false (by simp [biD, k]) (by simp [biD, k2]) (by simp [cmpD, eqD, hl])) (execs0 _ _)) ?_
  refine q_ret (q_rv _ (q_call [.fz (.int (mk s)), .fz (.int (mk t))] _ _ ?_ g17 (by rw [s17, mk_and s t hl]) rfl))
  rw [evA1, q_call [.fz (.str s)] _ _ (by simp) g16 (s16 s hs.1) rfl, evA1, q_call [.fz (.str t)] _ _ (by simp) g16 (s16 t ht.1) rfl, evA0]
  rfl
def SWays (F : Fn) : Prop := SPicks F
theorem ways_ok (G : Gm) (F9 F10 F11) (g9 : G 9 = some F9) (g10 : G 10 = some F10) (g11 : G 11 = some F11) (s9 : SIsNumber F9) (s10 : SCheckLength F10) (s11 : SPicks F11) : SWays (run G 2 2 p_ways) := by
  intro n k hn hk
  refine run_ret [some (.fz (.int n)), some (.fz (.int k))] rfl rfl ?_
  refine q_next _ (q_ex _ (q_call _ _ _ (by simp) g10 (s10 n hn) rfl)) ?_
  refine q_next _ (q_else (q_not true (q_call [.fz (.int k), .fz (.int 0), .fz (.int n)] _ _ (by simp) g9 (by rw [s9, decide_eq_true (by omega)]) rfl)) (execs0 _ _)) ?_
  exact q_ret (q_rv _ (q_call _ _ _ (by simp) g11 (s11 n k hn hk) rfl))
def SInsideB (F : Fn) : Prop := ∀ a b : List Nat, a.length ≤ 200 → a.length = b.length → F [.fz (.str a), .fz (.str b)] = some (.val (.bl (wi a b)))
theorem all_map {α : Type} (l : List α) (f : α → Bool) : (l.map f).all id = l.all f := by
  induction l with
  | nil => rfl
  | cons a l ih => simp [ih]
theorem any_map {α : Type} (l : List α) (f : α → Bool) : (l.map f).any id = l.any f := by
  induction l with
  | nil => rfl
  | cons a l ih => simp [ih]
theorem _law_inside_okB (G : Gm) : SInsideB (run G 2 3 p__law_inside) := by
  intro a b ha hab
  refine run_ret [some (.fz (.str a)), some (.fz (.str b)), none] rfl rfl ?_
  have hl : a.length ≤ LINE := by rw [LN]; omega
  have hl2 : b.length ≤ LINE := by rw [LN]; omega
  have e : ev G (.lc (.cmp .eq (.sub (.slot 1) (.slot 2)) (.str [120])) (.nm 2) (.rng1 (.bi .len (.cons (.slot 0) .nil))) (.one (.cmp .eq (.sub (.slot 0) (.slot 2)) (.str [120])))) [some (.fz (.str a)), some (.fz (.str b)), none]
      = some (.fresh (((List.range a.length).filter fun k => decide (a[k]? = some 120)).map fun k => .bl (decide (b[k]? = some 120)))) := by
    refine ev_lc_fm (List.range a.length) (fun (i : Nat) => D.int (i : Int)) _ _ ?_ ?_ ?_
    · simp [biD, hl, small62_nat a.length (by omega), rangeD0]
    · rw [List.length_range]; exact hl
    · intro k hk
      have hk : k < a.length := List.mem_range.1 hk
      have hk2 : k < b.length := by omega
      refine ⟨_, rfl, ?_, ?_⟩
      · simp [subD, L2.atI, L2.ixN, cmpD, eqD, hl, hk]
      · intro hp
        simp [subD, L2.atI, L2.ixN, cmpD, eqD, hl2, hk2]
  refine q_ret (q_rv _ ?_)
  rw [ev_bi, evD1, e]
  have e3 : biD .all [R.data (.fresh (((List.range a.length).filter fun k => decide (a[k]? = some 120)).map fun k => D.bl (decide (b[k]? = some 120))))] = some (.val (.bl (wi a b))) := by
    simp only [Rd2, biD, blsD_map, Option.map_some, all_map]
    congr 3
    rw [Bool.eq_iff_iff, List.all_eq_true, sb_at _ _ hab]
    constructor
    · intro h k hk
      have hlt : k < a.length := (List.getElem?_eq_some_iff.1 hk).1
      have := h k (List.mem_filter.2 ⟨List.mem_range.2 hlt, by simpa using hk⟩)
      simpa using this
    · intro h k hk
      have := (List.mem_filter.1 hk).2
      simpa using h k (by simpa using this)
  simp only [evD0]
  exact e3
def SLMarks (F : Fn) : Prop := ∀ s : List Nat, s.length ≤ 200 → F [.fz (.str s)] = some (.val (.int (lmk s)))
theorem lmk_sum : ∀ (s : List Nat) (k : Nat), (((s.zipIdx k).filter fun p => decide (p.1 = 120)).map fun p => (2 : Int) ^ p.2).sum = 2 ^ k * (lmk s : Int)
  | [], k => by simp [lmk]
  | c :: s, k => by
    rw [List.zipIdx_cons, List.filter_cons]
    have ih := lmk_sum s (k + 1)
    by_cases h : c = 120
    · subst h
      simp only [decide_true, if_true, List.map_cons, List.sum_cons, ih, lmk, b1]
      push_cast
      rw [Int.pow_succ, Int.mul_add]
      simp only [Int.mul_one, Int.mul_assoc]
      omega
    · simp only [h, decide_false, Bool.false_eq_true, if_false, ih, lmk, b1]
      push_cast
      rw [Int.pow_succ]
      simp only [Int.mul_assoc, Int.add_zero]
theorem _law_marks_ok (G : Gm) : SLMarks (run G 1 3 p__law_marks) := by
  intro s hs
  refine run_ret [some (.fz (.str s)), none, none] rfl rfl ?_
  have hl : s.length ≤ LINE := by rw [LN]; omega
  have e : ev G (.lc (.bin .shl (.int 1) (.slot 1)) (.tp [1, 2]) (.enum (.slot 0)) (.one (.cmp .eq (.slot 2) (.str [120])))) [some (.fz (.str s)), none, none]
      = some (.fresh ((s.zipIdx.filter fun p => decide (p.1 = 120)).map fun p => .int (2 ^ p.2))) := by
    refine ev_lc_fm s.zipIdx (fun p => D.tup [.int (p.2 : Int), .str [p.1]]) _ _ ?_ ?_ ?_
    · simp only [evS_enum, ev_slot, List.getElem?_cons_zero, Rd1]
      rw [show (0 : Int) = ((0 : Nat) : Int) from rfl, enumD_map]
    · rw [List.length_zipIdx]; exact hl
    · intro p hp
      have hlt : p.2 < 200 := by
        have := List.snd_lt_of_mem_zipIdx hp
        omega
      have hb : bits 1 ≤ 1 := by decide
      refine ⟨[some (.fz (.str s)), some (.fz (.int (p.2 : Int))), some (.fz (.str [p.1]))], rfl, ?_, ?_⟩
      · simp [cmpD, eqD]
      · intro _
        have hc : (0 : Int) ≤ (p.2 : Int) ∧ ((bits 1 : Nat) : Int) + (p.2 : Int) ≤ 134217728 := by omega
        simp [binD, hc]
  refine q_ret (q_rv _ ?_)
  rw [ev_bi, evD1, e]
  simp only [evD0, Rd2, biD, intsD_map, Option.map_some]
  rw [lmk_sum]
  simp
end Pg
namespace Pg
open Mc PySem Th
/-! ### first_within -/
def fwJ (i m : Nat) : List (Nat × Nat) → Option Nat
  | [] => none
  | p :: r => if i ≠ p.2 ∧ m &&& p.1 = m then some p.2 else fwJ i m r
def fwI (all : List (Nat × Nat)) : List (Nat × Nat) → Option (Nat × Nat)
  | [] => none
  | p :: r => match fwJ p.2 p.1 all with
    | some j => some (p.2, j)
    | none => fwI all r
def fw (ms : List Nat) : Option (Nat × Nat) := fwI ms.zipIdx ms.zipIdx
theorem fwJ_none {i m : Nat} : ∀ {l : List (Nat × Nat)}, fwJ i m l = none ↔ ∀ p ∈ l, i ≠ p.2 → ¬ (m &&& p.1 = m)
  | [] => by simp [fwJ]
  | p :: r => by
    rw [fwJ]
    by_cases h : i ≠ p.2 ∧ m &&& p.1 = m
    · rw [if_pos h]
      constructor
      · intro z; cases z
      · intro z; exact absurd h.2 (z p (List.mem_cons_self ..) h.1)
    · rw [if_neg h, fwJ_none]
      constructor
      · intro z q hq
        rcases List.mem_cons.1 hq with rfl | hq
        · intro a b; exact h ⟨a, b⟩
        · exact z q hq
      · intro z q hq; exact z q (List.mem_cons_of_mem _ hq)
theorem fwJ_some {i m j : Nat} : ∀ {l : List (Nat × Nat)}, fwJ i m l = some j → ∃ p ∈ l, j = p.2 ∧ i ≠ p.2 ∧ m &&& p.1 = m
  | [], h => by cases h
  | p :: r, h => by
    rw [fwJ] at h
    split at h
    · rename_i g
      cases h
      exact ⟨p, List.mem_cons_self .., rfl, g⟩
    · obtain ⟨q, h1, h2⟩ := fwJ_some h
      exact ⟨q, List.mem_cons_of_mem _ h1, h2⟩
theorem fwI_none {all : List (Nat × Nat)} : ∀ {l : List (Nat × Nat)}, fwI all l = none ↔ ∀ p ∈ l, fwJ p.2 p.1 all = none
  | [] => by simp [fwI]
  | p :: r => by
    rw [fwI]
    cases h : fwJ p.2 p.1 all with
    | some j =>
      constructor
      · intro z; cases z
      · intro z; rw [z p (List.mem_cons_self ..)] at h; cases h
    | none =>
      simp only []
      rw [fwI_none]
      constructor
      · intro z q hq
        rcases List.mem_cons.1 hq with rfl | hq
        · exact h
        · exact z q hq
      · intro z q hq; exact z q (List.mem_cons_of_mem _ hq)
theorem fwI_some {all : List (Nat × Nat)} {i j : Nat} : ∀ {l : List (Nat × Nat)}, fwI all l = some (i, j) → ∃ p ∈ l, i = p.2 ∧ fwJ p.2 p.1 all = some j
  | [], h => by cases h
  | p :: r, h => by
    rw [fwI] at h
    cases h1 : fwJ p.2 p.1 all with
    | some k =>
      rw [h1] at h
      cases h
      exact ⟨p, List.mem_cons_self .., rfl, h1⟩
    | none =>
      rw [h1] at h
      obtain ⟨q, h1, h2⟩ := fwI_some h
      exact ⟨q, List.mem_cons_of_mem _ h1, h2⟩
theorem fw_none {ms : List Nat} : fw ms = none ↔ ∀ (i j a b : Nat), ms[i]? = some a → ms[j]? = some b → i ≠ j → ¬ (a &&& b = a) := by
  rw [fw, fwI_none]
  constructor
  · intro h i j a b h1 h2 hne
    have := h (a, i) (List.mem_zipIdx_iff_getElem?.2 h1)
    exact fwJ_none.1 this (b, j) (List.mem_zipIdx_iff_getElem?.2 h2) hne
  · intro h p hp
    refine fwJ_none.2 fun q hq hne => ?_
    exact h p.2 q.2 p.1 q.1 (List.mem_zipIdx_iff_getElem?.1 hp) (List.mem_zipIdx_iff_getElem?.1 hq) hne
theorem fw_some {ms : List Nat} {i j : Nat} (h : fw ms = some (i, j)) : i ≠ j ∧ ∃ a b, ms[i]? = some a ∧ ms[j]? = some b ∧ a &&& b = a := by
  obtain ⟨p, h1, rfl, h2⟩ := fwI_some h
  obtain ⟨q, h3, rfl, h4, h5⟩ := fwJ_some h2
  exact ⟨h4, p.1, q.1, List.mem_zipIdx_iff_getElem?.1 h1, List.mem_zipIdx_iff_getElem?.1 h3, h5⟩
abbrev pI (l : List (Nat × Nat)) : List D := l.map fun p => D.tup [.int (p.2 : Int), .int (p.1 : Int)]
def bFw : Ss := (.cons (.ife (.and (.cons (.cmp .ne (.slot 3) (.slot 5)) (.cons (.call 17 (.cons (.slot 4) (.cons (.slot 6) .nil))) .nil))) (.cons (.ret (.tup (.cons (.slot 3) (.cons (.slot 5) .nil)))) .nil) .nil) .nil)
def bFw2 : Ss := (.cons (.for (.tp [5, 6]) (.enum (.slot 1)) bFw) .nil)
def oFw (i j : Nat) : Out := .ret (.val (.tup [.int (i : Int), .int (j : Int)]))
theorem fw_in (G : Gm) (F17) (g17 : G 17 = some F17) (s17 : SHolds F17) (A B x2 : Option Sl) (i m : Nat) : ∀ (l : List (Nat × Nat)) (x5 x6 : Option Sl),
    (∀ j, fwJ i m l = some j → forLoop (bindT (.tp [5, 6])) (execs G bFw) (pI l) [A, B, x2, some (.fz (.int i)), some (.fz (.int m)), x5, x6] = some (oFw i j)) ∧
    (fwJ i m l = none → ∃ x5' x6', forLoop (bindT (.tp [5, 6])) (execs G bFw) (pI l) [A, B, x2, some (.fz (.int i)), some (.fz (.int m)), x5, x6] = some (.next [A, B, x2, some (.fz (.int i)), some (.fz (.int m)), x5', x6']))
  | [], x5, x6 => ⟨fun j h => (by cases h), fun _ => ⟨x5, x6, rfl⟩⟩
  | p :: r, x5, x6 => by
    have ih := fw_in G F17 g17 s17 A B x2 i m r (some (.fz (.int p.2))) (some (.fz (.int p.1)))
    have hl : (2 : Nat) ≤ LINE := by rw [LN]; omega
    rw [pI, List.map_cons, forLoop, bindT2, fwJ]
    simp only [setAll1, setAll0, setE1, List.set_cons_zero, List.set_cons_succ]
    have ec : ∀ k : Bool, decide (i ≠ p.2) = k → ev G (.cmp .ne (.slot 3) (.slot 5)) [A, B, x2, some (.fz (.int i)), some (.fz (.int m)), some (.fz (.int p.2)), some (.fz (.int p.1))] = some (.val (.bl k)) := by
      intro k hk
      refine q_cmp (.val (.int i)) (.val (.int p.2)) k (by simp) (by simp) ?_
      simp only [Rd1, cmpD, eqD, Option.map_some, ← hk]
      congr 1
      rw [Bool.eq_iff_iff]
      simp
      omega
    have eh : ev G (.call 17 (.cons (.slot 4) (.cons (.slot 6) .nil))) [A, B, x2, some (.fz (.int i)), some (.fz (.int m)), some (.fz (.int p.2)), some (.fz (.int p.1))] = some (.val (.bl (decide (m &&& p.1 = m)))) :=
      q_call _ _ _ (by simp) g17 (s17 m p.1) rfl
    by_cases h : i ≠ p.2 ∧ m &&& p.1 = m
    · rw [if_pos h]
      rw [decide_eq_true h.2] at eh
      refine ⟨fun j hj => ?_, fun z => by cases z⟩
      cases hj
      rw [bFw, q_ret (q_then (q_and1 (ec true (decide_eq_true h.1)) (q_and1 eh q_andN)) (q_ret (q_rv (.tup [.int (i : Int), .int (p.2 : Int)]) (by simp [hl]))))]
      rfl
    · rw [if_neg h]
      have e : execs G bFw [A, B, x2, some (.fz (.int i)), some (.fz (.int m)), some (.fz (.int p.2)), some (.fz (.int p.1))] = some (.next [A, B, x2, some (.fz (.int i)), some (.fz (.int m)), some (.fz (.int p.2)), some (.fz (.int p.1))]) := by
        refine q_next _ (q_else ?_ (execs0 _ _)) (execs0 _ _)
        by_cases h1 : i ≠ p.2
        · have h2 : ¬ (m &&& p.1 = m) := fun z => h ⟨h1, z⟩
          rw [decide_eq_false h2] at eh
          exact q_and1 (ec true (decide_eq_true h1)) (q_and0 eh)
        · exact q_and0 (ec false (decide_eq_false h1))
      rw [e]
      exact ih
theorem fw_out (G : Gm) (F17) (g17 : G 17 = some F17) (s17 : SHolds F17) (A x2 : Option Sl) (ms : List Nat) : ∀ (l : List (Nat × Nat)) (x3 x4 x5 x6 : Option Sl),
    (∀ i j, fwI ms.zipIdx l = some (i, j) → forLoop (bindT (.tp [3, 4])) (execs G bFw2) (pI l) [A, some (.fz (.lst (nI ms))), x2, x3, x4, x5, x6] = some (oFw i j)) ∧
    (fwI ms.zipIdx l = none → ∃ x3' x4' x5' x6', forLoop (bindT (.tp [3, 4])) (execs G bFw2) (pI l) [A, some (.fz (.lst (nI ms))), x2, x3, x4, x5, x6] = some (.next [A, some (.fz (.lst (nI ms))), x2, x3', x4', x5', x6']))
  | [], x3, x4, x5, x6 => ⟨fun i j h => (by cases h), fun _ => ⟨x3, x4, x5, x6, rfl⟩⟩
  | p :: r, x3, x4, x5, x6 => by
    rw [pI, List.map_cons, forLoop, bindT2, fwI]
    simp only [setAll1, setAll0, setE1, List.set_cons_zero, List.set_cons_succ]
    have hin := fw_in G F17 g17 s17 A (some (.fz (.lst (nI ms)))) x2 p.2 p.1 ms.zipIdx x5 x6
    have hs : evS G (.enum (.slot 1)) [A, some (.fz (.lst (nI ms))), x2, some (.fz (.int p.2)), some (.fz (.int p.1)), x5, x6] = some (pI ms.zipIdx) := by
      simp only [evS_enum, ev_slot, List.getElem?_cons_succ, List.getElem?_cons_zero, Rd1]
      rw [nI, show (0 : Int) = ((0 : Nat) : Int) from rfl, enumD_map]
    cases h : fwJ p.2 p.1 ms.zipIdx with
    | some j =>
      refine ⟨fun i k hk => ?_, fun z => by cases z⟩
      cases hk
      have e : execs G bFw2 [A, some (.fz (.lst (nI ms))), x2, some (.fz (.int p.2)), some (.fz (.int p.1)), x5, x6] = some (oFw p.2 j) := by
        rw [bFw2]
        exact q_ret (q_for _ (by simp) hs (hin.1 j h))
      rw [e]
      rfl
    | none =>
      obtain ⟨x5', x6', e1⟩ := hin.2 h
      have ih := fw_out G F17 g17 s17 A x2 ms r (some (.fz (.int p.2))) (some (.fz (.int p.1))) x5' x6'
      have e : execs G bFw2 [A, some (.fz (.lst (nI ms))), x2, some (.fz (.int p.2)), some (.fz (.int p.1)), x5, x6] = some (.next [A, some (.fz (.lst (nI ms))), x2, some (.fz (.int p.2)), some (.fz (.int p.1)), x5', x6']) := by
        rw [bFw2]
        exact q_next _ (q_for _ (by simp) hs e1) (execs0 _ _)
      rw [e]
      exact ih
def fwD : Option (Nat × Nat) → D
  | none => .non
  | some (i, j) => .tup [.int (i : Int), .int (j : Int)]
def SFirst (F : Fn) : Prop := ∀ ss : List (List Nat), (∀ s ∈ ss, s.length ≤ 200) → ss.length ≤ 1000 → F [fS ss] = some (.val (fwD (fw (ss.map mk))))
theorem first_within_ok (G : Gm) (F16 F17) (g16 : G 16 = some F16) (g17 : G 17 = some F17) (s16 : SMarks F16) (s17 : SHolds F17) : SFirst (run G 1 7 p_first_within) := by
  intro ss hs hl
  refine run_ret [some (fS ss), none, none, none, none, none, none] rfl rfl ?_
  have e1 : ev G (.lc (.call 16 (.cons (.slot 2) .nil)) (.nm 2) (.seq (.slot 0)) .non) [some (fS ss), none, none, none, none, none, none] = some (.fresh (nI (ss.map mk))) := by
    rw [nI, List.map_map]
    refine ev_lc_m ss D.str _ (by simp) (by rw [LN]; omega) ?_
    intro s hm
    refine ⟨_, rfl, ?_⟩
    have := s16 s (hs s hm)
    simp [g16, this]
  refine q_next [some (fS ss), some (.fz (.lst (nI (ss.map mk)))), none, none, none, none, none] (q_asg _ e1 rfl) ?_
  have ho := fw_out G F17 g17 s17 (some (fS ss)) none (ss.map mk) (ss.map mk).zipIdx none none none none
  have hsr : evS G (.enum (.slot 1)) [some (fS ss), some (.fz (.lst (nI (ss.map mk)))), none, none, none, none, none] = some (pI (ss.map mk).zipIdx) := by
    simp only [evS_enum, ev_slot, List.getElem?_cons_succ, List.getElem?_cons_zero, Rd1]
    rw [nI, show (0 : Int) = ((0 : Nat) : Int) from rfl, enumD_map]
  cases h : fw (ss.map mk) with
  | none =>
    obtain ⟨a, b, c, d, e⟩ := ho.2 h
    refine q_next _ (q_for _ (by simp) hsr e) ?_
    exact q_ret (q_rv _ (by simp [fwD]))
  | some p => exact q_ret (q_for _ (by simp) hsr (ho.1 p.1 p.2 h))

/-! ### check_family -/
theorem ddl_nodup : ∀ (l acc : List (List Nat)), (acc ++ l).Nodup → ddl acc l = acc ++ l
  | [], acc, _ => by simp [ddl]
  | x :: l, acc, h => by
    have hx : acc.contains x = false := by
      rw [← Bool.not_eq_true, List.contains_iff_mem]
      intro hm
      exact (List.nodup_append.1 h).2.2 x hm x (List.mem_cons_self ..) rfl
    rw [ddl, hx]
    simp only [Bool.false_eq_true, if_false]
    rw [ddl_nodup l (acc ++ [x]) (by simpa using h)]
    simp
structure FamOk (n : Nat) (ss : List (List Nat)) : Prop where
  ok : ∀ s ∈ ss, Ch s ∧ s.length = n
  n : n ≤ 200
  nd : ss.Nodup
  few : ss.length ≤ 1000
theorem FamOk.ok' {n : Nat} {ss : List (List Nat)} (h : FamOk n ss) : ∀ s ∈ ss, Ok s := fun s hs => ⟨by rw [(h.ok s hs).2]; exact h.n, (h.ok s hs).1⟩
theorem FamOk.le {n : Nat} {ss : List (List Nat)} (h : FamOk n ss) : ∀ s ∈ ss, s.length ≤ 200 := fun s hs => (h.ok' s hs).1
def SCheckFam (F : Fn) : Prop := ∀ (n : Nat) (ss : List (List Nat)), FamOk n ss → F [fS ss] = some (.val .non)
theorem strsD_sL (ss : List (List Nat)) : strsD (sL ss) = some ss := by
  have := strsD_map ss id
  simpa [sL] using this
theorem check_family_ok (G : Gm) (F0) (g0 : G 0 = some F0) (s0 : SIsSet F0) : SCheckFam (run G 1 2 p_check_family) := by
  intro n ss h
  rw [run_eq _ _ _ _ _ (by rfl)]
  have hln : ss.length ≤ LINE := by rw [LN]; have := h.few; omega
  have e1 : ev G (.lc (.call 0 (.cons (.slot 1) .nil)) (.nm 1) (.seq (.slot 0)) .non) [some (fS ss), none] = some (.fresh (ss.map fun _ => .bl true)) := by
    refine ev_lc_m ss D.str _ (by simp) hln ?_
    intro s hm
    refine ⟨_, rfl, ?_⟩
    simp [g0, s0 s (h.ok' s hm)]
  have e2 : ev G (.lc (.cmp .ne (.bi .len (.cons (.slot 1) .nil)) (.bi .len (.cons (.sub (.slot 0) (.int 0)) .nil))) (.nm 1) (.seq (.slot 0)) .non) [some (fS ss), none] = some (.fresh (ss.map fun _ => .bl false)) := by
    refine ev_lc_m ss D.str _ (by simp) hln ?_
    intro s hm
    refine ⟨_, rfl, ?_⟩
    have hs : s.length ≤ LINE := by rw [LN]; have := h.le s hm; omega
    obtain ⟨t, r, rfl⟩ : ∃ t r, ss = t :: r := by cases ss with | nil => cases hm | cons t r => exact ⟨t, r, rfl⟩
    have ht : t.length ≤ LINE := by rw [LN]; have := h.le t (List.mem_cons_self ..); omega
    have e : s.length = t.length := by rw [(h.ok s hm).2, (h.ok t (List.mem_cons_self ..)).2]
    simp [biD, hs, subD, L2.atI, L2.ixN, ht, cmpD, eqD, e]
  have a1 : ev G (.bi .all (.cons (.lc (.call 0 (.cons (.slot 1) .nil)) (.nm 1) (.seq (.slot 0)) .non) .nil)) [some (fS ss), none] = some (.val (.bl true)) := by
    refine q_bi1 _ _ e1 ?_
    simp only [Rd2, biD, blsD_map, Option.map_some, all_map]
    simp
  have a2 : ev G (.bi .any (.cons (.lc (.cmp .ne (.bi .len (.cons (.slot 1) .nil)) (.bi .len (.cons (.sub (.slot 0) (.int 0)) .nil))) (.nm 1) (.seq (.slot 0)) .non) .nil)) [some (fS ss), none] = some (.val (.bl false)) := by
    refine q_bi1 _ _ e2 ?_
    simp only [Rd2, biD, blsD_map, Option.map_some, any_map]
    simp
  have a3 : ev G (.cmp .ne (.lset (.slot 0)) (.bi .len (.cons (.slot 0) .nil))) [some (fS ss), none] = some (.val (.bl false)) := by
    have hf : ss.length ≤ 4000 := by have := h.few; omega
    refine q_cmp (.val (.int (ss.length : Nat))) (.val (.int (ss.length : Nat))) false ?_ (by simp [biD]) (by simp [cmpD, eqD])
    rw [ev_lset]
    simp only [ev_slot, List.getElem?_cons_zero, Rd1, strsD_sL, hf, if_true]
    rw [ddl_nodup ss [] (by simpa using h.nd)]
    rfl
  have b : execs G p_check_family [some (fS ss), none] = some (.next [some (fS ss), none]) := by
    refine q_next _ (q_else (q_or0 (q_not true (by simp [isiD])) (q_or0 (q_not true a1) q_orN)) (execs0 _ _)) ?_
    exact q_next _ (q_else (q_or0 a2 (q_or0 a3 q_orN)) (execs0 _ _)) (execs0 _ _)
  rw [show ([fS ss].map some ++ List.replicate (2 - [fS ss].length) none : Mc.Env) = [some (fS ss), none] from rfl, b]
def SCheckLeasts (F : Fn) : Prop := ∀ (n : Nat) (ss : List (List Nat)), FamOk n ss → fw (ss.map mk) = none → F [fS ss] = some (.val .non)
theorem check_leasts_ok (G : Gm) (F20 F21) (g20 : G 20 = some F20) (g21 : G 21 = some F21) (s20 : SFirst F20) (s21 : SCheckFam F21) : SCheckLeasts (run G 1 1 p_check_leasts) := by
  intro n ss h hf
  rw [run_eq _ _ _ _ _ (by rfl)]
  have e20 := s20 ss h.le h.few
  rw [hf] at e20
  have b : execs G p_check_leasts [some (fS ss)] = some (.next [some (fS ss)]) := by
    refine q_next _ (q_ex _ (q_call [fS ss] _ _ (by simp) g21 (s21 n ss h) rfl)) ?_
    exact q_next _ (q_else (q_cmp (.val .non) (.val .non) false (q_call [fS ss] _ _ (by simp) g20 e20 rfl) (by simp) (by simp [cmpD, isNon])) (execs0 _ _)) (execs0 _ _)
  rw [show ([fS ss].map some ++ List.replicate (1 - [fS ss].length) none : Mc.Env) = [some (fS ss)] from rfl, b]
def SSaysYes (F : Fn) : Prop := ∀ (ms : List Nat) (x : Nat), ms.length ≤ 1000 → F [.fz (.lst (nI ms)), .fz (.int x)] = some (.val (.bl (ms.any fun m => decide (m &&& x = m))))
theorem says_yes_ok (G : Gm) (F17) (g17 : G 17 = some F17) (s17 : SHolds F17) : SSaysYes (run G 2 3 p_says_yes) := by
  intro ms x hl
  refine run_ret [some (.fz (.lst (nI ms))), some (.fz (.int x)), none] rfl rfl ?_
  refine q_ret (q_rv _ (q_bi1 (.fresh (ms.map fun m => .bl (decide (m &&& x = m)))) _ ?_ ?_))
  · refine ev_lc_m ms (fun (m : Nat) => D.int (m : Int)) _ (by simp) (by rw [LN]; omega) ?_
    intro m hm
    refine ⟨_, rfl, ?_⟩
    simp [g17, s17 m x]
  · simp only [Rd2, biD, blsD_map, Option.map_some, any_map]
theorem ne_nil (ss : List (List Nat)) (h : ∀ s ∈ ss, Ch s) : cmpD .ne (.lst (sL ss)) (.lst []) = some (!ss.isEmpty) := by
  have e1 := eqable_lst (strs_flat ss h)
  have e2 : eqable (.lst []) = true := eqable_lst (by simp)
  simp only [cmpD, eqD, e1, e2, Bool.and_self, if_true, Option.map_some]
  cases ss with
  | nil => simp [toPy, toPyL, PyData.eqv, PyData.eqvAll]
  | cons s r => simp [toPy, toPyL, PyData.eqv, PyData.eqvAll]
def SSays (F : Fn) : Prop := ∀ (n : Nat) (ss : List (List Nat)) (s : List Nat), FamOk n ss → fw (ss.map mk) = none → Ok s → (ss ≠ [] → s.length = n) → F [fS ss, .fz (.str s)] = some (.val (.bl (ss.any fun t => wi t s)))
theorem says_ok (G : Gm) (F1 F16 F22 F23) (g1 : G 1 = some F1) (g16 : G 16 = some F16) (g22 : G 22 = some F22) (g23 : G 23 = some F23) (s1 : SCheckSet F1) (s16 : SMarks F16) (s22 : SCheckLeasts F22) (s23 : SSaysYes F23) : SSays (run G 2 3 p_says) := by
  intro n ss s h hf hs hn
  refine run_ret [some (fS ss), some (.fz (.str s)), none] rfl rfl ?_
  refine q_next _ (q_ex _ (q_call [fS ss] _ _ (by simp) g22 (s22 n ss h hf) rfl)) ?_
  refine q_next _ (q_ex _ (q_call [.fz (.str s)] _ _ (by simp) g1 (s1 s hs) rfl)) ?_
  have hsl : s.length ≤ LINE := by rw [LN]; have := hs.1; omega
  refine q_next _ (q_else ?_ (execs0 _ _)) ?_
  · have e := ne_nil ss fun t ht => (h.ok t ht).1
    cases ss with
    | nil => exact q_and0 (q_cmp (.val (.lst [])) (.fresh []) false (by simp) (by simp) (by simpa using e))
    | cons t r =>
      have ht : t.length ≤ LINE := by rw [LN]; have := h.le t (List.mem_cons_self ..); omega
      have el : t.length = s.length := by rw [(h.ok t (List.mem_cons_self ..)).2, hn (by simp)]
      refine q_and1 (q_cmp (.val (.lst (sL (t :: r)))) (.fresh []) true (by simp) (by simp) (by simpa using e)) ?_
      refine q_and0 (q_cmp (.val (.int t.length)) (.val (.int s.length)) false ?_ (by simp [biD, hsl]) (by simp [cmpD, eqD, el]))
      simp [subD, L2.atI, L2.ixN, biD, ht]
  · have hl : (ss.map mk).length ≤ 1000 := by rw [List.length_map]; exact h.few
    have e1 : ev G (.lc (.call 16 (.cons (.slot 2) .nil)) (.nm 2) (.seq (.slot 0)) .non) [some (fS ss), some (.fz (.str s)), none] = some (.fresh (nI (ss.map mk))) := by
      rw [nI, List.map_map]
      refine ev_lc_m ss D.str _ (by simp) (by rw [LN]; have := h.few; omega) ?_
      intro t hm
      refine ⟨_, rfl, ?_⟩
      simp [g16, s16 t (h.le t hm)]
    refine q_ret (q_rv _ (q_call [.fz (.lst (nI (ss.map mk))), .fz (.int (mk s))] _ _ ?_ g23 ?_ rfl))
    · rw [evA1, e1, evA1, q_call [.fz (.str s)] _ _ (by simp) g16 (s16 s hs.1) rfl, evA0]
      rfl
    · rw [s23 _ _ hl]
      congr 3
      rw [List.any_map]
      have : ∀ t ∈ ss, ((fun m => decide (m &&& mk s = m)) ∘ mk) t = wi t s := by
        intro t ht
        have el : t.length = s.length := by rw [(h.ok t ht).2, hn (by intro z; rw [z] at ht; cases ht)]
        exact mk_and t s el
      rw [Bool.eq_iff_iff, List.any_eq_true, List.any_eq_true]
      constructor
      · rintro ⟨t, ht, h1⟩; exact ⟨t, ht, by rw [← this t ht]; exact h1⟩
      · rintro ⟨t, ht, h1⟩; exact ⟨t, ht, by rw [this t ht]; exact h1⟩
end Pg
namespace Pg
open Mc PySem Th
theorem q_andB {G : Gm} {env : Mc.Env} {a es} (x y : Bool) (h : ev G a env = some (.val (.bl x))) (h2 : x = true → ev G (.and es) env = some (.val (.bl y))) : ev G (.and (.cons a es)) env = some (.val (.bl (x && y))) := by
  cases x with
  | true => exact (q_and1 h (h2 rfl)).trans (by simp)
  | false => exact q_and0 h
theorem q_orB {G : Gm} {env : Mc.Env} {a es} (x y : Bool) (h : ev G a env = some (.val (.bl x))) (h2 : x = false → ev G (.or es) env = some (.val (.bl y))) : ev G (.or (.cons a es)) env = some (.val (.bl (x || y))) := by
  cases x with
  | false => exact (q_or0 h (h2 rfl)).trans (by simp)
  | true => exact q_or1 h
theorem q_andL {G : Gm} {env : Mc.Env} {a} (x : Bool) (h : ev G a env = some (.val (.bl x))) : ev G (.and (.cons a .nil)) env = some (.val (.bl x)) := by
  cases x with
  | true => exact q_and1 h q_andN
  | false => exact q_and0 h
theorem q_orL {G : Gm} {env : Mc.Env} {a} (x : Bool) (h : ev G a env = some (.val (.bl x))) : ev G (.or (.cons a .nil)) env = some (.val (.bl x)) := by
  cases x with
  | false => exact q_or0 h q_orN
  | true => exact q_or1 h
/-! ### the law's families -/
def lg1 (acc : List (List Nat)) (s : List Nat) : Bool := !(acc.map lmk).contains (lmk s)
def lg2 (kind : Nat) (first : List Nat) (acc : List (List Nat)) (s : List Nat) : Bool := if kind = 1 then lg1 acc s && decide (s.count 120 = first.count 120) else lg1 acc s
def lgood (kind : Nat) (first : List Nat) (acc : List (List Nat)) (s : List Nat) : Bool :=
  if 1 < kind then lg2 kind first acc s && !((acc.map lmk).any fun m => [lmk s, m].contains (lmk s &&& m)) else lg2 kind first acc s
def lfamA (kind : Nat) (first : List Nat) : List (List Nat) → List (List Nat) → List (List Nat)
  | acc, [] => acc
  | acc, s :: r => lfamA kind first (if lgood kind first acc s then acc ++ [s] else acc) r
def lfam (kind : Nat) (ss : List (List Nat)) : List (List Nat) := lfamA kind (ss.headD []) [] ss
def bFa : Ss := (.cons (.asg 5 false (.call 37 (.cons (.slot 4) .nil))) (.cons (.asg 6 false (.cmp .notin (.slot 5) (.slot 3))) (.cons (.ife (.cmp .eq (.slot 1) (.int 1)) (.cons (.asg 6 false (.and (.cons (.slot 6) (.cons (.cmp .eq (.meth .count (.slot 4) (.cons (.str [120]) .nil)) (.meth .count (.sub (.slot 0) (.int 0)) (.cons (.str [120]) .nil))) .nil)))) .nil) .nil) (.cons (.ife (.cmp .gt (.slot 1) (.int 1)) (.cons (.asg 6 false (.and (.cons (.slot 6) (.cons (.not (.bi .any (.cons (.lc (.cmp .isin (.bin .and (.slot 5) (.slot 7)) (.lst (.cons (.slot 5) (.cons (.slot 7) .nil)))) (.nm 7) (.seq (.slot 3)) .non) .nil))) .nil)))) .nil) .nil) (.cons (.ife (.slot 6) (.cons (.app 2 (.slot 4)) (.cons (.app 3 (.slot 5)) .nil)) .nil) .nil)))))
theorem fam_body (G : Gm) (F37) (g37 : G 37 = some F37) (s37 : SLMarks F37) (ss : List (List Nat)) (first : List Nat) (r0) (hss : ss = first :: r0) (kind : Nat) (acc : List (List Nat)) (hacc : acc.length ≤ 1000) (s : List Nat) (hs : s.length ≤ 200) (x5 x6 x7 : Option Sl) :
    ∃ x6' , execs G bFa [some (fS ss), some (.fz (.int kind)), some (.own (sL acc)), some (.own (nI (acc.map lmk))), some (.fz (.str s)), x5, x6, x7]
      = some (.next [some (fS ss), some (.fz (.int kind)), some (.own (sL (if lgood kind first acc s then acc ++ [s] else acc))), some (.own (nI ((if lgood kind first acc s then acc ++ [s] else acc).map lmk))), some (.fz (.str s)), some (.fz (.int (lmk s))), x6', x7]) := by
  refine ⟨some (.fz (.bl (lgood kind first acc s))), ?_⟩
  rw [bFa]
  refine q_next [some (fS ss), some (.fz (.int kind)), some (.own (sL acc)), some (.own (nI (acc.map lmk))), some (.fz (.str s)), some (.fz (.int (lmk s))), x6, x7] (q_asg _ (q_call _ _ _ (by simp) g37 (s37 s hs) rfl) rfl) ?_
  refine q_next [some (fS ss), some (.fz (.int kind)), some (.own (sL acc)), some (.own (nI (acc.map lmk))), some (.fz (.str s)), some (.fz (.int (lmk s))), some (.fz (.bl (lg1 acc s))), x7]
    (q_asg (.val (.bl (lg1 acc s))) (q_cmp (.val (.int (lmk s))) (.vown (nI (acc.map lmk))) _ (by simp) (by simp) (notin_ints _ _)) rfl) ?_
  refine q_next [some (fS ss), some (.fz (.int kind)), some (.own (sL acc)), some (.own (nI (acc.map lmk))), some (.fz (.str s)), some (.fz (.int (lmk s))), some (.fz (.bl (lg2 kind first acc s))), x7] ?_ ?_
  · by_cases hk : kind = 1
    · refine q_then (q_cmp (.val (.int kind)) (.val (.int 1)) true (by simp) (by simp) (by simp [cmpD, eqD, hk])) ?_
      refine q_next _ (q_asg (.val (.bl (lg2 kind first acc s))) ?_ rfl) (execs0 _ _)
      rw [lg2, if_pos hk]
      refine q_andB _ _ (by simp) fun _ => q_andL _ ?_
      refine q_cmp (.val (.int (s.count 120 : Nat))) (.val (.int (first.count 120 : Nat))) _ ?_ ?_ ?_
      · exact q_meth1 (.val (.str s)) (.val (.str [120])) _ (by simp) (by simp) (by simp [mtD])
      · exact q_meth1 (.val (.str first)) (.val (.str [120])) _ (by subst hss; simp [subD, L2.atI, L2.ixN]) (by simp) (by simp [mtD])
      · simp only [Rd1, cmpD, eqD]
        congr 1
        rw [Bool.eq_iff_iff]
        simp
        omega
    · refine q_else (q_cmp (.val (.int kind)) (.val (.int 1)) false (by simp) (by simp) ?_) ?_
      · simp only [Rd1, cmpD, eqD]
        rw [decide_eq_false (by omega)]
      · rw [lg2, if_neg hk]; exact execs0 _ _
  refine q_next [some (fS ss), some (.fz (.int kind)), some (.own (sL acc)), some (.own (nI (acc.map lmk))), some (.fz (.str s)), some (.fz (.int (lmk s))), some (.fz (.bl (lgood kind first acc s))), x7] ?_ ?_
  · by_cases hk : 1 < kind
    · refine q_then (q_cmp (.val (.int kind)) (.val (.int 1)) true (by simp) (by simp) ?_) ?_
      · simp only [Rd1, cmpD]
        rw [decide_eq_true (by omega)]
      · refine q_next _ (q_asg (.val (.bl (lgood kind first acc s))) ?_ rfl) (execs0 _ _)
        rw [lgood, if_pos hk]
        refine q_andB _ _ (by simp) fun _ => q_andL _ (q_not _ ?_)
        refine q_bi1 (.fresh ((acc.map lmk).map fun m => .bl ([lmk s, m].contains (lmk s &&& m)))) _ ?_ ?_
        · refine ev_lc_m (acc.map lmk) (fun (m : Nat) => D.int (m : Int)) _ (by simp) (by rw [LN, List.length_map]; omega) ?_
          intro m hm
          refine ⟨_, rfl, ?_⟩
          have e1 : ∀ env : Mc.Env, env[5]? = some (some (.fz (.int (lmk s)))) → env[7]? = some (some (.fz (.int m))) → ev G (.cmp .isin (.bin .and (.slot 5) (.slot 7)) (.lst (.cons (.slot 5) (.cons (.slot 7) .nil)))) env = some (.val (.bl ([lmk s, m].contains (lmk s &&& m)))) := by
            intro env h5 h7
            have hl : (2 : Nat) ≤ LINE := by rw [LN]; omega
            refine q_cmp (.val (.int (lmk s &&& m : Nat))) (.fresh (nI [lmk s, m])) _ (q_bin (.val (.int (lmk s))) (.val (.int m)) _ (by simp [h5]) (by simp [h7]) (by simp only [Rd1, binD, bitAnd_nat])) (by simp [h5, h7, hl]) (isin_ints _ _)
          by_cases hx : 7 < 8
          · rw [e1 _ (by simp) (by simp [wipeE])]
            rfl
          · omega
        · simp only [Rd2, biD, blsD_map, Option.map_some, any_map]
    · refine q_else (q_cmp (.val (.int kind)) (.val (.int 1)) false (by simp) (by simp) ?_) ?_
      · simp only [Rd1, cmpD]
        rw [decide_eq_false (by omega)]
      · rw [lgood, if_neg hk]; exact execs0 _ _
  have h1 : (sL acc).length < LINE := by rw [LN, List.length_map]; omega
  have h2 : (nI (acc.map lmk)).length < LINE := by rw [LN, List.length_map, List.length_map]; omega
  cases hg : lgood kind first acc s with
  | true =>
    refine q_next _ (q_then (by simp) (q_next _ (q_app (sL acc) (.val (.str s)) _ rfl (by simp) rfl h1) (q_next _ (q_app (nI (acc.map lmk)) (.val (.int (lmk s))) _ rfl (by simp) rfl h2) (execs0 _ _)))) ?_
    rw [execs0]
    simp
  | false =>
    refine q_next _ (q_else (by simp) (execs0 _ _)) ?_
    rw [execs0]
    simp
theorem fam_loop (G : Gm) (F37) (g37 : G 37 = some F37) (s37 : SLMarks F37) (ss : List (List Nat)) (first : List Nat) (r0) (hss : ss = first :: r0) (kind : Nat) : ∀ (l acc : List (List Nat)) (x4 x5 x6 x7 : Option Sl), acc.length + l.length ≤ 1000 → (∀ s ∈ l, s.length ≤ 200) →
    ∃ x4' x5' x6', forLoop (bindT (.nm 4)) (execs G bFa) (sL l) [some (fS ss), some (.fz (.int kind)), some (.own (sL acc)), some (.own (nI (acc.map lmk))), x4, x5, x6, x7]
      = some (.next [some (fS ss), some (.fz (.int kind)), some (.own (sL (lfamA kind first acc l))), some (.own (nI ((lfamA kind first acc l).map lmk))), x4', x5', x6', x7])
  | [], acc, x4, x5, x6, x7, _, _ => ⟨x4, x5, x6, rfl⟩
  | s :: l, acc, x4, x5, x6, x7, hl, hs => by
    simp only [List.length_cons] at hl
    obtain ⟨y6, e⟩ := fam_body G F37 g37 s37 ss first r0 hss kind acc (by omega) s (hs s (List.mem_cons_self ..)) x5 x6 x7
    obtain ⟨x4', x5', x6', ih⟩ := fam_loop G F37 g37 s37 ss first r0 hss kind l (if lgood kind first acc s then acc ++ [s] else acc) (some (.fz (.str s))) (some (.fz (.int (lmk s)))) y6 x7
      (by split
          · simp; omega
          · omega) (fun t ht => hs t (List.mem_cons_of_mem _ ht))
    refine ⟨x4', x5', x6', ?_⟩
    rw [sL, List.map_cons, forLoop, bindT1]
    simp only [setE1, List.set_cons_zero, List.set_cons_succ]
    rw [e]
    simp only []
    rw [lfamA]
    exact ih
def SLFam (F : Fn) : Prop := ∀ (ss : List (List Nat)) (kind : Nat), (∀ s ∈ ss, s.length ≤ 200) → ss.length ≤ 1000 → F [fS ss, .fz (.int kind)] = some (.fresh (sL (lfam kind ss)))
theorem _law_family_ok (G : Gm) (F37) (g37 : G 37 = some F37) (s37 : SLMarks F37) : SLFam (run G 2 8 p__law_family) := by
  intro ss kind hs hl
  refine run_ret [some (fS ss), some (.fz (.int kind)), none, none, none, none, none, none] rfl rfl ?_
  refine q_next [some (fS ss), some (.fz (.int kind)), some (.own []), some (.own []), none, none, none, none] (by simp) ?_
  cases hss : ss with
  | nil =>
    refine q_next [some (fS []), some (.fz (.int kind)), some (.own []), some (.own []), none, none, none, none] (q_for [] (by simp) (by simp) rfl) ?_
    exact q_ret (by simp [lfam, lfamA])
  | cons first r0 =>
    rw [hss] at hs hl
    obtain ⟨x4, x5, x6, e⟩ := fam_loop G F37 g37 s37 (first :: r0) first r0 rfl kind (first :: r0) [] none none none none (by simpa using hl) hs
    refine q_next _ (q_for (sL (first :: r0)) (by simp) (by simp) e) ?_
    refine q_ret ?_
    rw [exec_ret]
    simp [lfam]
/-! what they are -/
theorem lfamA_mem (kind : Nat) (first : List Nat) : ∀ (l acc : List (List Nat)) (s : List Nat), s ∈ lfamA kind first acc l → s ∈ acc ∨ s ∈ l
  | [], acc, s, h => .inl h
  | t :: l, acc, s, h => by
    rw [lfamA] at h
    rcases lfamA_mem kind first l _ s h with h | h
    · split at h
      · rcases List.mem_append.1 h with h | h
        · exact .inl h
        · exact .inr (by simp at h; subst h; exact List.mem_cons_self ..)
      · exact .inl h
    · exact .inr (List.mem_cons_of_mem _ h)
theorem lfam_mem {kind : Nat} {ss : List (List Nat)} {s : List Nat} (h : s ∈ lfam kind ss) : s ∈ ss := by
  rcases lfamA_mem _ _ _ _ _ h with h | h
  · cases h
  · exact h
theorem lfamA_len (kind : Nat) (first : List Nat) : ∀ (l acc : List (List Nat)), (lfamA kind first acc l).length ≤ acc.length + l.length
  | [], acc => by simp [lfamA]
  | t :: l, acc => by
    rw [lfamA]
    have := lfamA_len kind first l (if lgood kind first acc t then acc ++ [t] else acc)
    by_cases h : lgood kind first acc t = true
    · simp only [h, if_true, List.length_append, List.length_cons, List.length_nil] at this ⊢; omega
    · rw [if_neg h] at this ⊢
      simp only [List.length_cons]; omega
theorem lfam_len (kind : Nat) (ss : List (List Nat)) : (lfam kind ss).length ≤ ss.length := by
  have := lfamA_len kind (ss.headD []) ss []
  rw [List.length_nil, Nat.zero_add] at this
  exact this
theorem lg1_of {kind : Nat} {first : List Nat} {acc : List (List Nat)} {s : List Nat} (h : lgood kind first acc s = true) : lg1 acc s = true := by
  unfold lgood lg2 at h
  split at h <;> split at h <;> simp_all
/-- a thing that holds of each new one with those ahead -/
theorem lfamA_pw (kind : Nat) (first : List Nat) (R : List Nat → List Nat → Prop) (P : List Nat → Prop) (hR : ∀ acc s, (∀ a ∈ acc, P a) → P s → lgood kind first acc s = true → ∀ a ∈ acc, R a s) : ∀ (l acc : List (List Nat)), (∀ a ∈ acc, P a) → (∀ a ∈ l, P a) → acc.Pairwise R → (lfamA kind first acc l).Pairwise R
  | [], acc, _, _, h => h
  | s :: l, acc, ha, hl, h => by
    rw [lfamA]
    have hs := hl s (List.mem_cons_self ..)
    split
    · rename_i hg
      refine lfamA_pw kind first R P hR l _ (fun a h => ?_) (fun a h => hl a (List.mem_cons_of_mem _ h)) ?_
      · rcases List.mem_append.1 h with h | h
        · exact ha a h
        · simp at h; subst h; exact hs
      · rw [List.pairwise_append]
        refine ⟨h, List.pairwise_singleton _ _, fun a h1 b h2 => ?_⟩
        simp at h2
        subst h2
        exact hR acc b ha hs hg a h1
    · exact lfamA_pw kind first R P hR l acc ha (fun a h => hl a (List.mem_cons_of_mem _ h)) h
theorem lfam_nodup (kind : Nat) (ss : List (List Nat)) : (lfam kind ss).Nodup := by
  refine lfamA_pw kind _ (· ≠ ·) (fun _ => True) (fun acc s _ _ hg a ha e => ?_) ss [] (by simp) (by simp) .nil
  have := lg1_of hg
  subst e
  unfold lg1 at this
  rw [Bool.not_eq_true', ← Bool.not_eq_true, List.contains_iff_mem] at this
  exact this (List.mem_map_of_mem ha)
def AntiS (ss : List (List Nat)) : Prop := ss.Pairwise fun a b => wi a b = false ∧ wi b a = false
theorem lfam_anti (kind : Nat) (hk : 1 < kind) (n : Nat) (ss : List (List Nat)) (h : ∀ s ∈ ss, s.length = n) : AntiS (lfam kind ss) := by
  refine lfamA_pw kind _ (fun a b => wi a b = false ∧ wi b a = false) (fun s => s.length = n) (fun acc s h1 h2 hg a ha => ?_) ss [] (by simp) h .nil
  unfold lgood at hg
  rw [if_pos hk, Bool.and_eq_true, Bool.not_eq_true', ← Bool.not_eq_true, List.any_eq_true] at hg
  have hn : ¬ ([lmk s, lmk a].contains (lmk s &&& lmk a) = true) := fun z => hg.2 ⟨lmk a, List.mem_map_of_mem ha, z⟩
  rw [List.contains_iff_mem] at hn
  simp only [List.mem_cons, List.not_mem_nil, or_false, not_or] at hn
  have e1 := lmk_and s a (by rw [h2, h1 a ha])
  have e2 := lmk_and a s (by rw [h2, h1 a ha])
  rw [← Bool.not_eq_true, ← Bool.not_eq_true, ← e1, ← e2]
  refine ⟨fun z => hn.2 ?_, hn.1⟩
  rw [Nat.and_comm]; exact z
theorem lfam_one (ss : List (List Nat)) : ∀ s ∈ lfam 1 ss, s.count 120 = (ss.headD []).count 120 := by
  have : ∀ (first : List Nat) (l acc : List (List Nat)), (∀ s ∈ acc, s.count 120 = first.count 120) → ∀ s ∈ lfamA 1 first acc l, s.count 120 = first.count 120 := by
    intro first l
    induction l with
    | nil => intro acc h; exact h
    | cons t l ih =>
      intro acc h
      rw [lfamA]
      refine ih _ ?_
      split
      · rename_i hg
        intro s hs
        rcases List.mem_append.1 hs with hs | hs
        · exact h s hs
        · simp at hs
          subst hs
          unfold lgood lg2 at hg
          simp at hg
          exact hg.2
      · exact h
  exact this _ ss [] (by simp)
theorem fw_anti (n : Nat) (ss : List (List Nat)) (h : ∀ s ∈ ss, s.length = n) (ha : AntiS ss) : fw (ss.map mk) = none := by
  rw [fw_none]
  intro i j a b h1 h2 hne e
  rw [List.getElem?_map] at h1 h2
  obtain ⟨s, hs, rfl⟩ := Option.map_eq_some_iff.1 h1
  obtain ⟨t, ht, rfl⟩ := Option.map_eq_some_iff.1 h2
  have hl : s.length = t.length := by rw [h s (List.mem_of_getElem? hs), h t (List.mem_of_getElem? ht)]
  have hst : wi s t = true := by rw [← mk_and s t hl]; exact decide_eq_true e
  obtain ⟨hi, rfl⟩ := List.getElem?_eq_some_iff.1 hs
  obtain ⟨hj, rfl⟩ := List.getElem?_eq_some_iff.1 ht
  rcases Nat.lt_or_gt_of_ne hne with hlt | hlt
  · have := (List.pairwise_iff_getElem.1 ha i j hi hj hlt).1
    rw [hst] at this; cases this
  · have := (List.pairwise_iff_getElem.1 ha j i hj hi hlt).2
    rw [hst] at this; cases this
theorem stepL_sub {α : Type} (k : Nat) : ∀ (n : Nat) (l : List α), (stepL k n l).Sublist l
  | 0, l => by simp [stepL]
  | n + 1, [] => by simp [stepL]
  | n + 1, x :: r => by
    rw [stepL]
    exact ((stepL_sub k n (r.drop (k - 1))).trans (List.drop_sublist _ _)).cons_cons x
theorem stepL_map {α β : Type} (f : α → β) (k : Nat) : ∀ (n : Nat) (l : List α), stepL k n (l.map f) = (stepL k n l).map f
  | 0, l => by simp [stepL]
  | n + 1, [] => by simp [stepL]
  | n + 1, x :: r => by
    rw [List.map_cons, stepL, stepL, List.map_cons, ← List.map_drop, stepL_map f k n]
theorem FamOk.sub {n : Nat} {ss tt : List (List Nat)} (h : FamOk n ss) (hs : tt.Sublist ss) : FamOk n tt :=
  ⟨fun s hm => h.ok s (hs.subset hm), h.n, hs.nodup h.nd, Nat.le_trans hs.length_le h.few⟩
theorem FamOk.lfam {n : Nat} {ss : List (List Nat)} (kind : Nat) (hn : n ≤ 200) (h : ∀ s ∈ ss, Ch s ∧ s.length = n) (hl : ss.length ≤ 1000) : FamOk n (lfam kind ss) :=
  ⟨fun s hm => h s (lfam_mem hm), hn, lfam_nodup kind ss, Nat.le_trans (lfam_len kind ss) hl⟩
end Pg
namespace Pg
open Mc PySem Th
abbrev fI (ns : List Int) : Sl := .fz (.lst (ns.map D.int))
structure ScrOk (ns : List Int) : Prop where
  few : ns.length ≤ 63
  bt : ∀ z ∈ ns, bits z ≤ 1048576
def SLength (F : Fn) : Prop := ∀ ns : List Int, ∃ n : Nat, n ≤ 200 ∧ F [fI ns] = some (.val (.int n))
theorem _law_length_ok (G : Gm) : SLength (run G 1 5 p__law_length) := fun ns => length_ok G ns
structure SetsOk (n : Nat) (ns : List Int) (ss : List (List Nat)) : Prop where
  ok : ∀ s ∈ ss, Ch s ∧ s.length = n
  hn : n ≤ 200
  le : ss.length ≤ ns.length
  few : ss.length ≤ 63
  bt : ss.length * (n + 1) ≤ 3780
def SSets (F : Fn) : Prop := ∀ (n : Nat) (ns : List Int), n ≤ 200 → ScrOk ns → ∃ ss, SetsOk n ns ss ∧ F [fI ns, .fz (.int n)] = some (.fresh (sL ss))
theorem _law_sets_ok (G : Gm) : SSets (run G 2 8 p__law_sets) := by
  intro n ns hn ⟨hl, hb⟩
  have key : ∃ l : List Int, (∀ z ∈ l, z ∈ ns) ∧ l.length ≤ ns.length ∧ l.length * (n + 1) ≤ 3780 ∧ ∀ env : Mc.Env, env[0]? = some (some (.fz (.lst (ns.map D.int)))) → env[1]? = some (some (.fz (.int n))) →
      ev G (.ite (.cmp .lt (.slot 1) (.int 60)) (.slice (.slot 0) .non (.one (.int 63))) (.slice (.slot 0) .non (.one (.int 4)))) env = some (.fresh (l.map D.int)) := by
    by_cases hc : (n : Int) < 60
    · refine ⟨ns.take (min 63 ns.length), fun z hz => List.mem_of_mem_take hz, by simp; omega, ?_, fun env h0 h1 => ?_⟩
      · have : (ns.take (min 63 ns.length)).length ≤ 63 := by simp; omega
        exact Nat.le_trans (Nat.mul_le_mul this (show n + 1 ≤ 60 by omega)) (by decide)
      · simp [h0, h1, cmpD, hc, cutL, HT.sIx]
    · refine ⟨ns.take (min 4 ns.length), fun z hz => List.mem_of_mem_take hz, by simp; omega, ?_, fun env h0 h1 => ?_⟩
      · have : (ns.take (min 4 ns.length)).length ≤ 4 := by simp; omega
        exact Nat.le_trans (Nat.mul_le_mul this (show n + 1 ≤ 201 by omega)) (by decide)
      · simp [h0, h1, cmpD, hc, cutL, HT.sIx]
  obtain ⟨l, k1, k2, k4, k3⟩ := key
  obtain ⟨ss, u3', u4', x', y', g1, g2, g3⟩ := sets_loop G n hn (some (.fz (.lst (ns.map D.int)))) l 0 [] none none none none none (fun z hz => hb z (k1 z hz)) (by omega) (by simp)
  refine ⟨ss, ⟨g1, hn, by omega, by omega, by rw [g2]; exact k4⟩, ?_⟩
  refine run_ret [some (.fz (.lst (ns.map D.int))), some (.fz (.int n)), none, none, none, none, none, none] rfl rfl ?_
  refine q_next [some (.fz (.lst (ns.map D.int))), some (.fz (.int n)), some (.own []), none, none, none, none, none] (by simp) ?_
  refine q_next _ (q_for _ ?_ ?_ g3) ?_
  · rw [srcFix2, k3 _ rfl rfl]
  · rw [evS_enum, k3 _ rfl rfl]; rfl
  refine q_ret ?_
  simp
theorem SetsOk.fam {n : Nat} {ns : List Int} {ss : List (List Nat)} (h : SetsOk n ns ss) (kind : Nat) : FamOk n (lfam kind ss) := FamOk.lfam kind h.hn h.ok (by have := h.few; omega)
end Pg
namespace Pg
open Mc PySem Th
/-! ### fractions in lowest terms -/
def low (a b : Nat) : Nat × Nat := (a / Nat.gcd a b, b / Nat.gcd a b)
theorem env_get {env : Mc.Env} {i : Nat} {v : Option Sl} (h : i < env.length) : (env.set i v)[i]? = some v := List.getElem?_set_self h
theorem env_ne {env : Mc.Env} {i j : Nat} {v : Option Sl} (h : i ≠ j) : (env.set i v)[j]? = env[j]? := List.getElem?_set_ne h
/-- the loop of Euclid -/
theorem gcd_loop (G : Gm) (i j : Nat) (hij : i ≠ j) : ∀ (b a fuel : Nat) (env : Mc.Env), b < fuel → i < env.length → j < env.length → env[i]? = some (some (.fz (.int a))) → env[j]? = some (some (.fz (.int b))) →
    whileLoop (ev G (.cmp .gt (.slot j) (.int 0))) (execs G (.cons (.par [i, j] [false, false] (.cons (.slot j) (.cons (.bin .mod (.slot i) (.slot j)) .nil))) .nil)) fuel env
      = some (.next ((env.set i (some (.fz (.int (Nat.gcd a b))))).set j (some (.fz (.int (0 : Nat)))))) := by
  intro b
  induction b using Nat.strongRecOn with
  | _ b ih =>
    intro a fuel env hf hi hj h1 h2
    obtain ⟨m, rfl⟩ : ∃ m, fuel = m + 1 := ⟨fuel - 1, by omega⟩
    rw [whileLoop]
    by_cases hb : b = 0
    · subst hb
      have ec : ev G (.cmp .gt (.slot j) (.int 0)) env = some (.val (.bl false)) := q_cmp (.val (.int (0 : Nat))) (.val (.int 0)) false (by simp [h2]) (by simp) (by simp [cmpD])
      rw [ec]
      simp only []
      congr 2
      apply List.ext_getElem?
      intro k
      by_cases k2 : j = k
      · subst k2; rw [env_get (by rw [List.length_set]; exact hj), h2]
      · rw [env_ne k2]
        by_cases k1 : i = k
        · subst k1; rw [env_get hi, h1, Nat.gcd_zero_right]
        · rw [env_ne k1]
    · have ec : ev G (.cmp .gt (.slot j) (.int 0)) env = some (.val (.bl true)) := by
        refine q_cmp (.val (.int (b : Nat))) (.val (.int 0)) true (by simp [h2]) (by simp) ?_
        simp only [Rd1, cmpD]
        rw [decide_eq_true (by omega)]
      rw [ec]
      simp only []
      have eb : execs G (.cons (.par [i, j] [false, false] (.cons (.slot j) (.cons (.bin .mod (.slot i) (.slot j)) .nil))) .nil) env = some (.next ((env.set i (some (.fz (.int b)))).set j (some (.fz (.int (a % b : Nat)))))) := by
        refine q_next _ ?_ (execs0 _ _)
        have em : ev G (.bin .mod (.slot i) (.slot j)) env = some (.val (.int (a % b : Nat))) := by
          refine q_bin (.val (.int a)) (.val (.int b)) _ (by simp [h1]) (by simp [h2]) ?_
          rw [Rd1, Rd1, md _ _ (by omega)]
          norm_cast
        rw [exec_par, evM1, evM1, em, evM0]
        simp [h2]
      rw [eb]
      simp only []
      have hlt : a % b < b := Nat.mod_lt _ (by omega)
      rw [ih (a % b) hlt b m _ (by omega) (by simpa using hi) (by simpa using hj) (by rw [env_ne (Ne.symm hij), env_get hi]) (by rw [env_get (by simpa using hj)])]
      congr 2
      rw [Nat.gcd_comm b (a % b), ← Nat.gcd_rec, Nat.gcd_comm b a]
      apply List.ext_getElem?
      intro k
      by_cases k2 : j = k
      · subst k2; rw [env_get (by simpa using hj), env_get (by simpa using hj)]
      · rw [env_ne k2, env_ne k2]
        by_cases k1 : i = k
        · subst k1; rw [env_get (by simpa using hi), env_get hi]
        · rw [env_ne k1, env_ne k1, env_ne k2, env_ne k1]
theorem log_lt {g e : Nat} (h0 : 0 < g) (h : g < 2 ^ e) (he : e ≤ 9000) : g.log2 < 9000 := by
  have := (Nat.log2_lt (by omega)).2 h
  omega
theorem fdiv_gcd (a b e : Nat) (c : Nat) (h0 : 0 < b) (h : b < 2 ^ e) (he : e ≤ 9000) : binD .fdiv (.int c) (.int (Nat.gcd a b)) = some (.val (.int (c / Nat.gcd a b : Nat))) := by
  have hg : 0 < Nat.gcd a b := Nat.gcd_pos_of_pos_right _ h0
  have hle : Nat.gcd a b ≤ b := Nat.gcd_le_right _ h0
  rw [fd _ _ (by omega) (by rw [Int.natAbs_natCast]; exact log_lt hg (Nat.lt_of_le_of_lt hle h) he)]
  norm_cast
def SLowest (F : Fn) : Prop := ∀ a b e : Nat, 0 < b → b < 2 ^ e → e ≤ 9000 → F [.fz (.int a), .fz (.int b)] = some (.val (.tup [.int (low a b).1, .int (low a b).2]))
theorem fuel_ok {b e : Nat} (h : b < 2 ^ e) (he : e ≤ 9000) : b < 2 ^ 10000 := Nat.lt_of_lt_of_le h (Nat.pow_le_pow_right (by decide) (by omega))
theorem lowest_ok (G : Gm) : SLowest (run G 2 4 p_lowest) := by
  intro a b e h0 h he
  have hl2 : (2 : Nat) ≤ LINE := by rw [LN]; omega
  refine run_ret [some (.fz (.int a)), some (.fz (.int b)), none, none] rfl rfl ?_
  refine q_next [some (.fz (.int a)), some (.fz (.int b)), some (.fz (.int a)), some (.fz (.int b))] (by simp) ?_
  refine q_next [some (.fz (.int a)), some (.fz (.int b)), some (.fz (.int (Nat.gcd a b))), some (.fz (.int (0 : Nat)))] ?_ ?_
  · rw [exec_while, gcd_loop G 2 3 (by decide) b a _ _ (fuel_ok h he) (by simp) (by simp) rfl rfl]
    rfl
  · refine q_ret (q_rv _ ?_)
    have e1 := fdiv_gcd a b e a h0 h he
    have e2 := fdiv_gcd a b e b h0 h he
    rw [ev_tup, evV1, q_bin (.val (.int a)) (.val (.int (Nat.gcd a b))) _ (by simp) (by simp) e1, evV1, q_bin (.val (.int b)) (.val (.int (Nat.gcd a b))) _ (by simp) (by simp) e2, evV0]
    simp [hl2, low]
/-! ### the shares -/
def shrA : Nat × Nat → List (List Nat) → Nat × Nat
  | p, [] => p
  | p, s :: r => shrA (low (p.1 * C s.length (s.count 120) + p.2) (p.2 * C s.length (s.count 120))) r
def shr (ss : List (List Nat)) : Nat × Nat := shrA (0, 1) ss
theorem low_pos {a b : Nat} (h : 0 < b) : 0 < (low a b).2 := Nat.div_pos (Nat.gcd_le_right _ h) (Nat.gcd_pos_of_pos_right _ h)
theorem low_le (a b : Nat) : (low a b).1 ≤ a ∧ (low a b).2 ≤ b := ⟨Nat.div_le_self _ _, Nat.div_le_self _ _⟩
theorem C_len_pos (s : List Nat) : 0 < C s.length (s.count 120) := C_pos _ _ List.count_le_length
theorem step_bits {a b c n e : Nat} (ha : a < 2 ^ e) (hb : b < 2 ^ e) (hc : c ≤ 2 ^ n) : a * c + b < 2 ^ (e + (n + 1)) ∧ b * c < 2 ^ (e + (n + 1)) := by
  have p1 : 2 ^ (e + (n + 1)) = 2 ^ e * 2 ^ n * 2 := by rw [Nat.pow_add, Nat.pow_succ, Nat.mul_assoc]
  have p2 : 0 < 2 ^ n := Nat.two_pow_pos n
  have q1 : a * c ≤ (2 ^ e - 1) * 2 ^ n := Nat.mul_le_mul (by omega) hc
  have q2 : b * c ≤ (2 ^ e - 1) * 2 ^ n := Nat.mul_le_mul (by omega) hc
  have q3 : (2 ^ e - 1) * 2 ^ n + 2 ^ n = 2 ^ e * 2 ^ n := by
    have : 2 ^ e = (2 ^ e - 1) + 1 := by omega
    rw [this, Nat.add_mul, Nat.one_mul, Nat.add_sub_cancel]
  have q4 : 2 ^ e ≤ 2 ^ e * 2 ^ n := Nat.le_mul_of_pos_right _ p2
  rw [p1]
  constructor <;> omega
def bSh : Ss := (.cons (.asg 4 false (.call 11 (.cons (.bi .len (.cons (.slot 3) .nil)) (.cons (.meth .count (.slot 3) (.cons (.str [120]) .nil)) .nil)))) (.cons (.unp [1, 2] (.call 27 (.cons (.bin .add (.bin .mul (.slot 1) (.slot 4)) (.slot 2)) (.cons (.bin .mul (.slot 2) (.slot 4)) .nil)))) .nil))
theorem ev_cnt (G : Gm) (env : Mc.Env) (F : Fn) (f : Nat) (g : G f = some F) (sF : SPicks F) (s : List Nat) (hs : s.length ≤ 200) (h3 : env[3]? = some (some (.fz (.str s)))) :
    ev G (.call f (.cons (.bi .len (.cons (.slot 3) .nil)) (.cons (.meth .count (.slot 3) (.cons (.str [120]) .nil)) .nil))) env = some (.val (.int (C s.length (s.count 120)))) := by
  have hl : s.length ≤ LINE := by rw [LN]; omega
  refine q_call [.fz (.int (s.length : Nat)), .fz (.int (s.count 120 : Nat))] _ _ ?_ g (sF _ _ hs List.count_le_length) rfl
  rw [evA1, q_bi1 (.val (.str s)) (.val (.int s.length)) (by simp [h3]) (by simp [biD, hl]), evA1, q_meth1 (.val (.str s)) (.val (.str [120])) (.val (.int (s.count 120 : Nat))) (by simp [h3]) (by simp) (by simp [mtD]), evA0]
  rfl
theorem ev_lin (G : Gm) (env : Mc.Env) (a b c e : Nat) (ha : a < 2 ^ e) (hb : b < 2 ^ e) (hc : c < 2 ^ 201) (he : e ≤ 9000) (h1 : env[1]? = some (some (.fz (.int a)))) (h2 : env[2]? = some (some (.fz (.int b)))) (h4 : env[4]? = some (some (.fz (.int c)))) :
    ev G (.bin .add (.bin .mul (.slot 1) (.slot 4)) (.slot 2)) env = some (.val (.int (a * c + b : Nat))) ∧ ev G (.bin .mul (.slot 2) (.slot 4)) env = some (.val (.int (b * c : Nat))) := by
  have b1 := bits_nat a e ha
  have b2 := bits_nat b e hb
  have b3 := bits_nat c 201 hc
  constructor
  · refine q_bin (.val (.int ((a : Int) * c))) (.val (.int b)) _ (q_bin (.val (.int a)) (.val (.int c)) _ (by simp [h1]) (by simp [h4]) (ml _ _ (by omega))) (by simp [h2]) ?_
    simp [binD]
  · refine q_bin (.val (.int b)) (.val (.int c)) _ (by simp [h2]) (by simp [h4]) ?_
    rw [Rd1, Rd1, ml _ _ (by omega)]
    simp
theorem sh_loop (G : Gm) (F11 F27) (g11 : G 11 = some F11) (g27 : G 27 = some F27) (s11 : SPicks F11) (s27 : SLowest F27) (A : Option Sl) (n : Nat) (hn : n ≤ 200) : ∀ (l : List (List Nat)) (a b e : Nat) (x3 x4 : Option Sl), (∀ s ∈ l, s.length = n) → 0 < b → a < 2 ^ e → b < 2 ^ e → e + l.length * (n + 1) ≤ 9000 →
    ∃ x3' x4', forLoop (bindT (.nm 3)) (execs G bSh) (sL l) [A, some (.fz (.int a)), some (.fz (.int b)), x3, x4] = some (.next [A, some (.fz (.int (shrA (a, b) l).1)), some (.fz (.int (shrA (a, b) l).2)), x3', x4'])
  | [], a, b, e, x3, x4, _, _, _, _, _ => ⟨x3, x4, rfl⟩
  | s :: l, a, b, e, x3, x4, hs, h0, ha, hb, he => by
    simp only [List.length_cons, Nat.add_mul, Nat.one_mul] at he
    have hsn := hs s (List.mem_cons_self ..)
    have hc : C s.length (s.count 120) ≤ 2 ^ n := by rw [hsn]; exact C_pow _ _
    have hcp := C_len_pos s
    have ec := fun env h3 => ev_cnt G env F11 11 g11 s11 s (by omega) h3
    rw [shrA.eq_def]
    simp only []
    generalize C s.length (s.count 120) = c at hc hcp ec
    obtain ⟨k1, k2⟩ := step_bits ha hb hc
    have hc2 : c < 2 ^ 201 := Nat.lt_of_le_of_lt hc (Nat.pow_lt_pow_right (by omega) (by omega))
    have h0' : 0 < b * c := Nat.mul_pos h0 hcp
    have e27 := s27 (a * c + b) (b * c) (e + (n + 1)) h0' k2 (by omega)
    obtain ⟨l1, l2⟩ := low_le (a * c + b) (b * c)
    have l3 := low_pos (a := a * c + b) h0'
    obtain ⟨x3', x4', ih⟩ := sh_loop G F11 F27 g11 g27 s11 s27 A n hn l (low (a * c + b) (b * c)).1 (low (a * c + b) (b * c)).2 (e + (n + 1)) (some (.fz (.str s))) (some (.fz (.int c))) (fun t ht => hs t (List.mem_cons_of_mem _ ht)) l3 (by omega) (by omega) (by omega)
    refine ⟨x3', x4', ?_⟩
    rw [sL, List.map_cons, forLoop, bindT1]
    simp only [setE1, List.set_cons_zero, List.set_cons_succ]
    have eb : execs G bSh [A, some (.fz (.int a)), some (.fz (.int b)), some (.fz (.str s)), x4] = some (.next [A, some (.fz (.int (low (a * c + b) (b * c)).1)), some (.fz (.int (low (a * c + b) (b * c)).2)), some (.fz (.str s)), some (.fz (.int c))]) := by
      rw [bSh]
      refine q_next [A, some (.fz (.int a)), some (.fz (.int b)), some (.fz (.str s)), some (.fz (.int c))] (q_asg _ (ec _ rfl) rfl) ?_
      obtain ⟨v1, v2⟩ := ev_lin G [A, some (.fz (.int a)), some (.fz (.int b)), some (.fz (.str s)), some (.fz (.int c))] a b c e ha hb hc2 (by omega) rfl rfl rfl
      refine q_next _ (q_unp [.int (low (a * c + b) (b * c)).1, .int (low (a * c + b) (b * c)).2] (q_call [.fz (.int (a * c + b : Nat)), .fz (.int (b * c : Nat))] _ _ ?_ g27 e27 rfl) rfl) (execs0 _ _)
      rw [evA1, v1, evA1, v2, evA0]
      rfl
    rw [eb]
    simp only []
    exact ih
/-- families whose shares are not too great -/
structure ShOk (n : Nat) (ss : List (List Nat)) : Prop where
  len : ∀ s ∈ ss, s.length = n
  hn : n ≤ 200
  bt : ss.length * (n + 1) ≤ 8000
def dSh (p : Nat × Nat) : D := .tup [.int p.1, .int p.2]
def SShare (F : Fn) : Prop := ∀ (n : Nat) (ss : List (List Nat)), ShOk n ss → F [fS ss] = some (.val (dSh (shr ss)))
theorem share_of_ok (G : Gm) (F11 F27) (g11 : G 11 = some F11) (g27 : G 27 = some F27) (s11 : SPicks F11) (s27 : SLowest F27) : SShare (run G 1 5 p_share_of) := by
  intro n ss h
  have hl2 : (2 : Nat) ≤ LINE := by rw [LN]; omega
  refine run_ret [some (fS ss), none, none, none, none] rfl rfl ?_
  refine q_next [some (fS ss), some (.fz (.int (0 : Nat))), some (.fz (.int (1 : Nat))), none, none] (by simp [hl2]) ?_
  obtain ⟨x3, x4, e⟩ := sh_loop G F11 F27 g11 g27 s11 s27 (some (fS ss)) n h.hn ss 0 1 1 none none h.len (by decide) (by decide) (by decide) (by have := h.bt; omega)
  refine q_next _ (q_for _ (by simp) (by simp) e) ?_
  exact q_ret (q_rv _ (by simp [hl2, dSh, shr]))
def bLs : Ss := (.cons (.asg 4 false (.call 32 (.cons (.bi .len (.cons (.slot 3) .nil)) (.cons (.meth .count (.slot 3) (.cons (.str [120]) .nil)) .nil)))) (.cons (.par [1, 2] [false, false] (.cons (.bin .add (.bin .mul (.slot 1) (.slot 4)) (.slot 2)) (.cons (.bin .mul (.slot 2) (.slot 4)) .nil))) (.cons (.par [5, 6] [false, false] (.cons (.slot 1) (.cons (.slot 2) .nil))) (.cons (.while (2 ^ 10000) (.cmp .gt (.slot 6) (.int 0)) (.cons (.par [5, 6] [false, false] (.cons (.slot 6) (.cons (.bin .mod (.slot 5) (.slot 6)) .nil))) .nil)) (.cons (.par [1, 2] [false, false] (.cons (.bin .fdiv (.slot 1) (.slot 5)) (.cons (.bin .fdiv (.slot 2) (.slot 5)) .nil))) .nil)))))
theorem ls_loop (G : Gm) (F32) (g32 : G 32 = some F32) (s32 : SPicksL F32) (A : Option Sl) (n : Nat) (hn : n ≤ 200) : ∀ (l : List (List Nat)) (a b e : Nat) (x3 x4 x5 x6 : Option Sl), (∀ s ∈ l, s.length = n) → 0 < b → a < 2 ^ e → b < 2 ^ e → e + l.length * (n + 1) ≤ 9000 →
    ∃ x3' x4' x5' x6', forLoop (bindT (.nm 3)) (execs G bLs) (sL l) [A, some (.fz (.int a)), some (.fz (.int b)), x3, x4, x5, x6] = some (.next [A, some (.fz (.int (shrA (a, b) l).1)), some (.fz (.int (shrA (a, b) l).2)), x3', x4', x5', x6'])
  | [], a, b, e, x3, x4, x5, x6, _, _, _, _, _ => ⟨x3, x4, x5, x6, rfl⟩
  | s :: l, a, b, e, x3, x4, x5, x6, hs, h0, ha, hb, he => by
    simp only [List.length_cons, Nat.add_mul, Nat.one_mul] at he
    have hsn := hs s (List.mem_cons_self ..)
    have hc : C s.length (s.count 120) ≤ 2 ^ n := by rw [hsn]; exact C_pow _ _
    have hcp := C_len_pos s
    have ec := fun env h3 => ev_cnt G env F32 32 g32 s32 s (by omega) h3
    rw [shrA.eq_def]
    simp only []
    generalize C s.length (s.count 120) = c at hc hcp ec
    obtain ⟨k1, k2⟩ := step_bits ha hb hc
    have hc2 : c < 2 ^ 201 := Nat.lt_of_le_of_lt hc (Nat.pow_lt_pow_right (by omega) (by omega))
    have h0' : 0 < b * c := Nat.mul_pos h0 hcp
    have he2 : e + (n + 1) ≤ 9000 := by omega
    have f1 := fdiv_gcd (a * c + b) (b * c) (e + (n + 1)) (a * c + b) h0' k2 he2
    have f2 := fdiv_gcd (a * c + b) (b * c) (e + (n + 1)) (b * c) h0' k2 he2
    obtain ⟨l1, l2⟩ := low_le (a * c + b) (b * c)
    have l3 := low_pos (a := a * c + b) h0'
    have eb : execs G bLs [A, some (.fz (.int a)), some (.fz (.int b)), some (.fz (.str s)), x4, x5, x6] = some (.next [A, some (.fz (.int (low (a * c + b) (b * c)).1)), some (.fz (.int (low (a * c + b) (b * c)).2)), some (.fz (.str s)), some (.fz (.int c)), some (.fz (.int (Nat.gcd (a * c + b) (b * c)))), some (.fz (.int (0 : Nat)))]) := by
      rw [bLs]
      refine q_next [A, some (.fz (.int a)), some (.fz (.int b)), some (.fz (.str s)), some (.fz (.int c)), x5, x6] (q_asg _ (ec _ rfl) rfl) ?_
      obtain ⟨v1, v2⟩ := ev_lin G [A, some (.fz (.int a)), some (.fz (.int b)), some (.fz (.str s)), some (.fz (.int c)), x5, x6] a b c e ha hb hc2 (by omega) rfl rfl rfl
      refine q_next [A, some (.fz (.int (a * c + b : Nat))), some (.fz (.int (b * c : Nat))), some (.fz (.str s)), some (.fz (.int c)), x5, x6] (by rw [exec_par, evM1, v1, evM1, v2, evM0]; rfl) ?_
      generalize a * c + b = a' at *
      generalize b * c = b' at *
      refine q_next [A, some (.fz (.int a')), some (.fz (.int b')), some (.fz (.str s)), some (.fz (.int c)), some (.fz (.int a')), some (.fz (.int b'))] (by simp) ?_
      refine q_next [A, some (.fz (.int a')), some (.fz (.int b')), some (.fz (.str s)), some (.fz (.int c)), some (.fz (.int (Nat.gcd a' b'))), some (.fz (.int (0 : Nat)))] ?_ ?_
      · rw [exec_while, gcd_loop G 5 6 (by decide) b' a' _ _ (fuel_ok k2 he2) (by simp) (by simp) rfl rfl]
        rfl
      · refine q_next _ ?_ (execs0 _ _)
        rw [exec_par, evM1, q_bin (.val (.int a')) (.val (.int (Nat.gcd a' b'))) _ (by simp) (by simp) f1, evM1, q_bin (.val (.int b')) (.val (.int (Nat.gcd a' b'))) _ (by simp) (by simp) f2, evM0]
        rfl
    obtain ⟨x3', x4', x5', x6', ih⟩ := ls_loop G F32 g32 s32 A n hn l (low (a * c + b) (b * c)).1 (low (a * c + b) (b * c)).2 (e + (n + 1)) (some (.fz (.str s))) (some (.fz (.int c))) (some (.fz (.int (Nat.gcd (a * c + b) (b * c))))) (some (.fz (.int (0 : Nat)))) (fun t ht => hs t (List.mem_cons_of_mem _ ht)) l3 (by omega) (by omega) (by omega)
    refine ⟨x3', x4', x5', x6', ?_⟩
    rw [sL, List.map_cons, forLoop, bindT1]
    simp only [setE1, List.set_cons_zero, List.set_cons_succ]
    rw [eb]
    simp only []
    exact ih
def SLShare (F : Fn) : Prop := SShare F
theorem _law_share_ok (G : Gm) (F32) (g32 : G 32 = some F32) (s32 : SPicksL F32) : SLShare (run G 1 7 p__law_share) := by
  intro n ss h
  have hl2 : (2 : Nat) ≤ LINE := by rw [LN]; omega
  refine run_ret [some (fS ss), none, none, none, none, none, none] rfl rfl ?_
  refine q_next [some (fS ss), some (.fz (.int (0 : Nat))), some (.fz (.int (1 : Nat))), none, none, none, none] (by simp [hl2]) ?_
  obtain ⟨x3, x4, x5, x6, e⟩ := ls_loop G F32 g32 s32 (some (fS ss)) n h.hn ss 0 1 1 none none none none h.len (by decide) (by decide) (by decide) (by have := h.bt; omega)
  refine q_next _ (q_for _ (by simp) (by simp) e) ?_
  exact q_ret (q_rv _ (by simp [hl2, dSh, shr]))
end Pg
namespace Pg
open Mc PySem Th
/-! ### whether none is within another -/
def noneW (ss : List (List Nat)) : Bool := (fw (ss.map mk)).isNone
theorem noneW_iff {n : Nat} {ss : List (List Nat)} (h : ∀ s ∈ ss, s.length = n) : noneW ss = true ↔ ∀ (i j : Nat) (s t : List Nat), ss[i]? = some s → ss[j]? = some t → i ≠ j → wi s t = false := by
  unfold noneW
  rw [Option.isNone_iff_eq_none, fw_none]
  have key : ∀ (i j : Nat) (s t : List Nat), ss[i]? = some s → ss[j]? = some t → (wi s t = false ↔ ¬ (mk s &&& mk t = mk s)) := by
    intro i j s t h1 h2
    rw [← mk_and s t (by rw [h s (List.mem_of_getElem? h1), h t (List.mem_of_getElem? h2)])]
    simp
  constructor
  · intro g i j s t h1 h2 hne
    exact (key i j s t h1 h2).2 (g i j (mk s) (mk t) (by rw [List.getElem?_map, h1]; rfl) (by rw [List.getElem?_map, h2]; rfl) hne)
  · intro g i j a b h1 h2 hne
    rw [List.getElem?_map] at h1 h2
    obtain ⟨s, hs, rfl⟩ := Option.map_eq_some_iff.1 h1
    obtain ⟨t, ht, rfl⟩ := Option.map_eq_some_iff.1 h2
    exact (key i j s t hs ht).1 (g i j s t hs ht hne)
def SNone (F : Fn) : Prop := ∀ (n : Nat) (ss : List (List Nat)), (∀ s ∈ ss, s.length = n) → n ≤ 200 → ss.length ≤ 1000 → F [fS ss] = some (.val (.bl (noneW ss)))
def bNw : Ss := (.cons (.ife (.bi .any (.cons (.lc (.cmp .eq (.bin .and (.slot 4) (.sub (.slot 1) (.slot 5))) (.slot 4)) (.nm 5) (.rng1 (.bi .len (.cons (.slot 1) .nil))) (.one (.cmp .ne (.slot 5) (.slot 3)))) .nil)) (.cons (.ret (.bl false)) .nil) .nil) .nil)
/-- whether the mark at i is within another one -/
def hit (ms : List Nat) (i m : Nat) : Bool := ((List.range ms.length).filter fun k => decide (k ≠ i)).any fun k => decide (m &&& ms.getD k 0 = m)
theorem nw_body (G : Gm) (A x2 x5 : Option Sl) (ms : List Nat) (hm : ms.length ≤ 1000) (i m : Nat) : execs G bNw [A, some (.fz (.lst (nI ms))), x2, some (.fz (.int i)), some (.fz (.int m)), x5]
    = if hit ms i m then some (.ret (.val (.bl false))) else some (.next [A, some (.fz (.lst (nI ms))), x2, some (.fz (.int i)), some (.fz (.int m)), x5]) := by
  have e1 : ev G (.bi .any (.cons (.lc (.cmp .eq (.bin .and (.slot 4) (.sub (.slot 1) (.slot 5))) (.slot 4)) (.nm 5) (.rng1 (.bi .len (.cons (.slot 1) .nil))) (.one (.cmp .ne (.slot 5) (.slot 3)))) .nil)) [A, some (.fz (.lst (nI ms))), x2, some (.fz (.int i)), some (.fz (.int m)), x5] = some (.val (.bl (hit ms i m))) := by
    refine q_bi1 (.fresh (((List.range ms.length).filter fun k => decide (k ≠ i)).map fun k => .bl (decide (m &&& ms.getD k 0 = m)))) _ ?_ ?_
    · refine ev_lc_fm (List.range ms.length) (fun (k : Nat) => D.int (k : Int)) _ _ ?_ (by rw [List.length_range, LN]; omega) ?_
      · simp [biD, small62_nat ms.length (by omega), rangeD0]
      · intro k hk
        have hk := List.mem_range.1 hk
        refine ⟨_, rfl, ?_, fun _ => ?_⟩
        · simp [cmpD, eqD]
          omega
        · have e2 : ∀ env : Mc.Env, env[1]? = some (some (.fz (.lst (nI ms)))) → env[4]? = some (some (.fz (.int m))) → env[5]? = some (some (.fz (.int k))) → ev G (.cmp .eq (.bin .and (.slot 4) (.sub (.slot 1) (.slot 5))) (.slot 4)) env = some (.val (.bl (decide (m &&& ms.getD k 0 = m)))) := by
            intro env h1 h4 h5
            refine q_cmp (.val (.int (m &&& ms.getD k 0 : Nat))) (.val (.int m)) _ (q_bin (.val (.int m)) (.val (.int (ms.getD k 0 : Nat))) _ (by simp [h4]) (q_sub (.val (.lst (nI ms))) (.val (.int k)) _ (by simp [h1]) (by simp [h5]) ?_) (by simp only [Rd1, binD, bitAnd_nat])) (by simp [h4]) ?_
            · simp [subD, L2.atI, L2.ixN, hk]
            · simp only [Rd1, cmpD, eqD]
              congr 1
              rw [Bool.eq_iff_iff, decide_eq_true_eq, decide_eq_true_eq]
              omega
          rw [e2 _ (by simp [wipeE]) (by simp [wipeE]) (by simp [wipeE])]
          rfl
    · simp only [Rd2, biD, blsD_map, Option.map_some, any_map]
      rfl
  rw [bNw]
  cases h : hit ms i m with
  | true =>
    rw [h] at e1
    exact (q_ret (q_then e1 (q_ret (q_rv (.bl false) (by simp))))).trans (by simp)
  | false =>
    rw [h] at e1
    exact (q_next _ (q_else e1 (execs0 _ _)) (execs0 _ _)).trans (by simp)
theorem nw_loop' (G : Gm) (B : Ss) (hh : Nat → Nat → Bool) (A x2 : Option Sl) (ms : List Nat) (hb : ∀ (x5 : Option Sl) (i m : Nat), execs G B [A, some (.fz (.lst (nI ms))), x2, some (.fz (.int i)), some (.fz (.int m)), x5]
    = if hh i m then some (.ret (.val (.bl false))) else some (.next [A, some (.fz (.lst (nI ms))), x2, some (.fz (.int i)), some (.fz (.int m)), x5])) (l : List (Nat × Nat)) : ∀ (x3 x4 x5 : Option Sl),
    ((l.any fun p => hh p.2 p.1) = true → forLoop (bindT (.tp [3, 4])) (execs G B) (pI l) [A, some (.fz (.lst (nI ms))), x2, x3, x4, x5] = some (.ret (.val (.bl false)))) ∧
    ((l.any fun p => hh p.2 p.1) = false → ∃ x3' x4' x5', forLoop (bindT (.tp [3, 4])) (execs G B) (pI l) [A, some (.fz (.lst (nI ms))), x2, x3, x4, x5] = some (.next [A, some (.fz (.lst (nI ms))), x2, x3', x4', x5'])) := by
  induction l with
  | nil => exact fun x3 x4 x5 => ⟨fun h => (by simp at h), fun _ => ⟨x3, x4, x5, rfl⟩⟩
  | cons p r ih =>
    intro x3 x4 x5
    have ih := ih (some (.fz (.int p.2))) (some (.fz (.int p.1))) x5
    rw [pI, List.map_cons, forLoop, bindT2, List.any_cons]
    simp only [setAll1, setAll0, setE1, List.set_cons_zero, List.set_cons_succ]
    rw [hb x5 p.2 p.1]
    cases h : hh p.2 p.1 with
    | true => exact ⟨fun _ => rfl, fun z => (by simp at z)⟩
    | false =>
      simp only [Bool.false_or, Bool.false_eq_true, if_false]
      exact ih
theorem nw_loop (G : Gm) (A x2 : Option Sl) (ms : List Nat) (hm : ms.length ≤ 1000) (l : List (Nat × Nat)) (x3 x4 x5 : Option Sl) :
    ((l.any fun p => hit ms p.2 p.1) = true → forLoop (bindT (.tp [3, 4])) (execs G bNw) (pI l) [A, some (.fz (.lst (nI ms))), x2, x3, x4, x5] = some (.ret (.val (.bl false)))) ∧
    ((l.any fun p => hit ms p.2 p.1) = false → ∃ x3' x4' x5', forLoop (bindT (.tp [3, 4])) (execs G bNw) (pI l) [A, some (.fz (.lst (nI ms))), x2, x3, x4, x5] = some (.next [A, some (.fz (.lst (nI ms))), x2, x3', x4', x5'])) :=
  nw_loop' G bNw (hit ms) A x2 ms (fun x5 i m => nw_body G A x2 x5 ms hm i m) l x3 x4 x5
theorem hit_iff (n : Nat) (ss : List (List Nat)) (h : ∀ s ∈ ss, s.length = n) : ((ss.map lmk).zipIdx.any fun p => hit (ss.map lmk) p.2 p.1) = !noneW ss := by
  rw [Bool.eq_iff_iff, Bool.not_eq_true', ← Bool.not_eq_true, noneW_iff h, List.any_eq_true]
  constructor
  · rintro ⟨p, hp, hh⟩ g
    have hp := List.mem_zipIdx_iff_getElem?.1 hp
    rw [List.getElem?_map] at hp
    obtain ⟨s, hs, he⟩ := Option.map_eq_some_iff.1 hp
    unfold hit at hh
    rw [List.any_eq_true] at hh
    obtain ⟨k, hk, e⟩ := hh
    obtain ⟨k1, k2⟩ := List.mem_filter.1 hk
    have k1 := List.mem_range.1 k1
    rw [List.length_map] at k1
    have hk2 : k ≠ p.2 := by simpa using k2
    have ht : ss[k]? = some ss[k] := List.getElem?_eq_getElem k1
    have := g p.2 k s ss[k] hs ht (Ne.symm hk2)
    rw [← Bool.not_eq_true] at this
    apply this
    rw [← lmk_and s ss[k] (by rw [h s (List.mem_of_getElem? hs), h ss[k] (List.getElem_mem k1)])]
    have e := of_decide_eq_true e
    rw [← he, List.getD_eq_getElem?_getD, List.getElem?_map, ht] at e
    exact e
  · intro g
    have g : ∃ (i j : Nat) (s t : List Nat), ss[i]? = some s ∧ ss[j]? = some t ∧ i ≠ j ∧ wi s t = true := by
      apply Classical.byContradiction
      intro c
      apply g
      intro i j s t h1 h2 h3
      rw [← Bool.not_eq_true]
      intro z
      exact c ⟨i, j, s, t, h1, h2, h3, z⟩
    obtain ⟨i, j, s, t, h1, h2, h3, h4⟩ := g
    refine ⟨(lmk s, i), List.mem_zipIdx_iff_getElem?.2 (by rw [List.getElem?_map, h1]; rfl), ?_⟩
    unfold hit
    rw [List.any_eq_true]
    refine ⟨j, List.mem_filter.2 ⟨List.mem_range.2 (by rw [List.length_map]; exact (List.getElem?_eq_some_iff.1 h2).1), by simpa using Ne.symm h3⟩, ?_⟩
    rw [List.getD_eq_getElem?_getD, List.getElem?_map, h2]
    exact decide_eq_true ((lmk_and s t (by rw [h s (List.mem_of_getElem? h1), h t (List.mem_of_getElem? h2)])).2 h4)
theorem _law_none_within_ok (G : Gm) (F37) (g37 : G 37 = some F37) (s37 : SLMarks F37) : SNone (run G 1 6 p__law_none_within) := by
  intro n ss hs hn hl
  refine run_ret [some (fS ss), none, none, none, none, none] rfl rfl ?_
  have e1 : ev G (.lc (.call 37 (.cons (.slot 2) .nil)) (.nm 2) (.seq (.slot 0)) .non) [some (fS ss), none, none, none, none, none] = some (.fresh (nI (ss.map lmk))) := by
    rw [nI, List.map_map]
    refine ev_lc_m ss D.str _ (by simp) (by rw [LN]; omega) ?_
    intro s hm
    refine ⟨_, rfl, ?_⟩
    have := s37 s (by rw [hs s hm]; exact hn)
    simp [g37, this]
  refine q_next [some (fS ss), some (.fz (.lst (nI (ss.map lmk)))), none, none, none, none] (q_asg _ e1 rfl) ?_
  have ho := nw_loop G (some (fS ss)) none (ss.map lmk) (by rw [List.length_map]; exact hl) (ss.map lmk).zipIdx none none none
  rw [hit_iff n ss hs] at ho
  have hsr : evS G (.enum (.slot 1)) [some (fS ss), some (.fz (.lst (nI (ss.map lmk)))), none, none, none, none] = some (pI (ss.map lmk).zipIdx) := by
    simp only [evS_enum, ev_slot, List.getElem?_cons_succ, List.getElem?_cons_zero, Rd1]
    rw [nI, show (0 : Int) = ((0 : Nat) : Int) from rfl, enumD_map]
  cases h : noneW ss with
  | true =>
    obtain ⟨a, b, c, e⟩ := ho.2 (by rw [h]; rfl)
    refine q_next _ (q_for _ (by simp) hsr e) ?_
    exact q_ret (q_rv _ (by simp))
  | false => exact q_ret (q_for _ (by simp) hsr (ho.1 (by rw [h]; rfl)))
/-! ### a third of the sets -/
def SPart (F : Fn) : Prop := ∀ (n : Nat) (ns : List Int), n ≤ 200 → ScrOk ns → ∃ ss r, SetsOk n ns ss ∧ F [fI ns, .fz (.int n)] = some r ∧ (r = .val (.lst (sL ss)) ∨ r = .fresh (sL ss))
theorem ev_sum (G : Gm) (ns : List Int) (env : Mc.Env) (i : Nat) (h : env[i]? = some (some (fI ns))) : ev G (.bi .sum (.cons (.slot i) .nil)) env = some (.val (.int ns.sum)) := by
  refine q_bi1 (.val (.lst (ns.map D.int))) _ (by simp [h]) ?_
  simp only [Rd1, biD, intsD_int, Option.map_some]
theorem SetsOk.sub {n : Nat} {ns : List Int} {ss tt : List (List Nat)} (h : SetsOk n ns ss) (hs : tt.Sublist ss) : SetsOk n ns tt :=
  ⟨fun s hm => h.ok s (hs.subset hm), h.hn, Nat.le_trans hs.length_le h.le, Nat.le_trans hs.length_le h.few, Nat.le_trans (Nat.mul_le_mul_right _ hs.length_le) h.bt⟩
theorem _law_part_ok (G : Gm) (F31) (g31 : G 31 = some F31) (s31 : SSets F31) : SPart (run G 2 4 p__law_part) := by
  intro n ns hn hns
  obtain ⟨ss, hS, e31⟩ := s31 n ns hn hns
  have d5 : (0 : Int) < 5 ∧ (5 : Int).natAbs.log2 < 9000 := by decide
  have d16 : (0 : Int) < 16 := by decide
  have d3 : (0 : Int) < 3 := by decide
  have m1 := Int.emod_nonneg ns.sum (show (3 : Int) ≠ 0 by decide)
  -- the test
  have ht : ∃ k : Bool, ∀ env : Mc.Env, env[1]? = some (some (.fz (.int n))) → env[2]? = some (some (.fz (.int ns.sum))) → ev G (.or (.cons (.cmp .eq (.bin .mod (.bin .fdiv (.slot 2) (.int 5)) (.int 16)) (.int 7)) (.cons (.cmp .ge (.slot 1) (.int 60)) .nil))) env = some (.val (.bl k)) := by
    refine ⟨decide (ns.sum / 5 % 16 = 7) || decide ((60 : Int) ≤ n), fun env h1 h2 => ?_⟩
    refine q_orB _ _ (q_cmp (.val (.int (ns.sum / 5 % 16))) (.val (.int 7)) _ ?_ (by simp) (by simp [cmpD, eqD])) fun _ => q_orL _ (q_cmp (.val (.int n)) (.val (.int 60)) _ (by simp [h1]) (by simp) (by simp [cmpD]))
    exact q_bin (.val (.int (ns.sum / 5))) (.val (.int 16)) _ (q_bin (.val (.int ns.sum)) (.val (.int 5)) _ (by simp [h2]) (by simp) (fd _ _ d5.1 d5.2)) (by simp) (md _ _ d16)
  obtain ⟨k, ht⟩ := ht
  have hst : ∀ env : Mc.Env, env[3]? = some (some (fS ss)) → env[2]? = some (some (.fz (.int ns.sum))) → ev G (.step (.slot 3) (.bin .mod (.slot 2) (.int 3)) 3) env = some (.fresh (sL (stepL 3 ss.length (ss.drop (ns.sum % 3).toNat)))) := by
    intro env h3 h2
    simp only [ev_step, ev_slot, h3, h2, ev_bin, ev_int, Rd1, md _ _ d3]
    rw [if_pos m1, sL, List.length_map, ← List.map_drop, stepL_map]
  cases k with
  | true =>
    refine ⟨ss, _, hS, ?_, .inl rfl⟩
    refine run_ret [some (fI ns), some (.fz (.int n)), none, none] rfl rfl ?_
    refine q_next [some (fI ns), some (.fz (.int n)), some (.fz (.int ns.sum)), none] (q_asg _ (ev_sum G ns _ 0 rfl) rfl) ?_
    refine q_next [some (fI ns), some (.fz (.int n)), some (.fz (.int ns.sum)), some (fS ss)] (q_asg _ (q_call [fI ns, .fz (.int n)] _ _ (by simp) g31 e31 rfl) rfl) ?_
    exact q_ret (q_rv _ (q_ite1 (ht _ rfl rfl) (by simp)))
  | false =>
    refine ⟨stepL 3 ss.length (ss.drop (ns.sum % 3).toNat), _, hS.sub ((stepL_sub _ _ _).trans (List.drop_sublist _ _)), ?_, .inr rfl⟩
    refine run_ret [some (fI ns), some (.fz (.int n)), none, none] rfl rfl ?_
    refine q_next [some (fI ns), some (.fz (.int n)), some (.fz (.int ns.sum)), none] (q_asg _ (ev_sum G ns _ 0 rfl) rfl) ?_
    refine q_next [some (fI ns), some (.fz (.int n)), some (.fz (.int ns.sum)), some (fS ss)] (q_asg _ (q_call [fI ns, .fz (.int n)] _ _ (by simp) g31 e31 rfl) rfl) ?_
    exact q_ret (q_rf _ (q_ite0 (ht _ rfl rfl) (hst _ rfl rfl)))
/-! ### answers -/
theorem eqv_two (a b c d : Int) : PyData.eqv (toPy (.tup [.int a, .int b])) (toPy (.tup [.int c, .int d])) = (decide (a = c) && decide (b = d)) := by
  simp only [toPy, toPyL, PyData.eqv, PyData.eqvAll, eqv_int, Bool.and_true]
  rw [Bool.eq_iff_iff]
  simp
theorem eqD_two (a b c d : Int) : eqD (.tup [.int a, .int b]) (.tup [.int c, .int d]) = some (decide (a = c) && decide (b = d)) := by
  have h : ∀ x y : Int, eqable (.tup [.int x, .int y]) = true := fun x y => eqable_tup (by intro d hd; simp only [List.mem_cons, List.not_mem_nil, or_false] at hd; rcases hd with rfl | rfl <;> rfl)
  rw [eqD]
  · simp only [h, Bool.and_self, if_true, eqv_two]
  all_goals (intros; contradiction)
def SApart (F : Fn) : Prop := ∀ (n : Nat) (ss : List (List Nat)) (x y : Int), ShOk n ss → ss.length ≤ 1000 → F [.fz (.ins 1 [.tup [.int x, .int y]]), fS ss] = some (.val (.bl (noneW ss && (decide (x = (shr ss).1) && decide (y = (shr ss).2)))))
theorem Apart_shows_ok (G : Gm) (F20 F28) (g20 : G 20 = some F20) (g28 : G 28 = some F28) (s20 : SFirst F20) (s28 : SShare F28) : SApart (run G 2 2 p_Apart_shows) := by
  intro n ss x y h hl
  have e20 := s20 ss (fun s hs => by rw [h.len s hs]; exact h.hn) hl
  have e28 := s28 n ss h
  refine run_ret [some (.fz (.ins 1 [.tup [.int x, .int y]])), some (fS ss)] rfl rfl ?_
  refine q_ret (q_rv _ (q_andB _ _ ?_ fun _ => q_andL _ ?_))
  · refine q_cmp (.val (fwD (fw (ss.map mk)))) (.val .non) _ (q_call [fS ss] _ _ (by simp) g20 e20 rfl) (by simp) ?_
    unfold noneW
    cases fw (ss.map mk) <;> rfl
  · exact q_cmp (.val (.tup [.int x, .int y])) (.val (dSh (shr ss))) _ (by simp) (q_call [fS ss] _ _ (by simp) g28 e28 rfl) (by simp only [Rd1, cmpD, dSh, eqD_two])
/-- what Within(i, j) shows -/
def winS (ss : List (List Nat)) (i j : Int) : Bool := decide (0 ≤ i ∧ i < ss.length ∧ 0 ≤ j ∧ j < ss.length ∧ i ≠ j) && wi (ss.getD i.toNat []) (ss.getD j.toNat [])
def SWithinS (F : Fn) : Prop := ∀ (n : Nat) (ss : List (List Nat)) (i j : Int), (∀ s ∈ ss, s.length = n) → n ≤ 200 → F [.fz (.ins 2 [.int i, .int j]), fS ss] = some (.val (.bl (winS ss i j)))
theorem sub_nat (ss : List (List Nat)) (i : Int) (h0 : 0 ≤ i) (h1 : i < ss.length) : subD (.lst (sL ss)) (.int i) = some (.str (ss.getD i.toNat [])) ∧ ss.getD i.toNat [] ∈ ss := by
  have e : L2.ixN (sL ss).length i = some i.toNat := by
    rw [L2.ixN, if_pos h0, if_pos (by simp; omega)]
  have hlt : i.toNat < ss.length := by omega
  constructor
  · rw [subD, L2.atI, e]
    simp [List.getElem?_eq_getElem hlt]
  · rw [List.getD_eq_getElem?_getD, List.getElem?_eq_getElem hlt]
    exact List.getElem_mem hlt
theorem Within_shows_ok (G : Gm) (F9 F16 F17) (g9 : G 9 = some F9) (g16 : G 16 = some F16) (g17 : G 17 = some F17) (s9 : SIsNumber F9) (s16 : SMarks F16) (s17 : SHolds F17) : SWithinS (run G 2 2 p_Within_shows) := by
  intro n ss i j hs hn
  refine run_ret [some (.fz (.ins 2 [.int i, .int j])), some (fS ss)] rfl rfl ?_
  have q1 : ev G (.call 9 (.cons (.fld (.slot 0) 2 0) (.cons (.int 0) (.cons (.bin .sub (.bi .len (.cons (.slot 1) .nil)) (.int 1)) .nil)))) [some (.fz (.ins 2 [.int i, .int j])), some (fS ss)] = some (.val (.bl (decide (0 ≤ i ∧ i ≤ (ss.length : Int) - 1)))) :=
    q_call [.fz (.int i), .fz (.int 0), .fz (.int ((ss.length : Int) - 1))] _ _ (by simp [biD, binD]) g9 (s9 _ _ _) rfl
  have q2 : ev G (.call 9 (.cons (.fld (.slot 0) 2 1) (.cons (.int 0) (.cons (.bin .sub (.bi .len (.cons (.slot 1) .nil)) (.int 1)) .nil)))) [some (.fz (.ins 2 [.int i, .int j])), some (fS ss)] = some (.val (.bl (decide (0 ≤ j ∧ j ≤ (ss.length : Int) - 1)))) :=
    q_call [.fz (.int j), .fz (.int 0), .fz (.int ((ss.length : Int) - 1))] _ _ (by simp [biD, binD]) g9 (s9 _ _ _) rfl
  by_cases h1 : 0 ≤ i ∧ i < ss.length
  · by_cases h2 : 0 ≤ j ∧ j < ss.length
    · rw [decide_eq_true (show 0 ≤ i ∧ i ≤ (ss.length : Int) - 1 by omega)] at q1
      rw [decide_eq_true (show 0 ≤ j ∧ j ≤ (ss.length : Int) - 1 by omega)] at q2
      refine q_next _ (q_else (q_or0 (q_not true q1) (q_or0 (q_not true q2) q_orN)) (execs0 _ _)) ?_
      obtain ⟨t1, t2⟩ := sub_nat ss i h1.1 h1.2
      obtain ⟨u1, u2⟩ := sub_nat ss j h2.1 h2.2
      have ew : winS ss i j = (decide (i ≠ j) && wi (ss.getD i.toNat []) (ss.getD j.toNat [])) := by
        unfold winS
        congr 1
        rw [Bool.eq_iff_iff, decide_eq_true_eq, decide_eq_true_eq]
        omega
      rw [ew]
      generalize ss.getD i.toNat [] = s at t1 t2
      generalize ss.getD j.toNat [] = t at u1 u2
      have k1 := hs s t2
      have k2 := hs t u2
      refine q_ret (q_rv _ (q_andB _ _ (q_cmp (.val (.int i)) (.val (.int j)) _ (by simp) (by simp) (by simp [cmpD, eqD])) fun _ => q_andL _ ?_))
      refine q_call [.fz (.int (mk s)), .fz (.int (mk t))] _ _ ?_ g17 (by rw [s17, mk_and s t (by rw [k1, k2])]) rfl
      have f1 : ev G (.fld (.slot 0) 2 0) [some (.fz (.ins 2 [.int i, .int j])), some (fS ss)] = some (.val (.int i)) := by simp
      have f2 : ev G (.fld (.slot 0) 2 1) [some (.fz (.ins 2 [.int i, .int j])), some (fS ss)] = some (.val (.int j)) := by simp
      rw [evA1, q_call [.fz (.str s)] _ _ (by rw [evA1, q_sub (.val (.lst (sL ss))) (.val (.int i)) _ (by simp) f1 t1, evA0]; rfl) g16 (s16 s (by omega)) rfl,
        evA1, q_call [.fz (.str t)] _ _ (by rw [evA1, q_sub (.val (.lst (sL ss))) (.val (.int j)) _ (by simp) f2 u1, evA0]; rfl) g16 (s16 t (by omega)) rfl, evA0]
      rfl
    · rw [decide_eq_true (show 0 ≤ i ∧ i ≤ (ss.length : Int) - 1 by omega)] at q1
      rw [decide_eq_false (show ¬ (0 ≤ j ∧ j ≤ (ss.length : Int) - 1) by omega)] at q2
      have ew : winS ss i j = false := by
        unfold winS
        rw [decide_eq_false (by omega)]; rfl
      rw [ew]
      exact q_ret (q_then (q_or0 (q_not true q1) (q_or1 (q_not false q2))) (q_ret (q_rv _ (by simp))))
  · rw [decide_eq_false (show ¬ (0 ≤ i ∧ i ≤ (ss.length : Int) - 1) by omega)] at q1
    have ew : winS ss i j = false := by
      unfold winS
      rw [decide_eq_false (by omega)]; rfl
    rw [ew]
    exact q_ret (q_then (q_or1 (q_not false q1)) (q_ret (q_rv _ (by simp))))
/-- what apart tells -/
def apD (ss : List (List Nat)) : D := match fw (ss.map mk) with
  | none => .ins 1 [dSh (shr ss)]
  | some (i, j) => .ins 2 [.int (i : Int), .int (j : Int)]
def SApartF (F : Fn) : Prop := ∀ (n : Nat) (ss : List (List Nat)), FamOk n ss → ss.length * (n + 1) ≤ 8000 → F [fS ss] = some (.val (apD ss))
theorem apart_ok (G : Gm) (F20 F21 F28) (g20 : G 20 = some F20) (g21 : G 21 = some F21) (g28 : G 28 = some F28) (s20 : SFirst F20) (s21 : SCheckFam F21) (s28 : SShare F28) : SApartF (run G 1 2 p_apart) := by
  intro n ss h hb
  have e20 := s20 ss h.le h.few
  have e28 := s28 n ss ⟨fun s hs => (h.ok s hs).2, h.n, hb⟩
  refine run_ret [some (fS ss), none] rfl rfl ?_
  refine q_next _ (q_ex _ (q_call [fS ss] _ _ (by simp) g21 (s21 n ss h) rfl)) ?_
  refine q_next [some (fS ss), some (.fz (fwD (fw (ss.map mk))))] (q_asg _ (q_call [fS ss] _ _ (by simp) g20 e20 rfl) rfl) ?_
  unfold apD
  cases fw (ss.map mk) with
  | none =>
    refine q_ret (q_then (q_cmp (.val .non) (.val .non) true (by simp [fwD]) (by simp) rfl) (q_ret (q_rv _ (q_new [dSh (shr ss)] ?_))))
    rw [evV1, q_call [fS ss] _ _ (by simp) g28 e28 rfl, evV0]
    rfl
  | some p =>
    refine q_next _ (q_else (q_cmp (.val (.tup [.int (p.1 : Int), .int (p.2 : Int)])) (.val .non) false (by simp [fwD]) (by simp) rfl) (execs0 _ _)) ?_
    refine q_ret (q_rv _ (q_new [.int (p.1 : Int), .int (p.2 : Int)] ?_))
    simp [fwD, subD, L2.atI, L2.ixN]
end Pg
namespace Pg
open Mc PySem Th
/-- these slots hold these things -/
def At (n : Nat) (l : List (Nat × Sl)) (env : Mc.Env) : Prop := env.length = n ∧ ∀ p ∈ l, env[p.1]? = some (some p.2)
theorem At.get {n : Nat} {l : List (Nat × Sl)} {env : Mc.Env} (h : At n l env) {i : Nat} {s : Sl} (hm : (i, s) ∈ l) : env[i]? = some (some s) := h.2 (i, s) hm
theorem At.at {n : Nat} {l : List (Nat × Sl)} {env : Mc.Env} (h : At n l env) (i : Nat) {s : Sl} (hm : l.lookup i = some s) : env[i]? = some (some s) := h.2 (i, s) (mem_lk hm)
theorem At.keep {n : Nat} {l : List (Nat × Sl)} {env : Mc.Env} (h : At n l env) {i : Nat} {v : Option Sl} (hi : ∀ p ∈ l, p.1 ≠ i) : At n l (env.set i v) :=
  ⟨by rw [List.length_set]; exact h.1, fun p hp => by rw [List.getElem?_set_ne (Ne.symm (hi p hp))]; exact h.2 p hp⟩
theorem At.put {n : Nat} {l : List (Nat × Sl)} {env : Mc.Env} (h : At n l env) {i : Nat} {s : Sl} (hin : i < n) (hi : ∀ p ∈ l, p.1 ≠ i) : At n ((i, s) :: l) (env.set i (some s)) := by
  refine ⟨by rw [List.length_set]; exact h.1, fun p hp => ?_⟩
  rcases List.mem_cons.1 hp with rfl | hp
  · exact List.getElem?_set_self (by rw [h.1]; exact hin)
  · rw [List.getElem?_set_ne (Ne.symm (hi p hp))]; exact h.2 p hp
theorem At.less {n : Nat} {l l' : List (Nat × Sl)} {env : Mc.Env} (h : At n l env) (hs : ∀ p ∈ l', p ∈ l) : At n l' env := ⟨h.1, fun p hp => h.2 p (hs p hp)⟩
theorem loop_at {G : Gm} {tg : Tg} {body : Ss} {n : Nat} {l : List (Nat × Sl)} (items : List D) (env : Mc.Env) (h : At n l env) (hs : ∀ d ∈ items, ∀ env : Mc.Env, At n l env → ∃ env1 env2, bindT tg d env = some env1 ∧ execs G body env1 = some (.next env2) ∧ At n l env2) :
    ∃ env', forLoop (bindT tg) (execs G body) items env = some (.next env') ∧ At n l env' := loop_thru (At n l) items env h hs
theorem q_mt1 {G : Gm} {env : Mc.Env} {a : E} {fs : List D} {F : Fn} {c f : Nat} {es : Es} (as : List Sl) (r : R) (h0 : ev G a env = some (.val (.ins c fs))) (h1 : evA G es env = some as) (ht : ([(1, 200), (2, 201)] : List (Nat × Nat)).lookup c = some f) (h2 : G f = some F) (h3 : F (.fz (.ins c fs) :: as) = some r) (h4 : r.plain = true) :
    ev G (.mcall "shows" [(1, 200), (2, 201)] a es) env = some r := q_mcall c fs as f F r h0 h1 ht h2 h3 h4
theorem shrA_bits (n : Nat) : ∀ (l : List (List Nat)) (a b e : Nat), (∀ s ∈ l, s.length = n) → a < 2 ^ e → b < 2 ^ e → (shrA (a, b) l).1 < 2 ^ (e + l.length * (n + 1)) ∧ (shrA (a, b) l).2 < 2 ^ (e + l.length * (n + 1))
  | [], a, b, e, _, ha, hb => by simpa [shrA] using ⟨ha, hb⟩
  | s :: l, a, b, e, hs, ha, hb => by
    have hsn := hs s (List.mem_cons_self ..)
    have hc : C s.length (s.count 120) ≤ 2 ^ n := by rw [hsn]; exact C_pow _ _
    rw [shrA.eq_def]
    simp only []
    generalize C s.length (s.count 120) = c at hc
    obtain ⟨k1, k2⟩ := step_bits ha hb hc
    obtain ⟨l1, l2⟩ := low_le (a * c + b) (b * c)
    have := shrA_bits n l (low (a * c + b) (b * c)).1 (low (a * c + b) (b * c)).2 (e + (n + 1)) (fun t ht => hs t (List.mem_cons_of_mem _ ht)) (by omega) (by omega)
    simp only [List.length_cons, Nat.add_mul, Nat.one_mul]
    rw [show e + (l.length * (n + 1) + (n + 1)) = e + (n + 1) + l.length * (n + 1) by omega]
    exact this
theorem shr_bits (n : Nat) (ss : List (List Nat)) (h : ShOk n ss) : bits ((shr ss).1 : Int) ≤ 9000 ∧ bits ((shr ss).2 : Int) ≤ 9000 := by
  obtain ⟨h1, h2⟩ := shrA_bits n ss 0 1 1 h.len (by decide) (by decide)
  have hb := h.bt
  constructor
  · exact Nat.le_trans (bits_nat _ _ h1) (by omega)
  · exact Nat.le_trans (bits_nat _ _ h2) (by omega)
end Pg
namespace Pg
open Mc PySem
/-! ### the shares together are at most one -/
theorem C_fac (n : Nat) : ∀ k, k ≤ n → C n k * (Th.fac k * Th.fac (n - k)) = Th.fac n
  | 0, _ => by simp [C_zero, Th.fac]
  | k + 1, h => by
    have ih := C_fac n k (by omega)
    have hs := C_step n k (by omega)
    have e : Th.fac (n - k) = (n - k) * Th.fac (n - (k + 1)) := by
      rw [show n - k = (n - (k + 1)) + 1 by omega, Th.fac]
    rw [← ih, e]
    have e2 : Th.fac (k + 1) = (k + 1) * Th.fac k := rfl
    rw [e2]
    calc C n (k + 1) * ((k + 1) * Th.fac k * Th.fac (n - (k + 1))) = (C n (k + 1) * (k + 1)) * (Th.fac k * Th.fac (n - (k + 1))) := by simp only [Nat.mul_assoc]
      _ = (C n k * (n - k)) * (Th.fac k * Th.fac (n - (k + 1))) := by rw [hs]
      _ = C n k * (Th.fac k * ((n - k) * Th.fac (n - (k + 1)))) := by
        simp only [Nat.mul_assoc]
        rw [Nat.mul_left_comm (n - k)]
theorem low_eq {a b F S : Nat} (hb : 0 < b) (h : a * F = b * S) : (low a b).1 * F = (low a b).2 * S := by
  have hg : 0 < Nat.gcd a b := Nat.gcd_pos_of_pos_right _ hb
  have e1 : (low a b).1 * Nat.gcd a b = a := Nat.div_mul_cancel (Nat.gcd_dvd_left a b)
  have e2 : (low a b).2 * Nat.gcd a b = b := Nat.div_mul_cancel (Nat.gcd_dvd_right a b)
  generalize Nat.gcd a b = g at *
  apply Nat.eq_of_mul_eq_mul_right hg
  calc (low a b).1 * F * g = (low a b).1 * g * F := by rw [Nat.mul_right_comm]
    _ = a * F := by rw [e1]
    _ = b * S := h
    _ = (low a b).2 * g * S := by rw [e2]
    _ = (low a b).2 * S * g := by rw [Nat.mul_right_comm]
theorem shrA_fac (n : Nat) : ∀ (l : List (List Nat)) (a b S : Nat), (∀ s ∈ l, s.length = n) → 0 < b → a * Th.fac n = b * S → (shrA (a, b) l).1 * Th.fac n = (shrA (a, b) l).2 * (S + Th.sm (Th.w n) (l.map Th.bt)) ∧ 0 < (shrA (a, b) l).2
  | [], a, b, S, _, h0, h => by simpa [shrA, Th.sm] using ⟨h, h0⟩
  | s :: l, a, b, S, hs, h0, h => by
    have hsn := hs s (List.mem_cons_self ..)
    have hk : s.count 120 ≤ n := by rw [← hsn]; exact List.count_le_length
    have hc := C_fac n (s.count 120) hk
    have hcp := C_len_pos s
    have ew : Th.w n (Th.bt s) = Th.fac (s.count 120) * Th.fac (n - s.count 120) := by unfold Th.w; rw [Th.bt_size]
    rw [shrA.eq_def]
    simp only [List.map_cons, Th.sm]
    rw [hsn] at hcp ⊢
    rw [← ew] at hc
    generalize C n (s.count 120) = c at hc hcp
    generalize Th.w n (Th.bt s) = ww at hc
    have h0' : 0 < b * c := Nat.mul_pos h0 hcp
    have e : (a * c + b) * Th.fac n = b * c * (S + ww) := by
      rw [Nat.add_mul, Nat.mul_right_comm, h, Nat.mul_add, ← hc]
      congr 1
      · rw [Nat.mul_right_comm]
      · rw [Nat.mul_assoc]
    obtain ⟨k1, k2⟩ := shrA_fac n l (low (a * c + b) (b * c)).1 (low (a * c + b) (b * c)).2 (S + ww) (fun t ht => hs t (List.mem_cons_of_mem _ ht)) (low_pos h0') (low_eq h0' e)
    exact ⟨by rw [Nat.add_assoc] at k1; exact k1, k2⟩
theorem shr_le {n : Nat} {ss : List (List Nat)} (h : ∀ s ∈ ss, s.length = n) (hn : noneW ss = true) : (shr ss).1 ≤ (shr ss).2 := by
  obtain ⟨k1, k2⟩ := shrA_fac n ss 0 1 0 h (by decide) (by simp)
  have ha : Th.Anti (ss.map Th.bt) := by
    unfold Th.Anti
    rw [List.pairwise_map, List.pairwise_iff_getElem]
    intro i j hi hj hlt
    have g := (noneW_iff h).1 hn
    exact ⟨g i j ss[i] ss[j] (List.getElem?_eq_getElem hi) (List.getElem?_eq_getElem hj) (Nat.ne_of_lt hlt), g j i ss[j] ss[i] (List.getElem?_eq_getElem hj) (List.getElem?_eq_getElem hi) (Nat.ne_of_gt hlt)⟩
  have hl := Th.lym n (ss.map Th.bt) (fun s hs => by obtain ⟨t, ht, rfl⟩ := List.mem_map.1 hs; rw [Th.bt_len, h t ht]) ha
  rw [Nat.zero_add] at k1
  have hp := Th.fac_pos n
  unfold shr
  apply Nat.le_of_mul_le_mul_right _ hp
  rw [k1]
  exact Nat.mul_le_mul_left _ hl
end Pg
namespace Pg
open Mc PySem Th
/-! ### askings, in plain words -/
abbrev Asks := List (List Nat × Bool)
def rl (ss : List (List Nat)) (s : List Nat) : Bool := ss.any fun t => wi t s
def stl (F : Asks) (s : List Nat) : Bool := F.any fun p => if p.2 then wi p.1 s else wi s p.1
def lrnA (ss : List (List Nat)) : Asks → List (List Nat) → Asks
  | F, [] => F
  | F, s :: l => lrnA ss (if stl F s then F else F ++ [(s, rl ss s)]) l
theorem lrnA_app (ss : List (List Nat)) : ∀ (l m : List (List Nat)) (F : Asks), lrnA ss F (l ++ m) = lrnA ss (lrnA ss F l) m
  | [], m, F => rfl
  | s :: l, m, F => by simp only [List.cons_append, lrnA, lrnA_app ss l m]
theorem stl_app (F X : Asks) (s : List Nat) : stl (F ++ X) s = (stl F s || stl X s) := by simp [stl]
theorem lrnA_ext (ss : List (List Nat)) : ∀ (l : List (List Nat)) (F : Asks), ∃ X, lrnA ss F l = F ++ X
  | [], F => ⟨[], by simp [lrnA]⟩
  | s :: l, F => by
    rw [lrnA]
    split
    · exact lrnA_ext ss l F
    · obtain ⟨X, h⟩ := lrnA_ext ss l (F ++ [(s, rl ss s)])
      exact ⟨(s, rl ss s) :: X, by rw [h]; simp⟩
theorem lrnA_mono (ss : List (List Nat)) (l : List (List Nat)) (F : Asks) (s : List Nat) (h : stl F s = true) : stl (lrnA ss F l) s = true := by
  obtain ⟨X, e⟩ := lrnA_ext ss l F
  rw [e, stl_app, h]; rfl
theorem stl_self (F : Asks) (s : List Nat) (b : Bool) : stl (F ++ [(s, b)]) s = true := by
  rw [stl_app]
  cases b <;> simp [stl, sb_refl]
theorem lrnA_all (ss : List (List Nat)) : ∀ (l : List (List Nat)) (F : Asks), ∀ s ∈ l, stl (lrnA ss F l) s = true
  | [], F, s, h => by cases h
  | t :: l, F, s, h => by
    rw [lrnA]
    rcases List.mem_cons.1 h with rfl | h
    · refine lrnA_mono ss l _ _ ?_
      split
      · assumption
      · exact stl_self _ _ _
    · exact lrnA_all ss l _ s h
theorem lrnA_mem (ss : List (List Nat)) : ∀ (l : List (List Nat)) (F : Asks) (p : List Nat × Bool), p ∈ lrnA ss F l → p ∈ F ∨ (p.1 ∈ l ∧ p.2 = rl ss p.1)
  | [], F, p, h => .inl h
  | s :: l, F, p, h => by
    rw [lrnA] at h
    rcases lrnA_mem ss l _ p h with h | h
    · split at h
      · exact .inl h
      · rcases List.mem_append.1 h with h | h
        · exact .inl h
        · simp at h; subst h; exact .inr ⟨List.mem_cons_self .., rfl⟩
    · exact .inr ⟨List.mem_cons_of_mem _ h.1, h.2⟩
/-- none was settled ahead -/
def Uns : Asks → Asks → Prop
  | _, [] => True
  | F, p :: r => stl F p.1 = false ∧ Uns (F ++ [p]) r
theorem uns_app : ∀ (X : Asks) (F : Asks) (p : List Nat × Bool), Uns F X → stl (F ++ X) p.1 = false → Uns F (X ++ [p])
  | [], F, p, _, h => by simp only [List.append_nil] at h; exact ⟨h, trivial⟩
  | x :: X, F, p, h, g => ⟨h.1, uns_app X (F ++ [x]) p h.2 (by simpa using g)⟩
theorem lrnA_uns (ss : List (List Nat)) : ∀ (l : List (List Nat)) (F : Asks), Uns [] F → Uns [] (lrnA ss F l)
  | [], F, h => h
  | s :: l, F, h => by
    rw [lrnA]
    refine lrnA_uns ss l _ ?_
    split
    · exact h
    · rename_i hs
      exact uns_app F [] _ h (by simpa using hs)
/-! two rules -/
def alike : Asks → Asks → Bool
  | [], [] => true
  | p :: a, q :: b => decide (p.1 = q.1) && (decide (p.2 ≠ q.2) || alike a b)
  | _, _ => false
theorem lrn_alike (A B : List (List Nat)) : ∀ (l : List (List Nat)) (F : Asks), ∃ X Y, lrnA A F l = F ++ X ∧ lrnA B F l = F ++ Y ∧ alike X Y = true
  | [], F => ⟨[], [], by simp [lrnA], by simp [lrnA], rfl⟩
  | s :: l, F => by
    rw [lrnA, lrnA]
    by_cases h : stl F s = true
    · rw [if_pos h, if_pos h]; exact lrn_alike A B l F
    · rw [if_neg h, if_neg h]
      by_cases e : rl A s = rl B s
      · rw [e]
        obtain ⟨X, Y, h1, h2, h3⟩ := lrn_alike A B l (F ++ [(s, rl B s)])
        exact ⟨(s, rl B s) :: X, (s, rl B s) :: Y, by rw [h1]; simp, by rw [h2]; simp, by simp [alike, h3]⟩
      · obtain ⟨X, h1⟩ := lrnA_ext A l (F ++ [(s, rl A s)])
        obtain ⟨Y, h2⟩ := lrnA_ext B l (F ++ [(s, rl B s)])
        exact ⟨(s, rl A s) :: X, (s, rl B s) :: Y, by rw [h1]; simp, by rw [h2]; simp, by simp [alike, e]⟩
theorem alike_lrn (A B : List (List Nat)) (l : List (List Nat)) : alike (lrnA A [] l) (lrnA B [] l) = true := by
  obtain ⟨X, Y, h1, h2, h3⟩ := lrn_alike A B l []
  rw [h1, h2]; simpa using h3
/-! how many -/
def chainB : List (List Nat) → Bool
  | a :: b :: t => wi a b && chainB (b :: t)
  | _ => true
def tripB (prev : List (List Nat)) : List (List Nat) → Bool
  | a :: b :: c :: t => (prev.any fun x => wi a x && wi x c) && tripB prev (b :: c :: t)
  | _ => true
def hansA : List (List Nat) → List (List (List Nat)) → Bool
  | _, [] => true
  | prev, r :: rs => chainB r && tripB prev r && hansA (prev ++ r) rs
def sum2 : List (List (List Nat)) → Nat
  | [] => 0
  | r :: rs => min 2 r.length + sum2 rs
theorem chain_le (n : Nat) : ∀ (r : List (List Nat)) (a : List Nat), (∀ s ∈ a :: r, s.length = n) → chainB (a :: r) = true → ∀ s ∈ r, wi a s = true
  | [], a, _, _, s, h => by cases h
  | b :: t, a, hl, hc, s, h => by
    simp only [chainB, Bool.and_eq_true] at hc
    rcases List.mem_cons.1 h with rfl | h
    · exact hc.1
    · have := chain_le n t b (fun u hu => hl u (List.mem_cons_of_mem _ hu)) hc.2 s h
      exact sb_trans a b s (by rw [hl a (List.mem_cons_self ..), hl b (by simp)]) (by rw [hl b (by simp), hl s (by simp [h])]) hc.1 this
theorem stl_between {n : Nat} {F : Asks} (hF : ∀ p ∈ F, p.1.length = n) {a x c : List Nat} (ha : a.length = n) (hx : x.length = n) (hc : c.length = n) (h1 : wi a x = true) (h2 : wi x c = true) (h : stl F x = true) : stl F a = true ∨ stl F c = true := by
  unfold stl at h ⊢
  rw [List.any_eq_true] at h
  obtain ⟨p, hp, h⟩ := h
  cases hb : p.2 with
  | true =>
    rw [hb] at h
    right
    rw [List.any_eq_true]
    refine ⟨p, hp, ?_⟩
    rw [hb]
    exact sb_trans _ _ _ (by rw [hF p hp, hx]) (by rw [hx, hc]) h h2
  | false =>
    rw [hb] at h
    left
    rw [List.any_eq_true]
    refine ⟨p, hp, ?_⟩
    rw [hb]
    exact sb_trans _ _ _ (by rw [ha, hx]) (by rw [hx, hF p hp]) h1 h
theorem few_open {n : Nat} {F : Asks} (hF : ∀ p ∈ F, p.1.length = n) (prev : List (List Nat)) (hp : ∀ x ∈ prev, x.length = n ∧ stl F x = true) : ∀ (r : List (List Nat)), (∀ s ∈ r, s.length = n) → chainB r = true → tripB prev r = true → (r.filter fun s => !stl F s).length ≤ min 2 r.length
  | [], _, _, _ => by simp
  | [a], _, _, _ => by
    have := List.length_filter_le (fun s => !stl F s) [a]
    simp at this ⊢
    omega
  | a :: b :: t, hl, hc, ht => by
    have hlen : min 2 (a :: b :: t).length = 2 := by simp
    rw [hlen]
    have ih := few_open hF prev hp (b :: t) (fun s hs => hl s (List.mem_cons_of_mem _ hs))
    have hc2 : chainB (b :: t) = true := by simp only [chainB, Bool.and_eq_true] at hc; exact hc.2
    have ht2 : tripB prev (b :: t) = true := by
      cases t with
      | nil => rfl
      | cons c t => simp only [tripB, Bool.and_eq_true] at ht; exact ht.2
    have ih := ih hc2 ht2
    by_cases ha : stl F a = true
    · rw [List.filter_cons, if_neg (by rw [ha]; simp)]
      simp only [List.length_cons] at ih
      omega
    · rw [List.filter_cons, if_pos (by simpa using ha)]
      -- behind a settled one all are settled
      have key : ∀ (x : List Nat) (u : List (List Nat)), (∀ s ∈ x :: u, s.length = n) → wi a x = true → chainB (x :: u) = true → stl F x = true → (∀ s ∈ x :: u, stl F s = true) := by
        intro x u hxl hax hxc hx s hs
        have hal : a.length = n := hl a (List.mem_cons_self ..)
        rcases List.mem_cons.1 hs with rfl | hs
        · exact hx
        · have hxs := chain_le n u x hxl hxc s hs
          rcases stl_between hF hal (hxl x (List.mem_cons_self ..)) (hxl s (List.mem_cons_of_mem _ hs)) hax hxs hx with h | h
          · exact absurd h ha
          · exact h
      have hab : wi a b = true := by simp only [chainB, Bool.and_eq_true] at hc; exact hc.1
      have none_of : ∀ l : List (List Nat), (∀ s ∈ l, stl F s = true) → (l.filter fun s => !stl F s) = [] := by
        intro l h
        rw [List.filter_eq_nil_iff]
        intro s hs
        simp [h s hs]
      by_cases hb : stl F b = true
      · rw [none_of (b :: t) (key b t (fun s hs => hl s (List.mem_cons_of_mem _ hs)) hab hc2 hb)]
        simp
      · rw [List.filter_cons, if_pos (by simpa using hb)]
        cases t with
        | nil => simp
        | cons c t =>
          have hcs : stl F c = true := by
            simp only [tripB, Bool.and_eq_true, List.any_eq_true] at ht
            obtain ⟨x, hx, h1, h2⟩ := ht.1
            rcases stl_between hF (hl a (by simp)) (hp x hx).1 (hl c (by simp)) h1 h2 (hp x hx).2 with h | h
            · exact absurd h ha
            · exact h
          have hc3 : chainB (c :: t) = true := by simp only [chainB, Bool.and_eq_true] at hc2; exact hc2.2
          have hac : wi a c = true := chain_le n (b :: c :: t) a hl hc c (by simp)
          rw [none_of (c :: t) (key c t (fun s hs => hl s (List.mem_cons_of_mem _ (List.mem_cons_of_mem _ hs))) hac hc3 hcs)]
          simp
theorem asked_sub (ss : List (List Nat)) (F : Asks) : ∀ (r : List (List Nat)) (X : Asks), ∃ Y : Asks, lrnA ss (F ++ X) r = F ++ X ++ Y ∧ (Y.map (·.1)).Sublist (r.filter fun s => !stl F s)
  | [], X => ⟨[], by simp [lrnA], by simp⟩
  | s :: r, X => by
    rw [lrnA]
    by_cases h : stl (F ++ X) s = true
    · rw [if_pos h]
      obtain ⟨Y, h1, h2⟩ := asked_sub ss F r X
      refine ⟨Y, h1, h2.trans ?_⟩
      exact (List.sublist_cons_self s r).filter _
    · rw [if_neg h]
      obtain ⟨Y, h1, h2⟩ := asked_sub ss F r (X ++ [(s, rl ss s)])
      refine ⟨(s, rl ss s) :: Y, by rw [← List.append_assoc] at h1; rw [h1]; simp, ?_⟩
      have hF : stl F s = false := by
        rw [stl_app] at h
        simp at h
        exact h.1
      rw [List.filter_cons, if_pos (by rw [hF]; rfl), List.map_cons]
      exact h2.cons_cons s
theorem count_rows (ss : List (List Nat)) (n : Nat) : ∀ (rs : List (List (List Nat))) (prev : List (List Nat)) (F : Asks), (∀ r ∈ rs, ∀ s ∈ r, s.length = n) → (∀ p ∈ F, p.1.length = n) → (∀ x ∈ prev, x.length = n ∧ stl F x = true) → hansA prev rs = true →
    (lrnA ss F rs.flatten).length ≤ F.length + sum2 rs
  | [], prev, F, _, _, _, _ => by simp [lrnA, sum2]
  | r :: rs, prev, F, hl, hF, hp, hh => by
    simp only [hansA, Bool.and_eq_true] at hh
    obtain ⟨⟨h1, h2⟩, h3⟩ := hh
    have hlr := hl r (List.mem_cons_self ..)
    rw [List.flatten_cons, lrnA_app]
    have hf := few_open hF prev hp r hlr h1 h2
    obtain ⟨Y, e1, e2⟩ := asked_sub ss F r []
    simp only [List.append_nil] at e1
    have hY : Y.length ≤ min 2 r.length := by
      have := e2.length_le
      rw [List.length_map] at this
      omega
    have hm : ∀ p ∈ lrnA ss F r, p.1.length = n := fun p hp => by
      rcases lrnA_mem ss r F p hp with h | h
      · exact hF p h
      · exact hlr _ h.1
    have ih := count_rows ss n rs (prev ++ r) (lrnA ss F r) (fun q hq => hl q (List.mem_cons_of_mem _ hq)) hm (by
      intro x hx
      rcases List.mem_append.1 hx with hx | hx
      · exact ⟨(hp x hx).1, lrnA_mono ss r F x (hp x hx).2⟩
      · exact ⟨hlr x hx, lrnA_all ss r F x hx⟩) h3
    rw [sum2]
    rw [e1, List.length_append] at ih
    rw [e1]
    omega
/-! ### the rows of a length -/
def rowT (n k : Nat) : List (List Nat) := (List.range ((lr (unrank n 0 k) 0 [] []).1.length + 1)).map fun m => ws m (lr (unrank n 0 k) 0 [] []).1 0 (unrank n 0 k)
def insR (x : List (List Nat)) : List (List (List Nat)) → List (List (List Nat))
  | [] => [x]
  | y :: r => if x.length ≤ y.length then x :: y :: r else y :: insR x r
def sortR : List (List (List Nat)) → List (List (List Nat))
  | [] => []
  | x :: r => insR x (sortR r)
def RR (n : Nat) : List (List (List Nat)) := sortR ((List.range (C n (n / 2))).map (rowT n))
theorem insR_mem (x : List (List Nat)) : ∀ (l : List (List (List Nat))) (y : List (List Nat)), y ∈ insR x l ↔ y = x ∨ y ∈ l
  | [], y => by simp [insR]
  | z :: l, y => by
    rw [insR]
    split
    · simp
    · rw [List.mem_cons, insR_mem x l y, List.mem_cons]
      constructor
      · rintro (h | h | h)
        · exact .inr (.inl h)
        · exact .inl h
        · exact .inr (.inr h)
      · rintro (h | h | h)
        · exact .inr (.inl h)
        · exact .inl h
        · exact .inr (.inr h)
theorem sortR_mem : ∀ (l : List (List (List Nat))) (y : List (List Nat)), y ∈ sortR l ↔ y ∈ l
  | [], y => by simp [sortR]
  | x :: l, y => by rw [sortR, insR_mem, sortR_mem l, List.mem_cons]
theorem rowT_fam {T : Nat → List Nat} {P : List Nat} (h : Fam T P) {n k : Nat} (hn : (T 0).length = n) (hk : rank (T 0) 0 = k) : rowT n k = (List.range (P.length + 1)).map T := by
  have hu : unrank n 0 k = T 0 := by rw [← hn, ← hk]; exact (rank_ok (T 0) 0 h.valid).2
  unfold rowT
  rw [hu, h.lr 0]
  simp only [List.drop_zero]
  apply List.map_congr_left
  intro m _
  exact h.ws m 0
theorem rowT_all (n : Nat) (hn : n ≤ 200) (s : List Nat) (hs : Ch s) (hl : s.length = n) : s ∈ (RR n).flatten := by
  obtain ⟨T, P, m, hF, hm, e⟩ := fam_ex s hs
  have h0 : (T 0).length = n := by rw [← hF.len m, e, hl]
  have hr := (rank_ok (T 0) 0 hF.valid).1
  rw [h0, N_C n hn] at hr
  rw [List.mem_flatten]
  refine ⟨rowT n (rank (T 0) 0), ?_, ?_⟩
  · unfold RR
    rw [sortR_mem, List.mem_map]
    exact ⟨_, List.mem_range.2 hr, rfl⟩
  · rw [rowT_fam hF h0 rfl, List.mem_map]
    exact ⟨m, List.mem_range.2 (by omega), e⟩
theorem RR_ok (n : Nat) (hn : n ≤ 200) : ∀ r ∈ RR n, ∀ s ∈ r, Ch s ∧ s.length = n := by
  intro r hr s hs
  unfold RR at hr
  rw [sortR_mem, List.mem_map] at hr
  obtain ⟨k, hk, rfl⟩ := hr
  have hk := List.mem_range.1 hk
  rw [← N_C n hn] at hk
  obtain ⟨T, P, hF, h1, h2⟩ := fam_rank n k hk
  rw [rowT_fam hF h1 h2, List.mem_map] at hs
  obtain ⟨m, _, rfl⟩ := hs
  exact ⟨hF.ch m, by rw [hF.len m, h1]⟩
theorem hans_all : ∀ n, n ≤ 8 → hansA [] (RR n) = true ∧ sum2 (RR n) = C n (n / 2) + (if 0 < n then C n (n / 2 + 1) else 0) := by
  intro n hn
  have : n = 0 ∨ n = 1 ∨ n = 2 ∨ n = 3 ∨ n = 4 ∨ n = 5 ∨ n = 6 ∨ n = 7 ∨ n = 8 := by omega
  rcases this with h | h | h | h | h | h | h | h | h <;> subst h <;> decide +kernel
def lrn (n : Nat) (ss : List (List Nat)) : Asks := lrnA ss [] (RR n).flatten
theorem lrn_count (n : Nat) (hn : n ≤ 8) (ss : List (List Nat)) : (lrn n ss).length ≤ C n (n / 2) + (if 0 < n then C n (n / 2 + 1) else 0) := by
  obtain ⟨h1, h2⟩ := hans_all n hn
  have := count_rows ss n (RR n) [] [] (fun r hr s hs => (RR_ok n (by omega) r hr s hs).2) (by simp) (by simp) h1
  rw [← h2]
  unfold lrn
  simpa using this
theorem lrn_ok (n : Nat) (hn : n ≤ 8) (ss : List (List Nat)) : ∀ p ∈ lrn n ss, Ch p.1 ∧ p.1.length = n ∧ p.2 = rl ss p.1 := by
  intro p hp
  rcases lrnA_mem ss _ [] p hp with h | h
  · cases h
  · obtain ⟨r, hr, hs⟩ := List.mem_flatten.1 h.1
    have := RR_ok n (by omega) r hr _ hs
    exact ⟨this.1, this.2, h.2⟩
theorem lrn_all (n : Nat) (hn : n ≤ 8) (ss : List (List Nat)) (s : List Nat) (hs : Ch s) (hl : s.length = n) : stl (lrn n ss) s = true := lrnA_all ss _ [] s (rowT_all n (by omega) s hs hl)
theorem lrn_uns (n : Nat) (ss : List (List Nat)) : Uns [] (lrn n ss) := lrnA_uns ss _ [] trivial
end Pg
namespace Pg
open Mc PySem Th
def SSettled (F : Fn) : Prop := ∀ (A B : List Nat) (x : Nat), A.length ≤ 1000 → B.length ≤ 1000 → F [.vw (nI A), .vw (nI B), .fz (.int x)] = some (.val (.bl ((A.any fun m => decide (m &&& x = m)) || B.any fun m => decide (x &&& m = x))))
theorem is_settled_ok (G : Gm) (F17) (g17 : G 17 = some F17) (s17 : SHolds F17) : SSettled (run G 3 4 p_is_settled) := by
  intro A B x hA hB
  refine run_ret [some (.vw (nI A)), some (.vw (nI B)), some (.fz (.int x)), none] rfl rfl ?_
  refine q_ret (q_rv _ (q_orB _ _ (q_bi1 (.fresh (A.map fun m => .bl (decide (m &&& x = m)))) _ ?_ ?_) fun _ => q_orL _ (q_bi1 (.fresh (B.map fun m => .bl (decide (x &&& m = x)))) _ ?_ ?_)))
  · refine ev_lc_m A (fun (m : Nat) => D.int (m : Int)) _ (by simp) (by rw [LN]; omega) ?_
    intro m hm
    refine ⟨_, rfl, ?_⟩
    simp [g17, s17 m x]
  · simp only [Rd2, biD, blsD_map, Option.map_some, any_map]
  · refine ev_lc_m B (fun (m : Nat) => D.int (m : Int)) _ (by simp) (by rw [LN]; omega) ?_
    intro m hm
    refine ⟨_, rfl, ?_⟩
    simp [g17, s17 x m]
  · simp only [Rd2, biD, blsD_map, Option.map_some, any_map]
def yesF (F : Asks) : List (List Nat) := (F.filter fun p => p.2).map (·.1)
def noF (F : Asks) : List (List Nat) := (F.filter fun p => !p.2).map (·.1)
abbrev askD (F : Asks) : List D := F.map fun p => .tup [.str p.1, .bl p.2]
theorem yesF_len (F : Asks) : (yesF F).length ≤ F.length := by
  unfold yesF; rw [List.length_map]; exact List.length_filter_le _ _
theorem noF_len (F : Asks) : (noF F).length ≤ F.length := by
  unfold noF; rw [List.length_map]; exact List.length_filter_le _ _
theorem stl_marks {n : Nat} (f : List Nat → Nat) (hf : ∀ s t : List Nat, s.length = n → t.length = n → (decide (f s &&& f t = f s)) = wi s t) : ∀ (F : Asks) (s : List Nat), (∀ p ∈ F, p.1.length = n) → s.length = n →
    ((((yesF F).map f).any fun m => decide (m &&& f s = m)) || ((noF F).map f).any fun m => decide (f s &&& m = f s)) = stl F s
  | [], s, _, _ => rfl
  | p :: F, s, h, hs => by
    have ih := stl_marks f hf F s (fun q hq => h q (List.mem_cons_of_mem _ hq)) hs
    have hp := h p (List.mem_cons_self ..)
    unfold stl yesF noF at ih ⊢
    rw [List.any_cons, ← ih]
    cases hb : p.2 with
    | true =>
      simp only [List.filter_cons, hb, Bool.not_true, Bool.false_eq_true, if_true, if_false, List.map_cons, List.any_cons]
      rw [hf p.1 s hp hs, Bool.or_assoc]
    | false =>
      simp only [List.filter_cons, hb, Bool.not_false, Bool.false_eq_true, if_true, if_false, List.map_cons, List.any_cons]
      rw [hf s p.1 hs hp, ← Bool.or_assoc, ← Bool.or_assoc, Bool.or_comm (wi s p.1)]
theorem rl_marks {n : Nat} (f : List Nat → Nat) (hf : ∀ s t : List Nat, s.length = n → t.length = n → (decide (f s &&& f t = f s)) = wi s t) (ss : List (List Nat)) (s : List Nat) (h : ∀ t ∈ ss, t.length = n) (hs : s.length = n) :
    ((ss.map f).any fun m => decide (m &&& f s = m)) = rl ss s := by
  unfold rl
  rw [List.any_map, Bool.eq_iff_iff, List.any_eq_true, List.any_eq_true]
  constructor
  · rintro ⟨t, ht, h1⟩; exact ⟨t, ht, by rw [← hf t s (h t ht) hs]; exact h1⟩
  · rintro ⟨t, ht, h1⟩; exact ⟨t, ht, by show decide _ = true; rw [hf t s (h t ht) hs]; exact h1⟩
def bLn : Ss := (.cons (.asg 10 false (.call 16 (.cons (.slot 9) .nil))) (.cons (.ife (.not (.call 25 (.cons (.slot 4) (.cons (.slot 5) (.cons (.slot 10) .nil))))) (.cons (.asg 11 false (.call 23 (.cons (.slot 2) (.cons (.slot 10) .nil)))) (.cons (.ife (.slot 11) (.cons (.app 4 (.slot 10)) .nil) (.cons (.app 5 (.slot 10)) .nil)) (.cons (.app 6 (.tup (.cons (.slot 9) (.cons (.slot 11) .nil)))) .nil))) .nil) .nil))
def bLn2 : Ss := (.cons (.for (.nm 9) (.seq (.slot 7)) bLn) .nil)
section
variable (G : Gm) (F16 F23 F25 : Fn) (g16 : G 16 = some F16) (g23 : G 23 = some F23) (g25 : G 25 = some F25) (s16 : SMarks F16) (s23 : SSaysYes F23) (s25 : SSettled F25)
include g16 g23 g25 s16 s23 s25
theorem ln_body (n : Nat) (hn : n ≤ 200) (ss : List (List Nat)) (hss : ∀ t ∈ ss, t.length = n) (hsl : ss.length ≤ 1000) (F : Asks) (hF : ∀ p ∈ F, p.1.length = n) (hl : F.length < 1000) (s : List Nat) (hs : s.length = n) (A0 A1 A3 A7 A8 x10 x11 : Option Sl) :
    ∃ y11, execs G bLn [A0, A1, some (.fz (.lst (nI (ss.map mk)))), A3, some (.own (nI ((yesF F).map mk))), some (.own (nI ((noF F).map mk))), some (.own (askD F)), A7, A8, some (.fz (.str s)), x10, x11]
      = some (.next [A0, A1, some (.fz (.lst (nI (ss.map mk)))), A3, some (.own (nI ((yesF (if stl F s then F else F ++ [(s, rl ss s)])).map mk))), some (.own (nI ((noF (if stl F s then F else F ++ [(s, rl ss s)])).map mk))), some (.own (askD (if stl F s then F else F ++ [(s, rl ss s)]))), A7, A8, some (.fz (.str s)), some (.fz (.int (mk s))), y11]) := by
  have hm : ∀ s t : List Nat, s.length = n → t.length = n → (decide (mk s &&& mk t = mk s)) = wi s t := fun s t h1 h2 => mk_and s t (by rw [h1, h2])
  have hy := yesF_len F
  have hno := noF_len F
  have e25 := s25 ((yesF F).map mk) ((noF F).map mk) (mk s) (by rw [List.length_map]; omega) (by rw [List.length_map]; omega)
  rw [stl_marks mk hm F s hF hs] at e25
  have e23 := s23 (ss.map mk) (mk s) (by rw [List.length_map]; exact hsl)
  rw [rl_marks mk hm ss s hss hs] at e23
  have e16 := s16 s (by omega)
  rw [bLn]
  have q1 : exec G (.asg 10 false (.call 16 (.cons (.slot 9) .nil))) [A0, A1, some (.fz (.lst (nI (ss.map mk)))), A3, some (.own (nI ((yesF F).map mk))), some (.own (nI ((noF F).map mk))), some (.own (askD F)), A7, A8, some (.fz (.str s)), x10, x11] = some (.next [A0, A1, some (.fz (.lst (nI (ss.map mk)))), A3, some (.own (nI ((yesF F).map mk))), some (.own (nI ((noF F).map mk))), some (.own (askD F)), A7, A8, some (.fz (.str s)), some (.fz (.int (mk s))), x11]) := q_asg _ (q_call [.fz (.str s)] _ _ (by simp) g16 e16 rfl) rfl
  have q2 : ev G (.call 25 (.cons (.slot 4) (.cons (.slot 5) (.cons (.slot 10) .nil)))) [A0, A1, some (.fz (.lst (nI (ss.map mk)))), A3, some (.own (nI ((yesF F).map mk))), some (.own (nI ((noF F).map mk))), some (.own (askD F)), A7, A8, some (.fz (.str s)), some (.fz (.int (mk s))), x11] = some (.val (.bl (stl F s))) := q_call _ _ _ (by simp) g25 e25 rfl
  have hl2 : (2 : Nat) ≤ LINE := by rw [LN]; omega
  have k1 : (nI ((yesF F).map mk)).length < LINE := by rw [LN, List.length_map, List.length_map]; omega
  have k2 : (nI ((noF F).map mk)).length < LINE := by rw [LN, List.length_map, List.length_map]; omega
  have k3 : (askD F).length < LINE := by rw [LN, List.length_map]; omega
  cases hst : stl F s with
  | true =>
    rw [hst] at q2
    refine ⟨x11, ?_⟩
    simp only [if_true]
    exact q_next _ q1 (q_next _ (q_else (q_not true q2) (execs0 _ _)) (execs0 _ _))
  | false =>
    rw [hst] at q2
    refine ⟨some (.fz (.bl (rl ss s))), ?_⟩
    simp only [Bool.false_eq_true, if_false]
    refine q_next _ q1 (q_next _ (q_then (q_not false q2) ?_) (execs0 _ _))
    refine q_next _ (q_asg _ (q_call [.fz (.lst (nI (ss.map mk))), .fz (.int (mk s))] _ _ (by simp) g23 e23 rfl) rfl) ?_
    cases hr : rl ss s with
    | true =>
      refine q_next _ (q_then (by simp) (q_next _ (q_app _ (.val (.int (mk s))) _ rfl (by simp) rfl k1) (execs0 _ _))) ?_
      refine q_next _ (q_app _ (.val (.tup [.str s, .bl true])) _ rfl (by simp [hl2]) rfl k3) ?_
      rw [execs0]
      simp [yesF, noF]
    | false =>
      refine q_next _ (q_else (by simp) (q_next _ (q_app _ (.val (.int (mk s))) _ rfl (by simp) rfl k2) (execs0 _ _))) ?_
      refine q_next _ (q_app _ (.val (.tup [.str s, .bl false])) _ rfl (by simp [hl2]) rfl k3) ?_
      rw [execs0]
      simp [yesF, noF]
theorem ln_row (n : Nat) (hn : n ≤ 200) (ss : List (List Nat)) (hss : ∀ t ∈ ss, t.length = n) (hsl : ss.length ≤ 1000) (A0 A1 A3 A7 A8 : Option Sl) : ∀ (r : List (List Nat)) (F : Asks) (x9 x10 x11 : Option Sl), (∀ s ∈ r, s.length = n) → (∀ p ∈ F, p.1.length = n) → F.length + r.length ≤ 1000 →
    ∃ y9 y10 y11, forLoop (bindT (.nm 9)) (execs G bLn) (sL r) [A0, A1, some (.fz (.lst (nI (ss.map mk)))), A3, some (.own (nI ((yesF F).map mk))), some (.own (nI ((noF F).map mk))), some (.own (askD F)), A7, A8, x9, x10, x11]
      = some (.next [A0, A1, some (.fz (.lst (nI (ss.map mk)))), A3, some (.own (nI ((yesF (lrnA ss F r)).map mk))), some (.own (nI ((noF (lrnA ss F r)).map mk))), some (.own (askD (lrnA ss F r))), A7, A8, y9, y10, y11])
  | [], F, x9, x10, x11, _, _, _ => ⟨x9, x10, x11, rfl⟩
  | s :: r, F, x9, x10, x11, hr, hF, hl => by
    simp only [List.length_cons] at hl
    have hs := hr s (List.mem_cons_self ..)
    obtain ⟨y11, e⟩ := ln_body G F16 F23 F25 g16 g23 g25 s16 s23 s25 n hn ss hss hsl F hF (by omega) s hs A0 A1 A3 A7 A8 x10 x11
    have hF' : ∀ p ∈ (if stl F s then F else F ++ [(s, rl ss s)]), p.1.length = n := by
      intro p hp
      split at hp
      · exact hF p hp
      · rcases List.mem_append.1 hp with hp | hp
        · exact hF p hp
        · simp at hp; subst hp; exact hs
    have hl' : (if stl F s then F else F ++ [(s, rl ss s)]).length + r.length ≤ 1000 := by
      split
      · omega
      · simp; omega
    obtain ⟨y9, y10, y12, ih⟩ := ln_row n hn ss hss hsl A0 A1 A3 A7 A8 r _ (some (.fz (.str s))) (some (.fz (.int (mk s)))) y11 (fun t ht => hr t (List.mem_cons_of_mem _ ht)) hF' hl'
    refine ⟨y9, y10, y12, ?_⟩
    rw [sL, List.map_cons, forLoop, bindT1]
    simp only [setE1, List.set_cons_zero, List.set_cons_succ]
    rw [e]
    simp only []
    rw [lrnA]
    exact ih
theorem ln_rows (n : Nat) (hn : n ≤ 200) (ss : List (List Nat)) (hss : ∀ t ∈ ss, t.length = n) (hsl : ss.length ≤ 1000) (A0 A1 A3 A8 : Option Sl) : ∀ (rs : List (List (List Nat))) (F : Asks) (x7 x9 x10 x11 : Option Sl), (∀ r ∈ rs, ∀ s ∈ r, s.length = n) → (∀ p ∈ F, p.1.length = n) → F.length + rs.flatten.length ≤ 1000 →
    ∃ y7 y9 y10 y11, forLoop (bindT (.nm 7)) (execs G bLn2) (rs.map fun r => .lst (sL r)) [A0, A1, some (.fz (.lst (nI (ss.map mk)))), A3, some (.own (nI ((yesF F).map mk))), some (.own (nI ((noF F).map mk))), some (.own (askD F)), x7, A8, x9, x10, x11]
      = some (.next [A0, A1, some (.fz (.lst (nI (ss.map mk)))), A3, some (.own (nI ((yesF (lrnA ss F rs.flatten)).map mk))), some (.own (nI ((noF (lrnA ss F rs.flatten)).map mk))), some (.own (askD (lrnA ss F rs.flatten))), y7, A8, y9, y10, y11])
  | [], F, x7, x9, x10, x11, _, _, _ => ⟨x7, x9, x10, x11, rfl⟩
  | r :: rs, F, x7, x9, x10, x11, hr, hF, hl => by
    rw [List.flatten_cons, List.length_append] at hl
    have hrr := hr r (List.mem_cons_self ..)
    obtain ⟨y9, y10, y11, e⟩ := ln_row G F16 F23 F25 g16 g23 g25 s16 s23 s25 n hn ss hss hsl A0 A1 A3 (some (.fz (.lst (sL r)))) A8 r F x9 x10 x11 hrr hF (by omega)
    have hF' : ∀ p ∈ lrnA ss F r, p.1.length = n := fun p hp => by
      rcases lrnA_mem ss r F p hp with h | h
      · exact hF p h
      · exact hrr _ h.1
    have hlen : (lrnA ss F r).length ≤ F.length + r.length := by
      obtain ⟨Y, e1, e2⟩ := asked_sub ss F r []
      simp only [List.append_nil] at e1
      have h1 := e2.length_le
      have h2 := List.length_filter_le (fun s => !stl F s) r
      rw [List.length_map] at h1
      rw [e1, List.length_append]
      omega
    obtain ⟨z7, z9, z10, z11, ih⟩ := ln_rows n hn ss hss hsl A0 A1 A3 A8 rs (lrnA ss F r) (some (.fz (.lst (sL r)))) y9 y10 y11 (fun q hq => hr q (List.mem_cons_of_mem _ hq)) hF' (by omega)
    refine ⟨z7, z9, z10, z11, ?_⟩
    rw [List.map_cons, forLoop, bindT1]
    simp only [setE1, List.set_cons_zero, List.set_cons_succ]
    have eb : execs G bLn2 [A0, A1, some (.fz (.lst (nI (ss.map mk)))), A3, some (.own (nI ((yesF F).map mk))), some (.own (nI ((noF F).map mk))), some (.own (askD F)), some (.fz (.lst (sL r))), A8, x9, x10, x11] = some (.next [A0, A1, some (.fz (.lst (nI (ss.map mk)))), A3, some (.own (nI ((yesF (lrnA ss F r)).map mk))), some (.own (nI ((noF (lrnA ss F r)).map mk))), some (.own (askD (lrnA ss F r))), some (.fz (.lst (sL r))), A8, y9, y10, y11]) := by
      rw [bLn2]
      exact q_next _ (q_for _ (by simp) (by simp) e) (execs0 _ _)
    rw [eb]
    simp only []
    rw [List.flatten_cons, lrnA_app]
    exact ih
end
/-! the rows in order -/
abbrev dR (r : List (List Nat)) : D := .lst (sL r)
theorem lensD_rows : ∀ rs : List (List (List Nat)), lensD (rs.map dR) = some (rs.map fun r => (r.length, dR r))
  | [] => rfl
  | r :: rs => by
    rw [List.map_cons, lensD, lensD_rows rs]
    simp [lenD]
theorem insL_rows (x : List (List Nat)) : ∀ rs : List (List (List Nat)), insL (x.length, dR x) (rs.map fun r => (r.length, dR r)) = (insR x rs).map fun r => (r.length, dR r)
  | [] => rfl
  | y :: rs => by
    rw [List.map_cons, insL, insR]
    split
    · simp
    · rw [insL_rows x rs]; simp
theorem sortL_rows : ∀ rs : List (List (List Nat)), (sortL (rs.map fun r => (r.length, dR r))) = (sortR rs).map fun r => (r.length, dR r)
  | [] => rfl
  | r :: rs => by rw [List.map_cons, sortL, sortL_rows rs, insL_rows]; rfl
theorem RR_len : ∀ n, n ≤ 8 → (RR n).flatten.length ≤ 256 := by
  intro n hn
  have : n = 0 ∨ n = 1 ∨ n = 2 ∨ n = 3 ∨ n = 4 ∨ n = 5 ∨ n = 6 ∨ n = 7 ∨ n = 8 := by omega
  rcases this with h | h | h | h | h | h | h | h | h <;> subst h <;> decide +kernel
def SLearnt (F : Fn) : Prop := ∀ (n : Nat) (ss : List (List Nat)), n ≤ 8 → FamOk n ss → fw (ss.map mk) = none → F [.fz (.int n), fS ss] = some (.fresh (askD (lrn n ss)))
theorem ev_rows (G : Gm) (F13 F14 : Fn) (g13 : G 13 = some F13) (g14 : G 14 = some F14) (s13 : SRows F13) (s14 : SRowBy F14) (n : Nat) (hn : n ≤ 8) (env : Mc.Env) (hlen : env.length = 12) (h0 : env[0]? = some (some (.fz (.int n)))) :
    ev G (.sortl (.lc (.call 14 (.cons (.slot 0) (.cons (.slot 8) .nil))) (.nm 8) (.rng1 (.call 13 (.cons (.slot 0) .nil))) .non)) env = some (.fresh ((RR n).map dR)) := by
  have hC : C n (n / 2) ≤ 256 := Nat.le_trans (C_pow _ _) (Nat.pow_le_pow_right (by decide) hn)
  have e : ev G (.lc (.call 14 (.cons (.slot 0) (.cons (.slot 8) .nil))) (.nm 8) (.rng1 (.call 13 (.cons (.slot 0) .nil))) .non) env = some (.fresh (((List.range (C n (n / 2))).map (rowT n)).map dR)) := by
    rw [List.map_map]
    refine ev_lc_m (List.range (C n (n / 2))) (fun (k : Nat) => D.int (k : Int)) _ ?_ (by rw [List.length_range, LN]; omega) ?_
    · rw [evS_rng1, q_call [.fz (.int n)] _ _ (by simp [h0]) g13 (s13 n (by omega)) rfl]
      simp only []
      rw [if_pos (small62_nat _ (by omega)), Int.toNat_natCast, rangeD0]
    · intro k hk
      have hk := List.mem_range.1 hk
      rw [← N_C n (by omega)] at hk
      obtain ⟨T, P, hF, h1, h2⟩ := fam_rank n k hk
      have e14 := s14 hF n k (by omega) h1 h2
      refine ⟨_, bindT1 _ _ _, ?_⟩
      have hA : At 12 [(0, .fz (.int n))] (wipeE env (Tg.nm 8).slots) := by
        have h0 : At 12 [(0, .fz (.int n))] env := ⟨hlen, by simpa using h0⟩
        exact h0.keep (i := 8) (v := none) (by simp)
      have hB := hA.put (i := 8) (s := .fz (.int k)) (by decide) (by simp)
      rw [setE1]
      generalize (wipeE env (Tg.nm 8).slots).set 8 (some (.fz (.int k))) = env1 at hB
      rw [q_call [.fz (.int n), .fz (.int k)] _ _ (by rw [evA1, q_slot _ (hB.at 0 rfl), evA1, q_slot _ (hB.at 8 rfl), evA0]; rfl) g14 e14 rfl]
      simp only [Option.bind_some, Rf2]
      rw [Function.comp, rowT_fam hF h1 h2]
      simp [dR, sL, Tf]
  rw [ev_sortl, e]
  simp only [Rd2, lensD_rows]
  rw [if_pos (by rw [List.length_map, List.length_map, List.length_range]; omega), sortL_rows, List.map_map]
  rfl
theorem learnt_ok (G : Gm) (F9 F13 F14 F16 F22 F23 F25 : Fn) (g9 : G 9 = some F9) (g13 : G 13 = some F13) (g14 : G 14 = some F14) (g16 : G 16 = some F16) (g22 : G 22 = some F22) (g23 : G 23 = some F23) (g25 : G 25 = some F25)
    (s9 : SIsNumber F9) (s13 : SRows F13) (s14 : SRowBy F14) (s16 : SMarks F16) (s22 : SCheckLeasts F22) (s23 : SSaysYes F23) (s25 : SSettled F25) : SLearnt (run G 2 12 p_learnt) := by
  intro n ss hn h hf
  have hn2 : n ≤ 200 := by omega
  refine run_ret [some (.fz (.int n)), some (fS ss), none, none, none, none, none, none, none, none, none, none] rfl rfl ?_
  refine q_next _ (q_else (q_not true (q_call [.fz (.int n), .fz (.int 0), .fz (.int 8)] _ _ (by simp) g9 (by rw [s9, decide_eq_true (by omega)]) rfl)) (execs0 _ _)) ?_
  refine q_next _ (q_ex _ (q_call [fS ss] _ _ (by simp) g22 (s22 n ss h hf) rfl)) ?_
  refine q_next _ (q_else ?_ (execs0 _ _)) ?_
  · have e := ne_nil ss fun t ht => (h.ok t ht).1
    cases ss with
    | nil => exact q_and0 (q_cmp (.val (.lst [])) (.fresh []) false (by simp) (by simp) (by simpa using e))
    | cons t r =>
      have ht : t.length ≤ LINE := by rw [LN]; have := h.le t (List.mem_cons_self ..); omega
      have el : t.length = n := (h.ok t (List.mem_cons_self ..)).2
      refine q_and1 (q_cmp (.val (.lst (sL (t :: r)))) (.fresh []) true (by simp) (by simp) (by simpa using e)) ?_
      refine q_and0 (q_cmp (.val (.int t.length)) (.val (.int n)) false ?_ (by simp) (by simp [cmpD, eqD, el]))
      simp [subD, L2.atI, L2.ixN, biD, ht]
  have e1 : ev G (.lc (.call 16 (.cons (.slot 3) .nil)) (.nm 3) (.seq (.slot 1)) .non) [some (.fz (.int n)), some (fS ss), none, none, none, none, none, none, none, none, none, none] = some (.fresh (nI (ss.map mk))) := by
    rw [nI, List.map_map]
    refine ev_lc_m ss D.str _ (by simp) (by rw [LN]; have := h.few; omega) ?_
    intro t hm
    refine ⟨_, rfl, ?_⟩
    simp [g16, s16 t (h.le t hm)]
  refine q_next [some (.fz (.int n)), some (fS ss), some (.fz (.lst (nI (ss.map mk)))), none, none, none, none, none, none, none, none, none] (q_asg _ e1 rfl) ?_
  refine q_next [some (.fz (.int n)), some (fS ss), some (.fz (.lst (nI (ss.map mk)))), none, some (.own (nI ((yesF []).map mk))), some (.own (nI ((noF []).map mk))), some (.own (askD [])), none, none, none, none, none] (by simp [yesF, noF]) ?_
  obtain ⟨y7, y9, y10, y11, e2⟩ := ln_rows G F16 F23 F25 g16 g23 g25 s16 s23 s25 n hn2 ss (fun t ht => (h.ok t ht).2) h.few (some (.fz (.int n))) (some (fS ss)) none none (RR n) [] none none none none (fun r hr s hs => (RR_ok n hn2 r hr s hs).2) (by simp) (by have := RR_len n hn; simp only [List.length_nil]; omega)
  have e3 := ev_rows G F13 F14 g13 g14 s13 s14 n hn [some (.fz (.int n)), some (fS ss), some (.fz (.lst (nI (ss.map mk)))), none, some (.own (nI ((yesF []).map mk))), some (.own (nI ((noF []).map mk))), some (.own (askD [])), none, none, none, none, none] rfl rfl
  refine q_next _ (q_for _ (by rw [srcFix1, e3]) (by rw [evS_seq, e3]; rfl) e2) ?_
  refine q_ret ?_
  rw [exec_ret]
  simp [lrn]
end Pg
namespace Pg
open Mc PySem
abbrev Xn := List Sl → Option Nat
section
variable {G : Gm} {Z : Xm} {env : Mc.Env}
theorem x_stop {s ss} {c : Nat} (h : xexec G Z s env = some c) : xexecs G Z (.cons s ss) env = some c := by rw [xexecs, h]
theorem x_next {s ss} {r : Option Nat} (env' : Mc.Env) (h : xexec G Z s env = none) (h1 : exec G s env = some (.next env')) (h2 : xexecs G Z ss env' = r) : xexecs G Z (.cons s ss) env = r := by
  rw [xexecs, h, h1]; exact h2
theorem x_nil : xexecs G Z .nil env = none := by rw [xexecs]
theorem x_then {c a b} {r : Option Nat} (h : ev G c env = some (.val (.bl true))) (h2 : xexecs G Z a env = r) : xexec G Z (.ife c a b) env = r := by rw [xexec, h]; exact h2
theorem x_else {c a b} {r : Option Nat} (h : ev G c env = some (.val (.bl false))) (h2 : xexecs G Z b env = r) : xexec G Z (.ife c a b) env = r := by rw [xexec, h]; exact h2
theorem x_rais {c : Nat} {x ss} : xexecs G Z (.cons (.rais c x) ss) env = some c := x_stop (by rw [xexec])
theorem x_ex {e} {r : Option Nat} (h : xev G Z e env = r) : xexec G Z (.ex e) env = r := by rw [xexec, h]
theorem x_ret {e} {r : Option Nat} (h : xev G Z e env = r) : xexec G Z (.ret e) env = r := by rw [xexec, h]
theorem x_call {f es} {r : Option Nat} (as : List Sl) (xs : Xn) (h1 : evA G es env = some as) (h2 : Z f = some xs) (h3 : xs as = r) : xev G Z (.call f es) env = r := by
  rw [xev, xcall, h1]; simp only [h2, h3]
theorem x_ite1 {c a b} {r : Option Nat} (h : ev G c env = some (.val (.bl true))) (h2 : xev G Z a env = r) : xev G Z (.ite c a b) env = r := by rw [xev, h]; exact h2
theorem x_ite0 {c a b} {r : Option Nat} (h : ev G c env = some (.val (.bl false))) (h2 : xev G Z b env = r) : xev G Z (.ite c a b) env = r := by rw [xev, h]; exact h2
theorem xrun_of {ar n : Nat} {body : Ss} {as : List Sl} {r : Option Nat} (env : Mc.Env) (h : as.length = ar) (he : as.map some ++ List.replicate (n - as.length) none = env) (hr : xexecs G Z body env = r) : xrun G Z ar n body as = r := by
  rw [xrun, if_pos h, he, hr]
end
def NS (F0 : Fn) (d : D) : Prop := F0 [.fz d] = some (.val (.bl false))
def NN (F9 : Fn) (d : D) (lo hi : Int) : Prop := F9 [.fz d, .fz (.int lo), .fz (.int hi)] = some (.val (.bl false))
structure XSet (F0 : Fn) (X : Xn) : Prop where
  bad : ∀ d, NS F0 d → X [.fz d] = some 0
  good : ∀ s, Ok s → X [.fz (.str s)] = none
theorem check_set_x (G : Gm) (Z : Xm) (F0 : Fn) (g0 : G 0 = some F0) (s0 : SIsSet F0) : XSet F0 (xrun G Z 1 1 p_check_set) where
  bad := fun d h => xrun_of [some (.fz d)] rfl rfl (x_stop (x_then (q_not false (q_call [.fz d] _ _ (by simp) g0 h rfl)) x_rais))
  good := fun s h => xrun_of [some (.fz (.str s))] rfl rfl (x_next _ (x_else (q_not true (q_call [.fz (.str s)] _ _ (by simp) g0 (s0 s h) rfl)) x_nil) (q_else (q_not true (q_call [.fz (.str s)] _ _ (by simp) g0 (s0 s h) rfl)) (execs0 _ _)) x_nil)
def XSets (F0 : Fn) (X : Xn) : Prop := ∀ d, NS F0 d → X [.fz d] = some 0
section
variable (G : Gm) (Z : Xm) (F0 F1 : Fn) (X1 : Xn) (z1 : Z 1 = some X1) (h1 : XSet F0 X1)
include z1 h1
theorem row_x : XSets F0 (xrun G Z 1 1 p_row) := fun d h => xrun_of [some (.fz d)] rfl rfl (x_stop (x_ex (x_call [.fz d] _ (by simp) z1 (h1.bad d h))))
theorem above_x : XSets F0 (xrun G Z 1 1 p_above) := fun d h => xrun_of [some (.fz d)] rfl rfl (x_stop (x_ex (x_call [.fz d] _ (by simp) z1 (h1.bad d h))))
theorem below_x : XSets F0 (xrun G Z 1 1 p_below) := fun d h => xrun_of [some (.fz d)] rfl rfl (x_stop (x_ex (x_call [.fz d] _ (by simp) z1 (h1.bad d h))))
theorem number_of_x : XSets F0 (xrun G Z 1 7 p_number_of) := fun d h => xrun_of [some (.fz d), none, none, none, none, none, none] rfl rfl (x_stop (x_ex (x_call [.fz d] _ (by simp) z1 (h1.bad d h))))
end
structure XWithin (F0 : Fn) (X : Xn) : Prop where
  one : ∀ d e, NS F0 d → X [.fz d, .fz e] = some 0
  two : ∀ s e, Ok s → NS F0 e → X [.fz (.str s), .fz e] = some 0
  len : ∀ s t, Ok s → Ok t → s.length ≠ t.length → X [.fz (.str s), .fz (.str t)] = some 0
theorem is_within_x (G : Gm) (Z : Xm) (F0 F1 : Fn) (X1 : Xn) (g1 : G 1 = some F1) (z1 : Z 1 = some X1) (s1 : SCheckSet F1) (h1 : XSet F0 X1) : XWithin F0 (xrun G Z 2 2 p_is_within) where
  one := fun d e h => xrun_of [some (.fz d), some (.fz e)] rfl rfl (x_stop (x_ex (x_call [.fz d] _ (by simp) z1 (h1.bad d h))))
  two := fun s e hs h => xrun_of [some (.fz (.str s)), some (.fz e)] rfl rfl (x_next _ (x_ex (x_call [.fz (.str s)] _ (by simp) z1 (h1.good s hs))) (q_ex _ (q_call [.fz (.str s)] _ _ (by simp) g1 (s1 s hs) rfl)) (x_stop (x_ex (x_call [.fz e] _ (by simp) z1 (h1.bad e h)))))
  len := fun s t hs ht hl => by
    have l1 : s.length ≤ LINE := by have := hs.1; rw [LN]; omega
    have l2 : t.length ≤ LINE := by have := ht.1; rw [LN]; omega
    refine xrun_of [some (.fz (.str s)), some (.fz (.str t))] rfl rfl (x_next _ (x_ex (x_call [.fz (.str s)] _ (by simp) z1 (h1.good s hs))) (q_ex _ (q_call [.fz (.str s)] _ _ (by simp) g1 (s1 s hs) rfl)) (x_next _ (x_ex (x_call [.fz (.str t)] _ (by simp) z1 (h1.good t ht))) (q_ex _ (q_call [.fz (.str t)] _ _ (by simp) g1 (s1 t ht) rfl)) (x_stop (x_then ?_ x_rais))))
    refine q_cmp (.val (.int s.length)) (.val (.int t.length)) true (q_bi1 (.val (.str s)) _ (by simp) (by simp [biD, l1])) (q_bi1 (.val (.str t)) _ (by simp) (by simp [biD, l2])) ?_
    simp only [Rd1, cmpD, eqD, Option.map_some]
    simp
    omega
structure XLen (F9 : Fn) (X : Xn) : Prop where
  bad : ∀ d, NN F9 d 0 200 → X [.fz d] = some 1
  good : ∀ n : Nat, n ≤ 200 → X [.fz (.int n)] = none
theorem num_t (F9 : Fn) (s9 : SIsNumber F9) (n m : Nat) (h : n ≤ m) : F9 [.fz (.int n), .fz (.int 0), .fz (.int m)] = some (.val (.bl true)) := by
  rw [s9]; simp; omega
theorem check_length_x (G : Gm) (Z : Xm) (F9 : Fn) (g9 : G 9 = some F9) (s9 : SIsNumber F9) : XLen F9 (xrun G Z 1 1 p_check_length) where
  bad := fun d h => xrun_of [some (.fz d)] rfl rfl (x_stop (x_then (q_not false (q_call [.fz d, .fz (.int 0), .fz (.int 200)] _ _ (by simp) g9 h rfl)) x_rais))
  good := fun n h => xrun_of [some (.fz (.int n))] rfl rfl (x_next _ (x_else (q_not true (q_call [.fz (.int n), .fz (.int 0), .fz (.int 200)] _ _ (by simp) g9 (num_t F9 s9 n 200 h) rfl)) x_nil) (q_else (q_not true (q_call [.fz (.int n), .fz (.int 0), .fz (.int 200)] _ _ (by simp) g9 (num_t F9 s9 n 200 h) rfl)) (execs0 _ _)) x_nil)
structure XWays (F9 : Fn) (X : Xn) : Prop where
  len : ∀ d e, NN F9 d 0 200 → X [.fz d, .fz e] = some 1
  num : ∀ (n : Nat) e, n ≤ 200 → NN F9 e 0 n → X [.fz (.int n), .fz e] = some 2
structure XRowBy (F9 : Fn) (X : Xn) : Prop where
  len : ∀ d e, NN F9 d 0 200 → X [.fz d, .fz e] = some 1
  num : ∀ (n : Nat) e, n ≤ 200 → NN F9 e 0 ((C n (n / 2) : Int) - 1) → X [.fz (.int n), .fz e] = some 2
section
variable (G : Gm) (Z : Xm) (F9 F10 F11 : Fn) (X10 : Xn) (g9 : G 9 = some F9) (g10 : G 10 = some F10) (g11 : G 11 = some F11) (z10 : Z 10 = some X10) (s10 : SCheckLength F10) (s11 : SPicks F11) (h10 : XLen F9 X10)
theorem rows_x (z10 : Z 10 = some X10) (h10 : XLen F9 X10) : ∀ d, NN F9 d 0 200 → xrun G Z 1 1 p_rows [.fz d] = some 1 := fun d h => xrun_of [some (.fz d)] rfl rfl (x_stop (x_ex (x_call [.fz d] _ (by simp) z10 (h10.bad d h))))
include g9 g10 z10 s10 h10
theorem ways_x : XWays F9 (xrun G Z 2 2 p_ways) where
  len := fun d e h => xrun_of [some (.fz d), some (.fz e)] rfl rfl (x_stop (x_ex (x_call [.fz d] _ (by simp) z10 (h10.bad d h))))
  num := fun n e hn h => xrun_of [some (.fz (.int n)), some (.fz e)] rfl rfl (x_next _ (x_ex (x_call [.fz (.int n)] _ (by simp) z10 (h10.good n hn))) (q_ex _ (q_call [.fz (.int n)] _ _ (by simp) g10 (s10 n hn) rfl)) (x_stop (x_then (q_not false (q_call [.fz e, .fz (.int 0), .fz (.int n)] _ _ (by simp) g9 h rfl)) x_rais)))
include g11 s11
theorem row_by_x : XRowBy F9 (xrun G Z 2 7 p_row_by) where
  len := fun d e h => xrun_of [some (.fz d), some (.fz e), none, none, none, none, none] rfl rfl (x_stop (x_ex (x_call [.fz d] _ (by simp) z10 (h10.bad d h))))
  num := fun n e hn h => by
    refine xrun_of [some (.fz (.int n)), some (.fz e), none, none, none, none, none] rfl rfl (x_next _ (x_ex (x_call [.fz (.int n)] _ (by simp) z10 (h10.good n hn))) (q_ex _ (q_call [.fz (.int n)] _ _ (by simp) g10 (s10 n hn) rfl)) (x_stop (x_then (q_not false (q_call [.fz e, .fz (.int 0), .fz (.int ((C n (n / 2) : Int) - 1))] _ _ ?_ g9 h rfl)) x_rais)))
    have d2 : (0 : Int) < 2 ∧ (2 : Int).natAbs.log2 < 9000 := ⟨by decide, by decide⟩
    have eh : ev G (.bin .fdiv (.slot 0) (.int 2)) [some (.fz (.int n)), some (.fz e), none, none, none, none, none] = some (.val (.int (n / 2 : Nat))) := by
      refine q_bin (.val (.int n)) (.val (.int 2)) _ (by simp) (by simp) ?_
      simp only [Rd1, binD]
      rw [if_pos d2]
      simp
    rw [evA1, q_slot e rfl, evA1, ev_int, evA1, q_bin (.val (.int (C n (n / 2)))) (.val (.int 1)) (.val (.int ((C n (n / 2) : Int) - 1))) (q_call [.fz (.int n), .fz (.int (n / 2 : Nat))] _ _ (by rw [evA1, q_slot (.int n) rfl, evA1, eh, evA0]; rfl) g11 (s11 n (n / 2) hn (by omega)) rfl) (by simp) (by simp [binD]), evA0]
    rfl
end
end Pg
namespace Pg
open Mc PySem Th
structure XFam (F0 : Fn) (X : Xn) : Prop where
  nolist : ∀ d, isiD .list d = some false → X [.fz d] = some 3
  noset : ∀ (ds : List D) (b : D → Bool), (∀ e ∈ ds, F0 [.fz e] = some (.val (.bl (b e)))) → ds.all b = false → ds.length ≤ 1000 → X [.fz (.lst ds)] = some 3
  unlike : ∀ (s0 : List Nat) (ss : List (List Nat)), (∀ s ∈ s0 :: ss, Ok s) → ((s0 :: ss).any fun s => decide (s.length ≠ s0.length)) = true → (s0 :: ss).length ≤ 1000 → X [fS (s0 :: ss)] = some 3
  alike : ∀ (n : Nat) (ss : List (List Nat)), (∀ s ∈ ss, Ok s ∧ s.length = n) → (ddl [] ss).length ≠ ss.length → ss.length ≤ 1000 → X [fS ss] = some 3
  good : ∀ n ss, FamOk n ss → X [fS ss] = none
theorem ev_sets (G : Gm) (F0 : Fn) (g0 : G 0 = some F0) (ds : List D) (b : D → Bool) (h : ∀ e ∈ ds, F0 [.fz e] = some (.val (.bl (b e)))) (hl : ds.length ≤ 1000) :
    ev G (.bi .all (.cons (.lc (.call 0 (.cons (.slot 1) .nil)) (.nm 1) (.seq (.slot 0)) .non) .nil)) [some (.fz (.lst ds)), none] = some (.val (.bl (ds.all b))) := by
  have e1 : ev G (.lc (.call 0 (.cons (.slot 1) .nil)) (.nm 1) (.seq (.slot 0)) .non) [some (.fz (.lst ds)), none] = some (.fresh (ds.map fun e => .bl (b e))) := by
    refine ev_lc_m ds id _ (by simp [seqD]) (by rw [LN]; omega) ?_
    intro s hm
    refine ⟨_, rfl, ?_⟩
    simp [g0, h s hm]
  refine q_bi1 _ _ e1 ?_
  simp only [Rd2, biD, blsD_map, Option.map_some, all_map]
theorem ev_setsS (G : Gm) (F0 : Fn) (g0 : G 0 = some F0) (s0 : SIsSet F0) (ss : List (List Nat)) (h : ∀ s ∈ ss, Ok s) (hl : ss.length ≤ 1000) :
    ev G (.bi .all (.cons (.lc (.call 0 (.cons (.slot 1) .nil)) (.nm 1) (.seq (.slot 0)) .non) .nil)) [some (fS ss), none] = some (.val (.bl true)) := by
  rw [ev_sets G F0 g0 (sL ss) (fun _ => true) (fun e he => by obtain ⟨s, hs, rfl⟩ := List.mem_map.1 he; exact s0 s (h s hs)) (by simpa using hl)]
  simp
theorem ev_lens (G : Gm) (s0 : List Nat) (ss : List (List Nat)) (h : ∀ s ∈ s0 :: ss, Ok s) (hl : (s0 :: ss).length ≤ 1000) :
    ev G (.bi .any (.cons (.lc (.cmp .ne (.bi .len (.cons (.slot 1) .nil)) (.bi .len (.cons (.sub (.slot 0) (.int 0)) .nil))) (.nm 1) (.seq (.slot 0)) .non) .nil)) [some (fS (s0 :: ss)), none] = some (.val (.bl ((s0 :: ss).any fun s => decide (s.length ≠ s0.length)))) := by
  have e2 : ev G (.lc (.cmp .ne (.bi .len (.cons (.slot 1) .nil)) (.bi .len (.cons (.sub (.slot 0) (.int 0)) .nil))) (.nm 1) (.seq (.slot 0)) .non) [some (fS (s0 :: ss)), none] = some (.fresh ((s0 :: ss).map fun s => .bl (decide (s.length ≠ s0.length)))) := by
    refine ev_lc_m (s0 :: ss) D.str _ (by simp) (by rw [LN]; omega) ?_
    intro s hm
    refine ⟨_, rfl, ?_⟩
    have hs : s.length ≤ LINE := by rw [LN]; have := (h s hm).1; omega
    have ht : s0.length ≤ LINE := by rw [LN]; have := (h s0 (List.mem_cons_self ..)).1; omega
    simp [biD, hs, subD, L2.atI, L2.ixN, ht, cmpD, eqD, Int.natCast_inj]
  refine q_bi1 _ _ e2 ?_
  simp only [Rd2, biD, blsD_map, Option.map_some, any_map]
theorem ev_lset' (G : Gm) (ss : List (List Nat)) (hl : ss.length ≤ 1000) :
    ev G (.cmp .ne (.lset (.slot 0)) (.bi .len (.cons (.slot 0) .nil))) [some (fS ss), none] = some (.val (.bl (decide ((ddl [] ss).length ≠ ss.length)))) := by
  have hf : ss.length ≤ 4000 := by omega
  refine q_cmp (.val (.int ((ddl [] ss).length : Nat))) (.val (.int (ss.length : Nat))) _ ?_ (by simp [biD]) (by simp [cmpD, eqD, Int.natCast_inj])
  rw [ev_lset]
  simp only [ev_slot, List.getElem?_cons_zero, Rd1, strsD_sL, hf, if_true]
theorem check_family_x (G : Gm) (Z : Xm) (F0 : Fn) (g0 : G 0 = some F0) (s0 : SIsSet F0) : XFam F0 (xrun G Z 1 2 p_check_family) where
  nolist := fun d h => xrun_of [some (.fz d), none] rfl rfl (x_stop (x_then (q_or1 (q_not false (by rw [ev_isi, q_slot d rfl]; simp [h]))) x_rais))
  noset := fun ds b h hb hl => by
    have e := ev_sets G F0 g0 ds b h hl
    rw [hb] at e
    exact xrun_of [some (.fz (.lst ds)), none] rfl rfl (x_stop (x_then (q_or0 (q_not true (by simp [isiD])) (q_or1 (q_not false e))) x_rais))
  unlike := fun t ss h hu hl => by
    have e := ev_setsS G F0 g0 s0 (t :: ss) h hl
    have e2 := ev_lens G t ss h hl
    rw [hu] at e2
    have c := q_or0 (G := G) (q_not true (by simp [isiD] : ev G (.isi (.slot 0) .list) [some (fS (t :: ss)), none] = some (.val (.bl true)))) (q_or0 (q_not true e) q_orN)
    exact xrun_of [some (fS (t :: ss)), none] rfl rfl (x_next _ (x_else c x_nil) (q_else c (execs0 _ _)) (x_stop (x_then (q_or1 e2) x_rais)))
  alike := fun n ss h hu hl => by
    have hok : ∀ s ∈ ss, Ok s := fun s hs => (h s hs).1
    have e := ev_setsS G F0 g0 s0 ss hok hl
    have c := q_or0 (G := G) (q_not true (by simp [isiD] : ev G (.isi (.slot 0) .list) [some (fS ss), none] = some (.val (.bl true)))) (q_or0 (q_not true e) q_orN)
    have e3 := ev_lset' G ss hl
    rw [decide_eq_true hu] at e3
    cases ss with
    | nil => exact absurd rfl hu
    | cons t r =>
      have e2 := ev_lens G t r hok hl
      have e4 : ((t :: r).any fun s => decide (s.length ≠ t.length)) = false := by
        rw [List.any_eq_false]
        intro s hs
        rw [(h s hs).2, (h t (List.mem_cons_self ..)).2]; simp
      rw [e4] at e2
      exact xrun_of [some (fS (t :: r)), none] rfl rfl (x_next _ (x_else c x_nil) (q_else c (execs0 _ _)) (x_stop (x_then (q_or0 e2 (q_or1 e3)) x_rais)))
  good := fun n ss h => by
    have hok : ∀ s ∈ ss, Ok s := h.ok'
    have hl := h.few
    have e := ev_setsS G F0 g0 s0 ss hok hl
    have c := q_or0 (G := G) (q_not true (by simp [isiD] : ev G (.isi (.slot 0) .list) [some (fS ss), none] = some (.val (.bl true)))) (q_or0 (q_not true e) q_orN)
    have e3 := ev_lset' G ss hl
    rw [ddl_nodup ss [] (by simpa using h.nd)] at e3
    have e3 : ev G (.cmp .ne (.lset (.slot 0)) (.bi .len (.cons (.slot 0) .nil))) [some (fS ss), none] = some (.val (.bl false)) := by simpa using e3
    have c2 : ev G (.or (.cons (.bi .any (.cons (.lc (.cmp .ne (.bi .len (.cons (.slot 1) .nil)) (.bi .len (.cons (.sub (.slot 0) (.int 0)) .nil))) (.nm 1) (.seq (.slot 0)) .non) .nil)) (.cons (.cmp .ne (.lset (.slot 0)) (.bi .len (.cons (.slot 0) .nil))) .nil))) [some (fS ss), none] = some (.val (.bl false)) := by
      cases ss with
      | nil =>
        refine q_or0 (q_bi1 (.fresh []) _ (ev_lc_m ([] : List (List Nat)) D.str (fun _ => .non) (by simp) (by simp) (by simp)) rfl) (q_or0 e3 q_orN)
      | cons t r =>
        have e2 := ev_lens G t r hok hl
        have e4 : ((t :: r).any fun s => decide (s.length ≠ t.length)) = false := by
          rw [List.any_eq_false]
          intro s hs
          rw [(h.ok s hs).2, (h.ok t (List.mem_cons_self ..)).2]; simp
        rw [e4] at e2
        exact q_or0 e2 (q_or0 e3 q_orN)
    exact xrun_of [some (fS ss), none] rfl rfl (x_next _ (x_else c x_nil) (q_else c (execs0 _ _)) (x_next _ (x_else c2 x_nil) (q_else c2 (execs0 _ _)) x_nil))
/-- what is no family -/
def NF (X21 : Xn) (d : D) : Prop := X21 [.fz d] = some 3
section
variable (G : Gm) (Z : Xm)
theorem apart_x (X21 : Xn) (z21 : Z 21 = some X21) : ∀ d, NF X21 d → xrun G Z 1 2 p_apart [.fz d] = some 3 := fun d h => xrun_of [some (.fz d), none] rfl rfl (x_stop (x_ex (x_call [.fz d] _ (by simp) z21 h)))
structure XLeasts (X21 X : Xn) : Prop where
  fam : ∀ d, NF X21 d → X [.fz d] = some 3
  within : ∀ n ss, FamOk n ss → fw (ss.map mk) ≠ none → X [fS ss] = some 3
  good : ∀ n ss, FamOk n ss → fw (ss.map mk) = none → X [fS ss] = none
theorem check_leasts_x (F0 F20 F21 : Fn) (X21 : Xn) (g20 : G 20 = some F20) (g21 : G 21 = some F21) (z21 : Z 21 = some X21) (s20 : SFirst F20) (s21 : SCheckFam F21) (h21 : XFam F0 X21) : XLeasts X21 (xrun G Z 1 1 p_check_leasts) where
  fam := fun d h => xrun_of [some (.fz d)] rfl rfl (x_stop (x_ex (x_call [.fz d] _ (by simp) z21 h)))
  within := fun n ss h hf => by
    have e20 := s20 ss h.le h.few
    obtain ⟨p, hp⟩ := Option.ne_none_iff_exists'.1 hf
    rw [hp] at e20
    exact xrun_of [some (fS ss)] rfl rfl (x_next _ (x_ex (x_call [fS ss] _ (by simp) z21 (h21.good n ss h))) (q_ex _ (q_call [fS ss] _ _ (by simp) g21 (s21 n ss h) rfl))
      (x_stop (x_then (q_cmp (.val (fwD (some p))) (.val .non) true (q_call [fS ss] _ _ (by simp) g20 e20 rfl) (by simp) (by simp [cmpD, isNon, fwD])) x_rais)))
  good := fun n ss h hf => by
    have e20 := s20 ss h.le h.few
    rw [hf] at e20
    have c := q_cmp (G := G) (env := [some (fS ss)]) (op := .isnot) (a := .call 20 (.cons (.slot 0) .nil)) (b := .non) (.val .non) (.val .non) false (q_call [fS ss] _ _ (by simp) g20 e20 rfl) (by simp) (by simp [cmpD, isNon])
    exact xrun_of [some (fS ss)] rfl rfl (x_next _ (x_ex (x_call [fS ss] _ (by simp) z21 (h21.good n ss h))) (q_ex _ (q_call [fS ss] _ _ (by simp) g21 (s21 n ss h) rfl)) (x_next _ (x_else c x_nil) (q_else c (execs0 _ _)) x_nil))
/-- what is no rule -/
def NR (X22 : Xn) (d : D) : Prop := X22 [.fz d] = some 3
structure XSays (F0 : Fn) (X22 X : Xn) : Prop where
  rule : ∀ d e, NR X22 d → X [.fz d, .fz e] = some 3
  set : ∀ n ss e, FamOk n ss → fw (ss.map mk) = none → NS F0 e → X [fS ss, .fz e] = some 0
  len : ∀ n t r s, FamOk n (t :: r) → fw ((t :: r).map mk) = none → Ok s → s.length ≠ n → X [fS (t :: r), .fz (.str s)] = some 0
theorem says_x (F0 F1 F22 : Fn) (X1 X21 X22 : Xn) (g1 : G 1 = some F1) (g22 : G 22 = some F22) (z1 : Z 1 = some X1) (z22 : Z 22 = some X22) (s1 : SCheckSet F1) (s22 : SCheckLeasts F22) (h1 : XSet F0 X1) (h22 : XLeasts X21 X22) : XSays F0 X22 (xrun G Z 2 3 p_says) where
  rule := fun d e h => xrun_of [some (.fz d), some (.fz e), none] rfl rfl (x_stop (x_ex (x_call [.fz d] _ (by simp) z22 h)))
  set := fun n ss e h hf he => xrun_of [some (fS ss), some (.fz e), none] rfl rfl (x_next _ (x_ex (x_call [fS ss] _ (by simp) z22 (h22.good n ss h hf))) (q_ex _ (q_call [fS ss] _ _ (by simp) g22 (s22 n ss h hf) rfl)) (x_stop (x_ex (x_call [.fz e] _ (by simp) z1 (h1.bad e he)))))
  len := fun n t r s h hf hs hn => by
    refine xrun_of [some (fS (t :: r)), some (.fz (.str s)), none] rfl rfl (x_next _ (x_ex (x_call [fS (t :: r)] _ (by simp) z22 (h22.good n _ h hf))) (q_ex _ (q_call [fS (t :: r)] _ _ (by simp) g22 (s22 n _ h hf) rfl)) (x_next _ (x_ex (x_call [.fz (.str s)] _ (by simp) z1 (h1.good s hs))) (q_ex _ (q_call [.fz (.str s)] _ _ (by simp) g1 (s1 s hs) rfl)) (x_stop (x_then ?_ x_rais))))
    have e := ne_nil (t :: r) fun t ht => (h.ok t ht).1
    have hsl : s.length ≤ LINE := by rw [LN]; have := hs.1; omega
    have ht : t.length ≤ LINE := by rw [LN]; have := h.le t (List.mem_cons_self ..); omega
    have el : t.length = n := (h.ok t (List.mem_cons_self ..)).2
    refine q_and1 (q_cmp (.val (.lst (sL (t :: r)))) (.fresh []) true (by simp) (by simp) (by simpa using e)) ?_
    refine q_and1 (q_cmp (.val (.int t.length)) (.val (.int s.length)) true ?_ (by simp [biD, hsl]) (by simp [cmpD, eqD, el]; omega)) q_andN
    simp [subD, L2.atI, L2.ixN, biD, ht]
structure XLearnt (F9 : Fn) (X22 X : Xn) : Prop where
  num : ∀ d e, NN F9 d 0 8 → X [.fz d, .fz e] = some 1
  rule : ∀ (n : Nat) e, n ≤ 8 → NR X22 e → X [.fz (.int n), .fz e] = some 3
  len : ∀ (n m : Nat) t r, n ≤ 8 → FamOk m (t :: r) → fw ((t :: r).map mk) = none → m ≠ n → X [.fz (.int n), fS (t :: r)] = some 3
theorem learnt_x (F9 F22 : Fn) (X21 X22 : Xn) (g9 : G 9 = some F9) (g22 : G 22 = some F22) (z22 : Z 22 = some X22) (s9 : SIsNumber F9) (s22 : SCheckLeasts F22) (h22 : XLeasts X21 X22) : XLearnt F9 X22 (xrun G Z 2 12 p_learnt) where
  num := fun d e h => xrun_of [some (.fz d), some (.fz e), none, none, none, none, none, none, none, none, none, none] rfl rfl (x_stop (x_then (q_not false (q_call [.fz d, .fz (.int 0), .fz (.int 8)] _ _ (by simp) g9 h rfl)) x_rais))
  rule := fun n e hn h => by
    have c := q_not (G := G) (env := [some (.fz (.int n)), some (.fz e), none, none, none, none, none, none, none, none, none, none]) (a := .call 9 (.cons (.slot 0) (.cons (.int 0) (.cons (.gint "LONGEST_LEARNT" 8) .nil)))) true (q_call [.fz (.int n), .fz (.int 0), .fz (.int 8)] _ _ (by simp) g9 (num_t F9 s9 n 8 hn) rfl)
    exact xrun_of [some (.fz (.int n)), some (.fz e), none, none, none, none, none, none, none, none, none, none] rfl rfl (x_next _ (x_else c x_nil) (q_else c (execs0 _ _)) (x_stop (x_ex (x_call [.fz e] _ (by simp) z22 h))))
  len := fun n m t r hn h hf hm => by
    have c := q_not (G := G) (env := [some (.fz (.int n)), some (fS (t :: r)), none, none, none, none, none, none, none, none, none, none]) (a := .call 9 (.cons (.slot 0) (.cons (.int 0) (.cons (.gint "LONGEST_LEARNT" 8) .nil)))) true (q_call [.fz (.int n), .fz (.int 0), .fz (.int 8)] _ _ (by simp) g9 (num_t F9 s9 n 8 hn) rfl)
    refine xrun_of [some (.fz (.int n)), some (fS (t :: r)), none, none, none, none, none, none, none, none, none, none] rfl rfl (x_next _ (x_else c x_nil) (q_else c (execs0 _ _)) (x_next _ (x_ex (x_call [fS (t :: r)] _ (by simp) z22 (h22.good m _ h hf))) (q_ex _ (q_call [fS (t :: r)] _ _ (by simp) g22 (s22 m _ h hf) rfl)) (x_stop (x_then ?_ x_rais))))
    have e := ne_nil (t :: r) fun t ht => (h.ok t ht).1
    have ht : t.length ≤ LINE := by rw [LN]; have := h.le t (List.mem_cons_self ..); omega
    have el : t.length = m := (h.ok t (List.mem_cons_self ..)).2
    refine q_and1 (q_cmp (.val (.lst (sL (t :: r)))) (.fresh []) true (by simp) (by simp) (by simpa using e)) ?_
    refine q_and1 (q_cmp (.val (.int t.length)) (.val (.int n)) true ?_ (by simp) (by simp [cmpD, eqD, el]; omega)) q_andN
    simp [subD, L2.atI, L2.ixN, biD, ht]
end
end Pg
namespace Mc
open PySem
/-! ### a run reads a list that is still another's as it reads one that stays -/
def dj (P is : List Nat) : Bool := is.all fun i => !P.contains i
mutual
/-- e read alone, its value the same -/
def sxE (P : List Nat) : E → Bool
  | .slot i => !P.contains i
  | .int _ | .str _ | .bl _ | .non | .gint _ _ | .fnv _ _ | .dict0 | .lam _ | .dict1 _ _ => true
  | .bin _ a b => rdE P a && rdE P b
  | .neg a => rdE P a
  | .cmp _ a b => rdE P a && rdE P b
  | .chain _ _ a b c => rdE P a && rdE P b && rdE P c
  | .and es | .or es | .lst es | .tup es | .new _ es => sxEs P es
  | .not a => rdE P a
  | .ite c a b => rdE P c && sxE P a && sxE P b
  | .sub a i => rdE P a && rdE P i
  | .slice a lo hi => rdE P a && rdO P lo && rdO P hi
  | .rev a => rdE P a
  | .call _ es => rdEs P es
  | .bi _ es => rdEs P es
  | .meth _ a es => rdE P a && rdEs P es
  | .lc elt tg src cond => sxE P elt && dj P tg.slots && rdSrc P src && rdO P cond
  | .isi a _ => rdE P a
  | .lset a | .sortl a => rdE P a
  | .step a lo _ => rdE P a && rdE P lo
  | .fld a _ _ => rdE P a
  | .mcall _ _ a es => rdE P a && rdEs P es
  | .isic a _ _ => rdE P a
  | .rep a k => rdE P a && rdE P k
  | _ => false
def rdE (P : List Nat) : E → Bool
  | .slot _ => true
  | .int _ | .str _ | .bl _ | .non | .gint _ _ | .fnv _ _ | .dict0 | .lam _ | .dict1 _ _ => true
  | .bin _ a b => rdE P a && rdE P b
  | .neg a => rdE P a
  | .cmp _ a b => rdE P a && rdE P b
  | .chain _ _ a b c => rdE P a && rdE P b && rdE P c
  | .and es | .or es | .lst es | .tup es | .new _ es => sxEs P es
  | .not a => rdE P a
  | .ite c a b => rdE P c && sxE P a && sxE P b
  | .sub a i => rdE P a && rdE P i
  | .slice a lo hi => rdE P a && rdO P lo && rdO P hi
  | .rev a => rdE P a
  | .call _ es => rdEs P es
  | .bi _ es => rdEs P es
  | .meth _ a es => rdE P a && rdEs P es
  | .lc elt tg src cond => sxE P elt && dj P tg.slots && rdSrc P src && rdO P cond
  | .isi a _ => rdE P a
  | .lset a | .sortl a => rdE P a
  | .step a lo _ => rdE P a && rdE P lo
  | .fld a _ _ => rdE P a
  | .mcall _ _ a es => rdE P a && rdEs P es
  | .isic a _ _ => rdE P a
  | .rep a k => rdE P a && rdE P k
  | _ => false
def sxEs (P : List Nat) : Es → Bool
  | .nil => true
  | .cons e es => sxE P e && sxEs P es
def rdEs (P : List Nat) : Es → Bool
  | .nil => true
  | .cons e es => rdE P e && rdEs P es
def rdO (P : List Nat) : Oe → Bool
  | .non => true
  | .one e => rdE P e
def rdSrc (P : List Nat) : Src → Bool
  | .seq e => rdE P e
  | .rng1 a => rdE P a
  | .rng2 a b => rdE P a && rdE P b
  | .rng3 a b c => rdE P a && rdE P b && rdE P c
  | .enum e => rdE P e
  | .zip a b => rdE P a && rdE P b
end
/-- slot by slot the same, or a list of another's against the same list as it stays -/
def EnvV (P : List Nat) (env env' : Env) : Prop := env.length = env'.length ∧ ∀ i, env[i]? = env'[i]? ∨ (i ∈ P ∧ ∃ ds, env[i]? = some (some (.vw ds)) ∧ env'[i]? = some (some (.fz (.lst ds))))
def RV (r r' : R) : Prop := r = r' ∨ ∃ ds, r = .vpar ds ∧ r' = .val (.lst ds)
def SlV (s s' : Sl) : Prop := s = s' ∨ ∃ ds, s = .vw ds ∧ s' = .fz (.lst ds)
inductive SlVs : List Sl → List Sl → Prop where
  | nil : SlVs [] []
  | cons {s s' : Sl} {ss ss' : List Sl} : SlV s s' → SlVs ss ss' → SlVs (s :: ss) (s' :: ss')
/-- the table answers alike -/
def GV (G : Gm) : Prop := ∀ f sem as as' r, G f = some sem → SlVs as as' → sem as' = some r → sem as = some r
theorem RV.data {r r' : R} (h : RV r r') : r.data = r'.data := by
  rcases h with rfl | ⟨ds, rfl, rfl⟩ <;> rfl
theorem RV.arg {r r' : R} (h : RV r r') : SlV r.arg r'.arg := by
  rcases h with rfl | ⟨ds, rfl, rfl⟩
  · exact .inl rfl
  · exact .inr ⟨ds, rfl, rfl⟩
theorem EnvV.at {P : List Nat} {env env' : Env} (h : EnvV P env env') {i : Nat} (hi : P.contains i = false) : env[i]? = env'[i]? := by
  rcases h.2 i with e | ⟨z, _⟩
  · exact e
  · rw [← Bool.not_eq_true, List.contains_iff_mem] at hi
    exact absurd z hi
section
variable {P : List Nat} {G : Gm}
/-- what is shown of an expression -/
structure VE (P : List Nat) (G : Gm) (e : E) : Prop where
  sx : sxE P e = true → ∀ env env', EnvV P env env' → ∀ r', ev G e env' = some r' → ev G e env = some r'
  rd : rdE P e = true → ∀ env env', EnvV P env env' → ∀ r', ev G e env' = some r' → ∃ r, ev G e env = some r ∧ RV r r'
structure VEs (P : List Nat) (G : Gm) (es : Es) : Prop where
  v : sxEs P es = true → ∀ env env', EnvV P env env' → ∀ r', evV G es env' = some r' → evV G es env = some r'
  d : rdEs P es = true → ∀ env env', EnvV P env env' → ∀ r', evD G es env' = some r' → evD G es env = some r'
  a : rdEs P es = true → ∀ env env', EnvV P env env' → ∀ r', evA G es env' = some r' → ∃ r, evA G es env = some r ∧ SlVs r r'
  an : sxEs P es = true → ∀ env env', EnvV P env env' → ∀ r', evAnd G es env' = some r' → evAnd G es env = some r'
  oo : sxEs P es = true → ∀ env env', EnvV P env env' → ∀ r', evOr G es env' = some r' → evOr G es env = some r'
structure VO (P : List Nat) (G : Gm) (q : Oe) : Prop where
  o : rdO P q = true → ∀ env env', EnvV P env env' → ∀ r', evO G q env' = some r' → evO G q env = some r'
  c : rdO P q = true → ∀ env env', EnvV P env env' → ∀ r', evC G q env' = some r' → evC G q env = some r'
def VS (P : List Nat) (G : Gm) (s : Src) : Prop := rdSrc P s = true → ∀ env env', EnvV P env env' → ∀ r', evS G s env' = some r' → evS G s env = some r'
theorem VE.mk' {e : E} (h : sxE P e = true → ∀ env env', EnvV P env env' → ∀ r', ev G e env' = some r' → ev G e env = some r') (he : rdE P e = sxE P e) : VE P G e :=
  ⟨h, fun hr env env' hv r' e1 => ⟨r', h (he ▸ hr) env env' hv r' e1, .inl rfl⟩⟩
theorem RV.pl {r r' : R} (h : RV r r') (n : ∀ ds, r' ≠ .val (.lst ds)) : r = r' := by
  rcases h with e | ⟨ds, _, e⟩
  · exact e
  · exact absurd e (n ds)
theorem VE.rx {e : E} (h : VE P G e) (hr : rdE P e = true) (env env' : Env) (hv : EnvV P env env') (r' : R) (e1 : ev G e env' = some r') (n : ∀ ds, r' ≠ .val (.lst ds) := by intro ds q; cases q) : ev G e env = some r' := by
  obtain ⟨r, e2, w⟩ := h.rd hr env env' hv r' e1
  rw [e2, w.pl n]
theorem ve_const {e : E} (r : R) (h : ∀ env, ev G e env = some r) (he : rdE P e = sxE P e) : VE P G e :=
  .mk' (fun _ env env' _ r' e1 => by rw [h] at e1 ⊢; exact e1) he
theorem ve_slot (i : Nat) : VE P G (.slot i) := by
  refine ⟨fun h env env' hv r' e => ?_, fun _ env env' hv r' e => ?_⟩
  · have h : P.contains i = false := by simpa only [sxE, Bool.not_eq_true'] using h
    simp only [ev] at e ⊢
    rw [hv.at h]; exact e
  · simp only [ev] at e ⊢
    rcases hv.2 i with e1 | ⟨_, ds, e1, e2⟩
    · rw [e1]; exact ⟨r', e, .inl rfl⟩
    · rw [e2] at e
      cases e
      rw [e1]
      exact ⟨_, rfl, .inr ⟨ds, rfl, rfl⟩⟩
theorem ve_bin (op : Bop) (a b : E) (ha : VE P G a) (hb : VE P G b) : VE P G (.bin op a b) := by
  refine .mk' (fun h env env' hv r' e => ?_) rfl
  simp only [sxE, Bool.and_eq_true] at h
  simp only [ev] at e ⊢
  split at e <;> try (cases e; done)
  rename_i x e1
  split at e <;> try (cases e; done)
  rename_i y e2
  obtain ⟨x', f1, v1⟩ := ha.rd h.1 env env' hv x e1
  obtain ⟨y', f2, v2⟩ := hb.rd h.2 env env' hv y e2
  simp only [f1, f2, v1.data, v2.data]; exact e
theorem ve_cmp (op : Cop) (a b : E) (ha : VE P G a) (hb : VE P G b) : VE P G (.cmp op a b) := by
  refine .mk' (fun h env env' hv r' e => ?_) rfl
  simp only [sxE, Bool.and_eq_true] at h
  simp only [ev] at e ⊢
  split at e <;> try (cases e; done)
  rename_i x e1
  split at e <;> try (cases e; done)
  rename_i y e2
  obtain ⟨x', f1, v1⟩ := ha.rd h.1 env env' hv x e1
  obtain ⟨y', f2, v2⟩ := hb.rd h.2 env env' hv y e2
  simp only [f1, f2, v1.data, v2.data]; exact e
theorem ve_chain (o1 o2 : Cop) (a b c : E) (ha : VE P G a) (hb : VE P G b) (hc : VE P G c) : VE P G (.chain o1 o2 a b c) := by
  refine .mk' (fun h env env' hv r' e => ?_) rfl
  simp only [sxE, Bool.and_eq_true] at h
  simp only [ev] at e ⊢
  split at e <;> try (cases e; done)
  rename_i x e1
  split at e <;> try (cases e; done)
  rename_i y e2
  obtain ⟨x', f1, v1⟩ := ha.rd h.1.1 env env' hv x e1
  obtain ⟨y', f2, v2⟩ := hb.rd h.1.2 env env' hv y e2
  simp only [f1, f2, v1.data, v2.data]
  split at e <;> try (cases e; done)
  · exact e
  · split at e <;> try (cases e; done)
    rename_i z e4
    obtain ⟨z', f3, v3⟩ := hc.rd h.2 env env' hv z e4
    simp only [f3, v3.data]; exact e
theorem ve_neg (a : E) (ha : VE P G a) : VE P G (.neg a) := by
  refine .mk' (fun h env env' hv r' e => ?_) rfl
  simp only [sxE] at h
  simp only [ev] at e ⊢
  split at e <;> try (cases e; done)
  rename_i i e1
  rw [ha.rx h env env' hv _ e1]; exact e
theorem ve_not (a : E) (ha : VE P G a) : VE P G (.not a) := by
  refine .mk' (fun h env env' hv r' e => ?_) rfl
  simp only [sxE] at h
  simp only [ev] at e ⊢
  split at e <;> try (cases e; done)
  rename_i i e1
  rw [ha.rx h env env' hv _ e1]; exact e
theorem ve_ite (c a b : E) (hc : VE P G c) (ha : VE P G a) (hb : VE P G b) : VE P G (.ite c a b) := by
  refine .mk' (fun h env env' hv r' e => ?_) rfl
  simp only [sxE, Bool.and_eq_true] at h
  simp only [ev] at e ⊢
  split at e <;> try (cases e; done)
  · rename_i e1; rw [hc.rx h.1.1 env env' hv _ e1]; exact ha.sx h.1.2 env env' hv _ e
  · rename_i e1; rw [hc.rx h.1.1 env env' hv _ e1]; exact hb.sx h.2 env env' hv _ e
theorem ve_sub (a b : E) (ha : VE P G a) (hb : VE P G b) : VE P G (.sub a b) := by
  refine .mk' (fun h env env' hv r' e => ?_) rfl
  simp only [sxE, Bool.and_eq_true] at h
  simp only [ev] at e ⊢
  split at e <;> try (cases e; done)
  rename_i x e1
  split at e <;> try (cases e; done)
  rename_i y e2
  obtain ⟨x', f1, v1⟩ := ha.rd h.1 env env' hv x e1
  obtain ⟨y', f2, v2⟩ := hb.rd h.2 env env' hv y e2
  simp only [f1, f2, v1.data, v2.data]; exact e
theorem ve_call (hG : GV G) (f : Nat) (es : Es) (h' : VEs P G es) : VE P G (.call f es) := by
  refine .mk' (fun h env env' hv r' e => ?_) rfl
  simp only [sxE] at h
  simp only [ev] at e ⊢
  split at e <;> try (cases e; done)
  rename_i as e1
  obtain ⟨as', f1, v1⟩ := h'.a h env env' hv as e1
  rw [f1]
  simp only []
  split at e <;> try (cases e; done)
  rename_i sem e2
  split at e <;> try (cases e; done)
  rename_i r0 e3
  rw [hG f sem as' as r0 e2 v1 e3]
  exact e
theorem ve_no {e : E} (h1 : sxE P e = false) (h2 : rdE P e = false) : VE P G e :=
  ⟨fun h => (by rw [h1] at h; cases h), fun h => (by rw [h2] at h; cases h)⟩
theorem ve_and (es : Es) (h' : VEs P G es) : VE P G (.and es) := by
  refine .mk' (fun h env env' hv r' e => ?_) rfl
  simp only [sxE] at h
  simp only [ev] at e ⊢
  exact h'.an h env env' hv r' e
theorem ve_or (es : Es) (h' : VEs P G es) : VE P G (.or es) := by
  refine .mk' (fun h env env' hv r' e => ?_) rfl
  simp only [sxE] at h
  simp only [ev] at e ⊢
  exact h'.oo h env env' hv r' e
theorem ve_lst (es : Es) (h' : VEs P G es) : VE P G (.lst es) := by
  refine .mk' (fun h env env' hv r' e => ?_) rfl
  simp only [sxE] at h
  simp only [ev] at e ⊢
  split at e <;> try (cases e; done)
  rename_i ds e1
  rw [h'.v h env env' hv _ e1]; exact e
theorem ve_tup (es : Es) (h' : VEs P G es) : VE P G (.tup es) := by
  refine .mk' (fun h env env' hv r' e => ?_) rfl
  simp only [sxE] at h
  simp only [ev] at e ⊢
  split at e <;> try (cases e; done)
  rename_i ds e1
  rw [h'.v h env env' hv _ e1]; exact e
theorem ve_new (c : Nat) (es : Es) (h' : VEs P G es) : VE P G (.new c es) := by
  refine .mk' (fun h env env' hv r' e => ?_) rfl
  simp only [sxE] at h
  simp only [ev] at e ⊢
  split at e <;> try (cases e; done)
  rename_i ds e1
  rw [h'.v h env env' hv _ e1]; exact e
theorem ve_slice (a : E) (lo hi : Oe) (ha : VE P G a) (hl : VO P G lo) (hh : VO P G hi) : VE P G (.slice a lo hi) := by
  refine .mk' (fun h env env' hv r' e => ?_) rfl
  simp only [sxE, Bool.and_eq_true] at h
  simp only [ev] at e ⊢
  split at e <;> try (cases e; done)
  rename_i x e1
  obtain ⟨x', f1, v1⟩ := ha.rd h.1.1 env env' hv x e1
  split at e <;> try (cases e; done)
  rename_i l e2
  split at e <;> try (cases e; done)
  rename_i k e3
  simp only [f1, hl.o h.1.2 env env' hv _ e2, hh.o h.2 env env' hv _ e3, v1.data]; exact e
theorem ve_rev (a : E) (ha : VE P G a) : VE P G (.rev a) := by
  refine .mk' (fun h env env' hv r' e => ?_) rfl
  simp only [sxE] at h
  simp only [ev] at e ⊢
  split at e <;> try (cases e; done)
  rename_i x e1
  obtain ⟨x', f1, v1⟩ := ha.rd h env env' hv x e1
  simp only [f1, v1.data]; exact e
theorem ve_isi (a : E) (t : Ty) (ha : VE P G a) : VE P G (.isi a t) := by
  refine .mk' (fun h env env' hv r' e => ?_) rfl
  simp only [sxE] at h
  simp only [ev] at e ⊢
  split at e <;> try (cases e; done)
  rename_i x e1
  obtain ⟨x', f1, v1⟩ := ha.rd h env env' hv x e1
  simp only [f1, v1.data]; exact e
theorem ve_lset (a : E) (ha : VE P G a) : VE P G (.lset a) := by
  refine .mk' (fun h env env' hv r' e => ?_) rfl
  simp only [sxE] at h
  simp only [ev] at e ⊢
  split at e <;> try (cases e; done)
  rename_i x e1
  obtain ⟨x', f1, v1⟩ := ha.rd h env env' hv x e1
  simp only [f1, v1.data]; exact e
theorem ve_sortl (a : E) (ha : VE P G a) : VE P G (.sortl a) := by
  refine .mk' (fun h env env' hv r' e => ?_) rfl
  simp only [sxE] at h
  simp only [ev] at e ⊢
  split at e <;> try (cases e; done)
  rename_i x e1
  obtain ⟨x', f1, v1⟩ := ha.rd h env env' hv x e1
  simp only [f1, v1.data]; exact e
theorem ve_step (a lo : E) (k : Nat) (ha : VE P G a) (hl : VE P G lo) : VE P G (.step a lo k) := by
  refine .mk' (fun h env env' hv r' e => ?_) rfl
  simp only [sxE, Bool.and_eq_true] at h
  simp only [ev] at e ⊢
  split at e <;> try (cases e; done)
  rename_i x e1
  obtain ⟨x', f1, v1⟩ := ha.rd h.1 env env' hv x e1
  split at e <;> try (cases e; done)
  rename_i i e2
  simp only [f1, hl.rx h.2 env env' hv _ e2, v1.data]; exact e
theorem ve_bi (b : Bi) (es : Es) (h' : VEs P G es) : VE P G (.bi b es) := by
  refine .mk' (fun h env env' hv r' e => ?_) rfl
  simp only [sxE] at h
  simp only [ev] at e ⊢
  split at e <;> try (cases e; done)
  rename_i as e1
  simp only [h'.d h env env' hv _ e1]; exact e
theorem ve_meth (m : Mt) (a : E) (es : Es) (ha : VE P G a) (h' : VEs P G es) : VE P G (.meth m a es) := by
  refine .mk' (fun h env env' hv r' e => ?_) rfl
  simp only [sxE, Bool.and_eq_true] at h
  simp only [ev] at e ⊢
  split at e <;> try (cases e; done)
  rename_i x e1
  obtain ⟨x', f1, v1⟩ := ha.rd h.1 env env' hv x e1
  split at e <;> try (cases e; done)
  rename_i as e2
  simp only [f1, h'.d h.2 env env' hv _ e2, v1.data]; exact e
theorem ve_fld (a : E) (c i : Nat) (ha : VE P G a) : VE P G (.fld a c i) := by
  refine .mk' (fun h env env' hv r' e => ?_) rfl
  simp only [sxE] at h
  simp only [ev] at e ⊢
  split at e <;> try (cases e; done)
  rename_i e1
  simp only [ha.rx h env env' hv _ e1]; exact e
theorem ve_isic (a : E) (c : Nat) (tb : List (Nat × Bool)) (ha : VE P G a) : VE P G (.isic a c tb) := by
  refine .mk' (fun h env env' hv r' e => ?_) rfl
  simp only [sxE] at h
  simp only [ev] at e ⊢
  split at e <;> try (cases e; done)
  rename_i e1
  simp only [ha.rx h env env' hv _ e1]; exact e
theorem ve_rep (a k : E) (ha : VE P G a) (hk : VE P G k) : VE P G (.rep a k) := by
  refine .mk' (fun h env env' hv r' e => ?_) rfl
  simp only [sxE, Bool.and_eq_true] at h
  simp only [ev] at e ⊢
  split at e <;> try (cases e; done)
  rename_i e1
  split at e <;> try (cases e; done)
  rename_i e2
  simp only [ha.rx h.1 env env' hv _ e1, hk.rx h.2 env env' hv _ e2]; exact e
theorem ve_mcall (hG : GV G) (m : Str) (tb : List (Nat × Nat)) (a : E) (es : Es) (ha : VE P G a) (h' : VEs P G es) : VE P G (.mcall m tb a es) := by
  refine .mk' (fun h env env' hv r' e => ?_) rfl
  simp only [sxE, Bool.and_eq_true] at h
  simp only [ev] at e ⊢
  split at e <;> try (cases e; done)
  rename_i c fs e1
  split at e <;> try (cases e; done)
  rename_i as e2
  obtain ⟨as', f2, v2⟩ := h'.a h.2 env env' hv as e2
  simp only [ha.rx h.1 env env' hv _ e1, f2]
  split at e <;> try (cases e; done)
  rename_i f e3
  split at e <;> try (cases e; done)
  rename_i sem e4
  split at e <;> try (cases e; done)
  rename_i r0 e5
  simp only [e3, e4, hG f sem _ _ r0 e4 (.cons (.inl rfl) v2) e5]
  exact e
theorem ves_nil : VEs P G .nil :=
  ⟨fun _ _ _ _ _ e => e, fun _ _ _ _ _ e => e, fun _ _ _ _ r' e => by cases e; exact ⟨[], rfl, .nil⟩, fun _ _ _ _ _ e => e, fun _ _ _ _ _ e => e⟩
theorem ves_cons (a : E) (es : Es) (ha : VE P G a) (h' : VEs P G es) : VEs P G (.cons a es) := by
  refine ⟨fun h env env' hv r' e => ?_, fun h env env' hv r' e => ?_, fun h env env' hv r' e => ?_, fun h env env' hv r' e => ?_, fun h env env' hv r' e => ?_⟩
  · simp only [sxEs, Bool.and_eq_true] at h
    simp only [evV] at e ⊢
    cases e0 : ev G a env' with
    | none => rw [e0] at e; cases e
    | some x =>
      rw [e0] at e
      rw [ha.sx h.1 env env' hv _ e0]
      split at e <;> try (cases e; done)
      rename_i d e1
      split at e <;> try (cases e; done)
      rename_i ds e2
      simp only [e1, h'.v h.2 env env' hv _ e2]; exact e
  · simp only [rdEs, Bool.and_eq_true] at h
    simp only [evD] at e ⊢
    split at e <;> try (cases e; done)
    rename_i x e1
    obtain ⟨x', f1, v1⟩ := ha.rd h.1 env env' hv x e1
    split at e <;> try (cases e; done)
    rename_i ds e2
    simp only [f1, h'.d h.2 env env' hv _ e2, v1.data]; exact e
  · simp only [rdEs, Bool.and_eq_true] at h
    simp only [evA] at e ⊢
    split at e <;> try (cases e; done)
    rename_i x e1
    obtain ⟨x', f1, v1⟩ := ha.rd h.1 env env' hv x e1
    split at e <;> try (cases e; done)
    rename_i ds e2
    obtain ⟨ds', f2, v2⟩ := h'.a h.2 env env' hv _ e2
    cases e
    simp only [f1, f2]
    exact ⟨_, rfl, .cons v1.arg v2⟩
  · simp only [sxEs, Bool.and_eq_true] at h
    simp only [evAnd] at e ⊢
    split at e <;> try (cases e; done)
    · rename_i e1; simp only [ha.sx h.1 env env' hv _ e1]; exact e
    · rename_i e1; simp only [ha.sx h.1 env env' hv _ e1]; exact h'.an h.2 env env' hv _ e
  · simp only [sxEs, Bool.and_eq_true] at h
    simp only [evOr] at e ⊢
    split at e <;> try (cases e; done)
    · rename_i e1; simp only [ha.sx h.1 env env' hv _ e1]; exact e
    · rename_i e1; simp only [ha.sx h.1 env env' hv _ e1]; exact h'.oo h.2 env env' hv _ e
theorem vo_non : VO P G .non := ⟨fun _ _ _ _ _ e => e, fun _ _ _ _ _ e => e⟩
theorem vo_one (a : E) (ha : VE P G a) : VO P G (.one a) := by
  refine ⟨fun h env env' hv r' e => ?_, fun h env env' hv r' e => ?_⟩
  · simp only [rdO] at h
    simp only [evO] at e ⊢
    split at e <;> try (cases e; done)
    rename_i e1
    simp only [ha.rx h env env' hv _ e1]; exact e
  · simp only [rdO] at h
    simp only [evC] at e ⊢
    split at e <;> try (cases e; done)
    rename_i e1
    simp only [ha.rx h env env' hv _ e1]; exact e
theorem vs_seq (a : E) (ha : VE P G a) : VS P G (.seq a) := fun h env env' hv r' e => by
  simp only [rdSrc] at h
  simp only [evS] at e ⊢
  split at e <;> try (cases e; done)
  rename_i x e1
  obtain ⟨x', f1, v1⟩ := ha.rd h env env' hv x e1
  simp only [f1, v1.data]; exact e
theorem vs_rng1 (a : E) (ha : VE P G a) : VS P G (.rng1 a) := fun h env env' hv r' e => by
  simp only [rdSrc] at h
  simp only [evS] at e ⊢
  split at e <;> try (cases e; done)
  rename_i x e1
  simp only [ha.rx h env env' hv _ e1]; exact e
theorem vs_rng2 (a b : E) (ha : VE P G a) (hb : VE P G b) : VS P G (.rng2 a b) := fun h env env' hv r' e => by
  simp only [rdSrc, Bool.and_eq_true] at h
  simp only [evS] at e ⊢
  split at e <;> try (cases e; done)
  rename_i x e1
  split at e <;> try (cases e; done)
  rename_i y e2
  simp only [ha.rx h.1 env env' hv _ e1, hb.rx h.2 env env' hv _ e2]; exact e
theorem vs_rng3 (a b c : E) (ha : VE P G a) (hb : VE P G b) (hc : VE P G c) : VS P G (.rng3 a b c) := fun h env env' hv r' e => by
  simp only [rdSrc, Bool.and_eq_true] at h
  simp only [evS] at e ⊢
  split at e <;> try (cases e; done)
  rename_i x e1
  split at e <;> try (cases e; done)
  rename_i y e2
  split at e <;> try (cases e; done)
  rename_i z e3
  simp only [ha.rx h.1.1 env env' hv _ e1, hb.rx h.1.2 env env' hv _ e2, hc.rx h.2 env env' hv _ e3]; exact e
theorem vs_enum (a : E) (ha : VE P G a) : VS P G (.enum a) := fun h env env' hv r' e => by
  simp only [rdSrc] at h
  simp only [evS] at e ⊢
  split at e <;> try (cases e; done)
  rename_i x e1
  obtain ⟨x', f1, v1⟩ := ha.rd h env env' hv x e1
  simp only [f1, v1.data]; exact e
theorem vs_zip (a b : E) (ha : VE P G a) (hb : VE P G b) : VS P G (.zip a b) := fun h env env' hv r' e => by
  simp only [rdSrc, Bool.and_eq_true] at h
  simp only [evS] at e ⊢
  split at e <;> try (cases e; done)
  rename_i x e1
  split at e <;> try (cases e; done)
  rename_i y e2
  obtain ⟨x', f1, v1⟩ := ha.rd h.1 env env' hv x e1
  obtain ⟨y', f2, v2⟩ := hb.rd h.2 env env' hv y e2
  simp only [f1, f2, v1.data, v2.data]; exact e
/-! environments that go on alike -/
theorem EnvV.set {env env' : Env} (h : EnvV P env env') (i : Nat) (s : Option Sl) : EnvV P (env.set i s) (env'.set i s) := by
  refine ⟨by simpa using h.1, fun j => ?_⟩
  by_cases hj : i = j
  · subst hj
    left
    have hl := h.1
    rcases Nat.lt_or_ge i env'.length with q | q
    · rw [List.getElem?_set_self (by omega), List.getElem?_set_self q]
    · rw [List.getElem?_eq_none (by rw [List.length_set]; omega), List.getElem?_eq_none (by rw [List.length_set]; exact q)]
  · rw [List.getElem?_set_ne hj, List.getElem?_set_ne hj]; exact h.2 j
theorem EnvV.setAll' : ∀ (is : List Nat) (ds : List D) {env env' r' : Env}, EnvV P env env' → setAll env' is ds = some r' → ∃ r, setAll env is ds = some r ∧ EnvV P r r'
  | [], [], _, _, _, h, e => by cases e; exact ⟨_, rfl, h⟩
  | i :: is, d :: ds, _, _, _, h, e => by
    simp only [setAll] at e ⊢
    exact EnvV.setAll' is ds (h.set i _) e
  | [], _ :: _, _, _, _, _, e => by simp only [setAll] at e; cases e
  | _ :: _, [], _, _, _, _, e => by simp only [setAll] at e; cases e
theorem EnvV.bind {env env' r' : Env} (h : EnvV P env env') (t : Tg) (d : D) (e : bindT t d env' = some r') : ∃ r, bindT t d env = some r ∧ EnvV P r r' := by
  cases t with
  | nm i => simp only [bindT] at e ⊢; cases e; exact ⟨_, rfl, h.set i _⟩
  | tp is =>
    cases d with
    | tup ds => simp only [bindT] at e ⊢; exact EnvV.setAll' is ds h e
    | _ => simp only [bindT] at e; cases e
theorem EnvV.wipe : ∀ (is : List Nat) {env env' : Env}, EnvV P env env' → EnvV P (wipeE env is) (wipeE env' is)
  | [], _, _, h => h
  | i :: is, _, _, h => (EnvV.wipe is h).set i _
theorem ve_lc (el : E) (tg : Tg) (src : Src) (cond : Oe) (he : VE P G el) (hs : VS P G src) (hc : VO P G cond) : VE P G (.lc el tg src cond) := by
  refine .mk' (fun h env env' hv r' e => ?_) rfl
  simp only [sxE, Bool.and_eq_true] at h
  obtain ⟨⟨⟨h1, _⟩, h3⟩, h4⟩ := h
  simp only [ev] at e ⊢
  split at e <;> try (cases e; done)
  rename_i items e1
  rw [hs h3 env env' hv _ e1]
  simp only [Option.map_eq_some_iff] at e ⊢
  obtain ⟨out, e2, rfl⟩ := e
  refine ⟨out, ?_, rfl⟩
  clear e1
  revert e2
  generalize ([] : List D) = acc
  induction items generalizing acc with
  | nil => exact id
  | cons x r ih =>
    intro e2
    simp only [lcLoop] at e2 ⊢
    split at e2 <;> try (cases e2; done)
    rename_i n1 b1
    obtain ⟨n2, b2, v2⟩ := EnvV.bind (hv.wipe tg.slots) tg x b1
    rw [b2]
    simp only []
    split at e2 <;> try (cases e2; done)
    · rename_i c1
      rw [hc.c h4 _ _ v2 _ c1]
      exact ih _ e2
    · rename_i c1
      rw [hc.c h4 _ _ v2 _ c1]
      simp only []
      cases e0 : ev G el n1 with
      | none => rw [e0] at e2; cases e2
      | some y =>
        rw [e0] at e2
        rw [he.sx h1 _ _ v2 _ e0]
        split at e2 <;> try (cases e2; done)
        rename_i y1 e3
        split at e2 <;> try (cases e2; done)
        rename_i e4
        rw [if_pos e4]
        exact ih _ e2
variable (P) in
mutual
theorem ved_E (hG : GV G) : ∀ e : E, VE P G e
  | .slot i => ve_slot i
  | .int i => ve_const _ (fun _ => rfl) rfl
  | .str l => ve_const _ (fun _ => rfl) rfl
  | .bl b => ve_const _ (fun _ => rfl) rfl
  | .non => ve_const _ (fun _ => rfl) rfl
  | .gint x i => ve_const _ (fun _ => rfl) rfl
  | .bin op a b => ve_bin op a b (ved_E hG a) (ved_E hG b)
  | .neg a => ve_neg a (ved_E hG a)
  | .cmp op a b => ve_cmp op a b (ved_E hG a) (ved_E hG b)
  | .chain o1 o2 a b c => ve_chain o1 o2 a b c (ved_E hG a) (ved_E hG b) (ved_E hG c)
  | .and es => ve_and es (ved_Es hG es)
  | .or es => ve_or es (ved_Es hG es)
  | .not a => ve_not a (ved_E hG a)
  | .ite c a b => ve_ite c a b (ved_E hG c) (ved_E hG a) (ved_E hG b)
  | .lst es => ve_lst es (ved_Es hG es)
  | .tup es => ve_tup es (ved_Es hG es)
  | .sub a i => ve_sub a i (ved_E hG a) (ved_E hG i)
  | .slice a lo hi => ve_slice a lo hi (ved_E hG a) (ved_O hG lo) (ved_O hG hi)
  | .rev a => ve_rev a (ved_E hG a)
  | .call f es => ve_call hG f es (ved_Es hG es)
  | .bi b es => ve_bi b es (ved_Es hG es)
  | .meth m a es => ve_meth m a es (ved_E hG a) (ved_Es hG es)
  | .lc el tg src cond => ve_lc el tg src cond (ved_E hG el) (ved_S hG src) (ved_O hG cond)
  | .isi a t => ve_isi a t (ved_E hG a)
  | .lset a => ve_lset a (ved_E hG a)
  | .step a lo k => ve_step a lo k (ved_E hG a) (ved_E hG lo)
  | .sortl a => ve_sortl a (ved_E hG a)
  | .new c es => ve_new c es (ved_Es hG es)
  | .fld a c i => ve_fld a c i (ved_E hG a)
  | .mcall m tb a es => ve_mcall hG m tb a es (ved_E hG a) (ved_Es hG es)
  | .isic a c tb => ve_isic a c tb (ved_E hG a)
  | .repl s k a x y => ve_no rfl rfl
  | .revs a => ve_no rfl rfl
  | .fnv x f => ve_const _ (fun _ => rfl) rfl
  | .callv i tb es => ve_no rfl rfl
  | .dict0 => ve_const _ (fun _ => rfl) rfl
  | .call0 f => ve_no rfl rfl
  | .lam j => ve_const _ (fun _ => rfl) rfl
  | .calll i tl es => ve_no rfl rfl
  | .dict1 k i => ve_const _ (fun _ => rfl) rfl
  | .rep a k => ve_rep a k (ved_E hG a) (ved_E hG k)
theorem ved_Es (hG : GV G) : ∀ es : Es, VEs P G es
  | .nil => ves_nil
  | .cons e es => ves_cons e es (ved_E hG e) (ved_Es hG es)
theorem ved_O (hG : GV G) : ∀ o : Oe, VO P G o
  | .non => vo_non
  | .one e => vo_one e (ved_E hG e)
theorem ved_S (hG : GV G) : ∀ s : Src, VS P G s
  | .seq e => vs_seq e (ved_E hG e)
  | .rng1 a => vs_rng1 a (ved_E hG a)
  | .rng2 a b => vs_rng2 a b (ved_E hG a) (ved_E hG b)
  | .rng3 a b c => vs_rng3 a b c (ved_E hG a) (ved_E hG b) (ved_E hG c)
  | .enum e => vs_enum e (ved_E hG e)
  | .zip a b => vs_zip a b (ved_E hG a) (ved_E hG b)
end
/-! statements -/
end
def rdFx (P : List Nat) : Src → Bool
  | s => rdSrc P s
mutual
def vwS (P : List Nat) : S → Bool
  | .asg _ _ e => sxE P e
  | .par _ _ es => sxEs P es
  | .unp _ e => rdE P e
  | .aug _ _ e => rdE P e
  | .app _ e => sxE P e
  | .pop _ => true
  | .seti _ k e => rdE P k && sxE P e
  | .ex e => rdE P e
  | .ife c a b => rdE P c && vwSs P a && vwSs P b
  | .for _ src b => rdSrc P src && vwSs P b
  | .while _ c b => rdE P c && vwSs P b
  | .ret e => sxE P e
  | .stop => true
  | .rais _ _ => true
  | .rvs _ => true
  | _ => false
def vwSs (P : List Nat) : Ss → Bool
  | .nil => true
  | .cons s ss => vwS P s && vwSs P ss
  | .frz _ ss => vwSs P ss
end
/-- the outcomes go on alike -/
def OV (P : List Nat) (o o' : Out) : Prop := (∃ r, o = .ret r ∧ o' = .ret r) ∨ ∃ env env', o = .next env ∧ o' = .next env' ∧ EnvV P env env'
section
variable {P : List Nat} {G : Gm}
def VSt (P : List Nat) (G : Gm) (s : S) : Prop := vwS P s = true → ∀ env env', EnvV P env env' → ∀ o', exec G s env' = some o' → ∃ o, exec G s env = some o ∧ OV P o o'
def VSs (P : List Nat) (G : Gm) (s : Ss) : Prop := vwSs P s = true → ∀ env env', EnvV P env env' → ∀ o', execs G s env' = some o' → ∃ o, execs G s env = some o ∧ OV P o o'
theorem OV.next {env env' : Env} (h : EnvV P env env') : OV P (.next env) (.next env') := .inr ⟨_, _, rfl, rfl, h⟩
theorem EnvV.own {env env' : Env} (h : EnvV P env env') {i : Nat} {ds : List D} (e : env'[i]? = some (some (.own ds))) : env[i]? = some (some (.own ds)) := by
  rcases h.2 i with q | ⟨_, es, q1, q2⟩
  · rw [q]; exact e
  · rw [q2] at e; cases e
theorem EnvV.fzi {env env' : Env} (h : EnvV P env env') {i : Nat} {x : Int} (e : env'[i]? = some (some (.fz (.int x)))) : env[i]? = some (some (.fz (.int x))) := by
  rcases h.2 i with q | ⟨_, es, q1, q2⟩
  · rw [q]; exact e
  · rw [q2] at e; cases e
theorem EnvV.put' {env env' r' : Env} (h : EnvV P env env') {i : Nat} {m : Bool} {r : R} (e : put i m r env' = some r') : ∃ r1, put i m r env = some r1 ∧ EnvV P r1 r' := by
  cases r with
  | val d => cases e; exact ⟨_, rfl, h.set i _⟩
  | fresh ds => cases e; exact ⟨_, rfl, h.set i _⟩
  | vown ds => cases e
  | vpar ds => cases e
theorem EnvV.setSls' : ∀ (is : List Nat) (ss : List Sl) {env env' r' : Env}, EnvV P env env' → setSls is ss env' = some r' → ∃ r, setSls is ss env = some r ∧ EnvV P r r'
  | [], [], _, _, _, h, e => by cases e; exact ⟨_, rfl, h⟩
  | i :: is, s :: ss, _, _, _, h, e => by
    simp only [setSls] at e ⊢
    exact EnvV.setSls' is ss (h.set i _) e
  | [], _ :: _, _, _, _, _, e => by simp only [setSls] at e; cases e
  | _ :: _, [], _, _, _, _, e => by simp only [setSls] at e; cases e
theorem EnvV.freeze' {env env' : Env} (h : EnvV P env env') (i : Nat) : EnvV P (freeze i env) (freeze i env') := by
  rcases h.2 i with q | ⟨_, es, q1, q2⟩
  · simp only [freeze, q]
    split
    · exact h.set i _
    · exact h
  · simp only [freeze, q1, q2]; exact h
theorem evM_v (hG : GV G) {env env' : Env} (hv : EnvV P env env') : ∀ (es : Es) (ms : List Bool) (r' : List Sl), sxEs P es = true → evM G es ms env' = some r' → evM G es ms env = some r'
  | .nil, [], _, _, e => e
  | .nil, _ :: _, _, _, e => by simp only [evM] at e; cases e
  | .cons _ _, [], _, _, e => by simp only [evM] at e; cases e
  | .cons a es, m :: ms, r', h, e => by
    simp only [sxEs, Bool.and_eq_true] at h
    simp only [evM] at e ⊢
    cases e0 : ev G a env' with
    | none => rw [e0] at e; cases e
    | some x =>
      rw [e0] at e
      rw [(ved_E P hG a).sx h.1 env env' hv _ e0]
      split at e <;> try (cases e; done)
      rename_i d e1
      split at e <;> try (cases e; done)
      rename_i ds e2
      simp only [e1, evM_v hG hv es ms _ h.2 e2]; exact e
theorem srcFix_v (hG : GV G) {env env' : Env} (hv : EnvV P env env') (s : Src) (h : rdSrc P s = true) (r' : List D) (e : evS G s env' = some r') (f : srcFix G s env' = true) : srcFix G s env = true := by
  have key : ∀ a : E, rdE P a = true → ∀ x, ev G a env' = some x → (match ev G a env' with | some (.vown _) => false | _ => true) = true → (match ev G a env with | some (.vown _) => false | _ => true) = true := by
    intro a ha x ea q
    obtain ⟨y, ey, vy⟩ := (ved_E P hG a).rd ha env env' hv x ea
    rw [ea] at q
    rw [ey]
    rcases vy with rfl | ⟨ds, rfl, rfl⟩
    · exact q
    · rfl
  cases s with
  | seq a =>
    simp only [rdSrc] at h
    simp only [evS] at e
    simp only [srcFix] at f ⊢
    cases e0 : ev G a env' with
    | none => rw [e0] at e; cases e
    | some x => exact key a h x e0 f
  | enum a =>
    simp only [rdSrc] at h
    simp only [evS] at e
    simp only [srcFix] at f ⊢
    cases e0 : ev G a env' with
    | none => rw [e0] at e; cases e
    | some x => exact key a h x e0 f
  | zip a b =>
    simp only [rdSrc, Bool.and_eq_true] at h
    simp only [evS] at e
    simp only [srcFix, Bool.and_eq_true] at f ⊢
    cases e0 : ev G a env' with
    | none => rw [e0] at e; cases e
    | some x =>
      cases e1 : ev G b env' with
      | none => rw [e0, e1] at e; cases e
      | some y => exact ⟨key a h.1 x e0 f.1, key b h.2 y e1 f.2⟩
  | rng1 a => rfl
  | rng2 a b => rfl
  | rng3 a b c => rfl
theorem forLoop_v {b : Ss} (hb : VSs P G b) (h : vwSs P b = true) (tg : Tg) : ∀ (items : List D) (env env' : Env), EnvV P env env' → ∀ o', forLoop (bindT tg) (execs G b) items env' = some o' → ∃ o, forLoop (bindT tg) (execs G b) items env = some o ∧ OV P o o'
  | [], env, env', hv, o', e => by cases e; exact ⟨_, rfl, .next hv⟩
  | x :: r, env, env', hv, o', e => by
    simp only [forLoop] at e ⊢
    split at e <;> try (cases e; done)
    rename_i n1 b1
    obtain ⟨n2, b2, v2⟩ := hv.bind tg x b1
    rw [b2]
    simp only []
    split at e <;> try (cases e; done)
    · rename_i n3 c1
      obtain ⟨o, c2, w⟩ := hb h _ _ v2 _ c1
      rcases w with ⟨r, rfl, q⟩ | ⟨m1, m2, rfl, q, w⟩
      · cases q
      · cases q
        rw [c2]
        exact forLoop_v hb h tg r _ _ w _ e
    · rename_i n3 c1
      obtain ⟨o, c2, w⟩ := hb h _ _ v2 _ c1
      rcases w with ⟨r, rfl, q⟩ | ⟨m1, m2, rfl, q, w⟩
      · cases q
        cases e
        rw [c2]
        exact ⟨_, rfl, .inl ⟨_, rfl, rfl⟩⟩
      · cases q
theorem whileLoop_v (hG : GV G) {b : Ss} (hb : VSs P G b) (h : vwSs P b = true) (c : E) (hc : rdE P c = true) : ∀ (n : Nat) (env env' : Env), EnvV P env env' → ∀ o', whileLoop (ev G c) (execs G b) n env' = some o' → ∃ o, whileLoop (ev G c) (execs G b) n env = some o ∧ OV P o o'
  | 0, env, env', hv, o', e => by cases e
  | n + 1, env, env', hv, o', e => by
    simp only [whileLoop] at e ⊢
    split at e <;> try (cases e; done)
    · rename_i e1
      rw [(ved_E P hG c).rx hc env env' hv _ e1]
      cases e
      exact ⟨_, rfl, .next hv⟩
    · rename_i e1
      rw [(ved_E P hG c).rx hc env env' hv _ e1]
      simp only []
      split at e <;> try (cases e; done)
      · rename_i n3 c1
        obtain ⟨o, c2, w⟩ := hb h _ _ hv _ c1
        rcases w with ⟨r, rfl, q⟩ | ⟨m1, m2, rfl, q, w⟩
        · cases q
        · cases q
          rw [c2]
          exact whileLoop_v hG hb h c hc n _ _ w _ e
      · rename_i n3 c1
        obtain ⟨o, c2, w⟩ := hb h _ _ hv _ c1
        rcases w with ⟨r, rfl, q⟩ | ⟨m1, m2, rfl, q, w⟩
        · cases q
          cases e
          rw [c2]
          exact ⟨_, rfl, .inl ⟨_, rfl, rfl⟩⟩
        · cases q
variable (P) in
mutual
theorem vst (hG : GV G) : ∀ s : S, VSt P G s
  | .asg i m a => fun h env env' hv o' e => by
    simp only [vwS] at h
    simp only [exec] at e ⊢
    split at e <;> try (cases e; done)
    rename_i r e1
    rw [(ved_E P hG a).sx h env env' hv _ e1]
    simp only [Option.map_eq_some_iff] at e
    obtain ⟨n, e2, rfl⟩ := e
    obtain ⟨n2, e3, v⟩ := hv.put' e2
    exact ⟨.next n2, by simp only [e3, Option.map_some], .next v⟩
  | .par is ms es => fun h env env' hv o' e => by
    simp only [vwS] at h
    simp only [exec] at e ⊢
    split at e <;> try (cases e; done)
    rename_i rs e1
    rw [evM_v hG hv es ms _ h e1]
    simp only [Option.map_eq_some_iff] at e
    obtain ⟨n, e2, rfl⟩ := e
    obtain ⟨n2, e3, v⟩ := EnvV.setSls' is rs hv e2
    exact ⟨.next n2, by simp only [e3, Option.map_some], .next v⟩
  | .unp is a => fun h env env' hv o' e => by
    simp only [vwS] at h
    simp only [exec] at e ⊢
    split at e <;> try (cases e; done)
    rename_i ds e1
    rw [(ved_E P hG a).rx h env env' hv _ e1]
    simp only [Option.map_eq_some_iff] at e
    obtain ⟨n, e2, rfl⟩ := e
    obtain ⟨n2, e3, v⟩ := EnvV.setAll' is ds hv e2
    exact ⟨.next n2, by simp only [e3, Option.map_some], .next v⟩
  | .aug i op a => fun h env env' hv o' e => by
    simp only [vwS] at h
    simp only [exec] at e ⊢
    split at e <;> try (cases e; done)
    rename_i x e0
    rw [hv.fzi e0]
    simp only []
    split at e <;> try (cases e; done)
    rename_i y e1
    rw [(ved_E P hG a).rx h env env' hv _ e1]
    simp only []
    cases op <;> try (cases e; done)
    · cases e; exact ⟨_, rfl, .next (hv.set i _)⟩
    · cases e; exact ⟨_, rfl, .next (hv.set i _)⟩
  | .app i a => fun h env env' hv o' e => by
    simp only [vwS] at h
    simp only [exec] at e ⊢
    split at e <;> try (cases e; done)
    rename_i x e0
    rw [hv.own e0]
    simp only []
    cases e1 : ev G a env' with
    | none => rw [e1] at e; cases e
    | some y =>
      rw [e1] at e
      rw [(ved_E P hG a).sx h env env' hv _ e1]
      split at e <;> try (cases e; done)
      rename_i d e2
      split at e <;> try (cases e; done)
      rename_i e3
      cases e
      exact ⟨_, if_pos e3, .next (hv.set i _)⟩
  | .pop i => fun h env env' hv o' e => by
    simp only [exec] at e ⊢
    split at e <;> try (cases e; done)
    rename_i x e0
    rw [hv.own e0]
    simp only []
    split at e <;> try (cases e; done)
    rename_i e3
    cases e
    exact ⟨_, if_neg e3, .next (hv.set i _)⟩
  | .seti i k a => fun h env env' hv o' e => by
    simp only [vwS, Bool.and_eq_true] at h
    simp only [exec] at e ⊢
    split at e <;> try (cases e; done)
    rename_i x e0
    rw [hv.own e0]
    simp only []
    cases e1 : ev G a env' with
    | none => rw [e1] at e; cases e
    | some y =>
      rw [e1] at e
      rw [(ved_E P hG a).sx h.2 env env' hv _ e1]
      split at e <;> try (cases e; done)
      rename_i d e2
      split at e <;> try (cases e; done)
      rename_i z e3
      rw [(ved_E P hG k).rx h.1 env env' hv _ e3]
      simp only []
      split at e <;> try (cases e; done)
      cases e
      exact ⟨_, rfl, .next (hv.set i _)⟩
  | .ex a => fun h env env' hv o' e => by
    simp only [vwS] at h
    simp only [exec] at e ⊢
    split at e <;> try (cases e; done)
    rename_i x e1
    obtain ⟨x', f1, v1⟩ := (ved_E P hG a).rd h env env' hv x e1
    rw [f1]
    cases e
    exact ⟨_, rfl, .next hv⟩
  | .ife c a b => fun h env env' hv o' e => by
    simp only [vwS, Bool.and_eq_true] at h
    simp only [exec] at e ⊢
    split at e <;> try (cases e; done)
    · rename_i e1
      rw [(ved_E P hG c).rx h.1.1 env env' hv _ e1]
      exact vss hG a h.1.2 env env' hv o' e
    · rename_i e1
      rw [(ved_E P hG c).rx h.1.1 env env' hv _ e1]
      exact vss hG b h.2 env env' hv o' e
  | .for tg src b => fun h env env' hv o' e => by
    simp only [vwS, Bool.and_eq_true] at h
    simp only [exec] at e ⊢
    split at e <;> try (cases e; done)
    rename_i e0
    split at e <;> try (cases e; done)
    rename_i items e1
    rw [if_pos (srcFix_v hG hv src h.1 _ e1 e0), ved_S P hG src h.1 env env' hv _ e1]
    exact forLoop_v (vss hG b) h.2 tg items env env' hv o' e
  | .while n c b => fun h env env' hv o' e => by
    simp only [vwS, Bool.and_eq_true] at h
    simp only [exec] at e ⊢
    exact whileLoop_v hG (vss hG b) h.2 c h.1 n env env' hv o' e
  | .ret a => fun h env env' hv o' e => by
    simp only [vwS] at h
    simp only [exec] at e ⊢
    cases e1 : ev G a env' with
    | none => rw [e1] at e; cases e
    | some y =>
      rw [e1] at e
      rw [(ved_E P hG a).sx h env env' hv _ e1]
      cases y <;> cases e <;> exact ⟨_, rfl, .inl ⟨_, rfl, rfl⟩⟩
  | .stop => fun h env env' hv o' e => by simp only [exec] at e; cases e
  | .rais c x => fun h env env' hv o' e => by simp only [exec] at e; cases e
  | .rvs i => fun h env env' hv o' e => by
    simp only [exec] at e ⊢
    split at e <;> try (cases e; done)
    rename_i x e0
    rw [hv.own e0]
    cases e
    exact ⟨_, rfl, .next (hv.set i _)⟩
  | .mcal f i es => fun h => by simp only [vwS] at h; cases h
  | .mcalE f a => fun h => by simp only [vwS] at h; cases h
theorem vss (hG : GV G) : ∀ s : Ss, VSs P G s
  | .nil => fun h env env' hv o' e => by cases e; exact ⟨_, rfl, .next hv⟩
  | .cons s ss => fun h env env' hv o' e => by
    simp only [vwSs, Bool.and_eq_true] at h
    simp only [execs] at e ⊢
    split at e <;> try (cases e; done)
    · rename_i n1 e1
      obtain ⟨o, e2, w⟩ := vst hG s h.1 env env' hv _ e1
      rcases w with ⟨r, rfl, q⟩ | ⟨m1, m2, rfl, q, w⟩
      · cases q
      · cases q
        rw [e2]
        exact vss hG ss h.2 _ _ w _ e
    · rename_i n1 e1
      obtain ⟨o, e2, w⟩ := vst hG s h.1 env env' hv _ e1
      rcases w with ⟨r, rfl, q⟩ | ⟨m1, m2, rfl, q, w⟩
      · cases q
        cases e
        rw [e2]
        exact ⟨_, rfl, .inl ⟨_, rfl, rfl⟩⟩
      · cases q
  | .frz i ss => fun h env env' hv o' e => by
    simp only [vwSs] at h
    simp only [execs] at e ⊢
    exact vss hG ss h _ _ (hv.freeze' i) _ e
end
end
theorem SlVs.len {as as' : List Sl} (h : SlVs as as') : as.length = as'.length := by
  induction h with
  | nil => rfl
  | cons _ _ ih => simp [ih]
theorem SlVs.at {as as' : List Sl} (h : SlVs as as') : ∀ i : Nat, as[i]? = as'[i]? ∨ (i < as.length ∧ ∃ ds, as[i]? = some (.vw ds) ∧ as'[i]? = some (.fz (.lst ds))) := by
  induction h with
  | nil => intro i; exact .inl rfl
  | cons q _ ih =>
    intro i
    cases i with
    | zero =>
      rcases q with rfl | ⟨ds, rfl, rfl⟩
      · exact .inl rfl
      · exact .inr ⟨by simp, ds, rfl, rfl⟩
    | succ i =>
      rcases ih i with q | ⟨l, ds, q1, q2⟩
      · exact .inl (by simpa using q)
      · exact .inr ⟨by simpa using l, ds, by simpa using q1, by simpa using q2⟩
theorem run_v {G : Gm} (hG : GV G) (ar n : Nat) (b : Ss) (hb : vwSs (List.range ar) b = true) {as as' : List Sl} (h : SlVs as as') {r : R} (e : run G ar n b as' = some r) : run G ar n b as = some r := by
  unfold run at e ⊢
  have hl := h.len
  split at e <;> try (cases e; done)
  rename_i ha
  rw [if_pos (by omega)]
  have hv : EnvV (List.range ar) (as.map some ++ List.replicate (n - as.length) none) (as'.map some ++ List.replicate (n - as'.length) none) := by
    refine ⟨by simp [hl], fun i => ?_⟩
    rcases Nat.lt_or_ge i as.length with q | q
    · rw [List.getElem?_append_left (by simpa using q), List.getElem?_append_left (by simpa [← hl] using q), List.getElem?_map, List.getElem?_map]
      rcases h.at i with w | ⟨_, ds, w1, w2⟩
      · left; rw [w]
      · right; exact ⟨List.mem_range.2 (by omega), ds, by rw [w1]; rfl, by rw [w2]; rfl⟩
    · left
      rw [List.getElem?_append_right (by simpa using q), List.getElem?_append_right (by simpa [← hl] using q)]
      simp [hl]
  split at e <;> try (cases e; done)
  · rename_i r1 e1
    obtain ⟨o, e2, w⟩ := vss (List.range ar) hG b hb _ _ hv _ e1
    rcases w with ⟨r, rfl, q⟩ | ⟨m1, m2, rfl, q, w⟩
    · cases q; rw [e2]; exact e
    · cases q
  · rename_i r1 e1
    obtain ⟨o, e2, w⟩ := vss (List.range ar) hG b hb _ _ hv _ e1
    rcases w with ⟨r, rfl, q⟩ | ⟨m1, m2, rfl, q, w⟩
    · cases q
    · cases q; rw [e2]; exact e
theorem GV.nil : GV Gm.nil := fun f sem as as' r e => by cases e
theorem GV.add {G : Gm} (hG : GV G) (f : Nat) (ar n : Nat) (b : Ss) (hb : vwSs (List.range ar) b = true) : GV (G.add f (run G ar n b)) := by
  intro g sem as as' r e h q
  unfold Gm.add at e
  split at e
  · cases e
    exact run_v hG ar n b hb h q
  · exact hG g sem as as' r e h q
end Mc
namespace Mc
open PySem
theorem GV.add' {G : Gm} (hG : GV G) (f : Nat) (sem : List Sl → Option R) (hs : ∀ as as' r, SlVs as as' → sem as' = some r → sem as = some r) : GV (G.add f sem) := by
  intro g sem' as as' r e h q
  unfold Gm.add at e
  split at e
  · cases e
    exact hs _ _ _ h q
  · exact hG g sem' as as' r e h q
theorem whileLoop_none {c : Env → Option R} {b : Env → Option Out} {n : Nat} {env : Env} (h : c env = none) : whileLoop c b n env = none := by
  cases n with
  | zero => rfl
  | succ n => simp only [whileLoop, h]
theorem low_no (G : Gm) (s t : Sl) (ds : List D) (h : s = .fz (.lst ds) ∨ t = .fz (.lst ds)) : run G 2 4 Pg.p_lowest [s, t] = none := by
  unfold Pg.p_lowest
  generalize 2 ^ 10000 = n
  cases n with
  | zero =>
    cases s <;> cases t <;> simp [run, execs, exec, evM, ev, R.asSl, setSls, setE, whileLoop]
  | succ n =>
    rcases h with rfl | rfl
    · cases t with
      | fz d =>
        cases d with
        | int j =>
          by_cases hj : 0 < j <;> simp [run, execs, exec, evM, ev, evV, R.asSl, setSls, setE, whileLoop, cmpD, binD, R.data, hj]
        | _ => simp [run, execs, exec, evM, ev, R.asSl, setSls, setE, whileLoop, cmpD, R.data]
      | _ => simp [run, execs, exec, evM, ev, R.asSl]
    · cases s <;> simp [run, execs, exec, evM, ev, R.asSl, setSls, setE, whileLoop, cmpD, R.data]
theorem low_gv (G : Gm) : ∀ as as' r, SlVs as as' → run G 2 4 Pg.p_lowest as' = some r → run G 2 4 Pg.p_lowest as = some r := by
  intro as as' r h e
  have hl : as'.length = 2 := by
    unfold run at e
    split at e
    · assumption
    · cases e
  cases h with
  | nil => cases hl
  | cons h1 h =>
    cases h with
    | nil => cases hl
    | cons h2 h =>
      cases h with
      | cons _ _ => simp at hl
      | nil =>
        rcases h1 with rfl | ⟨ds, rfl, rfl⟩
        · rcases h2 with rfl | ⟨ds, rfl, rfl⟩
          · exact e
          · rw [low_no G _ _ ds (.inr rfl)] at e; cases e
        · rw [low_no G _ _ ds (.inl rfl)] at e; cases e
end Mc
namespace K10
open Mc PySem
def noLst (d : D) : Bool := isiD .list d == some false
/-- what _law_spoiled makes of a list without lists -/
def handSem (as : List Sl) : Option R := match as with
  | [.vw ds] => if ds.all noLst && decide (ds.length < LINE) then some (.fresh (ds ++ [D.int 99]).reverse) else none
  | _ => none
end K10
namespace K10
open PySem PySem.Spec PyProof.Rows L2 Mc
def topS (i : Nat) : Stmt := PySem.Challenge.pw_bracketchains_k10_handed_stays.main.body.getD i (.Pass ⟨0, 0, 0, 0⟩)
def gi0 : Gi := { fns := (["is_set", "check_set", "loose_of", "with_signs", "row_of", "row", "beside", "above", "below", "is_number", "check_length", "picks", "rests_of", "rows", "row_by", "number_of", "marks_of", "holds", "is_within", "ways"] : List Str) ++ (["first_within", "check_family", "check_leasts", "says_yes", "says", "is_settled", "learnt", "lowest", "share_of", "apart", "_law_length", "_law_sets", "_law_picks", "_law_inside", "_law_every", "_law_whole", "_law_part", "_law_marks", "_law_family", "_law_share"] : List Str) ++ (["_law_none_within", "_law_right", "law", "_law_copied", "_law_spoiled", "_law_laid", "_law_door_right", "_law_told", "_law_free_right"] : List Str), csts := [("LONGEST", 200), ("LONGEST_LEARNT", 8)], cls := [("Answer", []), ("Apart", ["share"]), ("Within", ["one", "other"])], meths := [((1, "shows"), 200), ((2, "shows"), 201)], isa := [((0, 0), true), ((1, 0), true), ((2, 0), true), ((0, 1), false), ((1, 1), true), ((2, 1), false), ((0, 2), false), ((1, 2), false), ((2, 2), true)], muts := [(500, "_law_spoiled"), (501, "_law_laid")], exs := [(0, "BadSet"), (1, "BadLength"), (2, "BadNumber"), (3, "BadFamily")] }
def eL300 : E := (.mcall "shows" [(1, 200), (2, 201)] (.slot 0) (.cons (.slot 1) .nil))
def eL301 : E := (.call 29 (.cons (.slot 0) .nil))
def eL302 : E := (.lst (.cons (.call 24 (.cons (.slot 0) (.cons (.str [120, 120, 120, 45, 45, 45]) .nil))) (.cons (.call 24 (.cons (.slot 0) (.cons (.str [120, 120, 120, 120, 120, 120]) .nil))) (.cons (.call 24 (.cons (.slot 0) (.cons (.str [45, 45, 45, 45, 45, 45]) .nil))) .nil))))
def eL303 : E := (.call 26 (.cons (.int 6) (.cons (.slot 0) .nil)))
def eL304 : E := (.call 5 (.cons (.sub (.slot 0) (.int 0)) .nil))
def eL305 : E := (.call 14 (.cons (.sub (.slot 0) (.int 0)) (.cons (.sub (.slot 0) (.int 1)) .nil)))
def lamT : LamT := [(300, (["_law_found", "_law_it"], ["_law_found", "_law_it"], eL300)), (301, (["_law_it"], ["_law_it"], eL301)), (302, (["_law_it"], ["_law_it"], eL302)), (303, (["_law_it"], ["_law_it"], eL303)), (304, (["_law_it"], ["_law_it"], eL304)), (305, (["_law_it"], ["_law_it"], eL305))]
def gi : Gi := gi0.withL lamT
def mS (i j : Nat) : Stmt := inClass (topS i) j
abbrev stI1 : Stmt := mS 20 0
theorem scI1 : FnScope ["self", "share"] ["self", "share"] (defScope stI1) := ⟨rfl, rfl, rfl, by decide +kernel, rfl, by decide +kernel, by decide +kernel⟩
abbrev stI2 : Stmt := mS 21 0
theorem scI2 : FnScope ["self", "one", "other"] ["self", "one", "other"] (defScope stI2) := ⟨rfl, rfl, rfl, by decide +kernel, rfl, by decide +kernel, by decide +kernel⟩
def G0 : Gm := Gm.nil
def Z0 : Xm := Xm.nil
/-! is_number -/
abbrev st0 : Stmt := topS 8
def b0 : Ss := Pg.p_is_number
theorem sc0 : FnScope ["thing", "least", "most"] ["thing", "least", "most"] (defScope st0) := ⟨rfl, rfl, rfl, by decide +kernel, rfl, by decide +kernel, by decide +kernel⟩
theorem ok0 : okSs gi ⟨["thing", "least", "most"], defScope st0, defScope st0, false⟩ b0 (defBody st0) = true := by decide +kernel
def f0 : List Sl → Option R := run G0 3 3 b0
def G1 : Gm := G0.add 9 f0
def Z1 : Xm := Z0
/-! is_set -/
abbrev st1 : Stmt := topS 9
def b1 : Ss := Pg.p_is_set
theorem sc1 : FnScope ["thing", "sign"] ["thing"] (defScope st1) := ⟨rfl, rfl, rfl, by decide +kernel, rfl, by decide +kernel, by decide +kernel⟩
theorem ok1 : okSs gi ⟨["thing", "sign"], defScope st1, defScope st1, false⟩ b1 (defBody st1) = true := by decide +kernel
def f1 : List Sl → Option R := run G1 1 2 b1
def G2 : Gm := G1.add 0 f1
def Z2 : Xm := Z1
/-! check_set -/
abbrev st2 : Stmt := topS 10
def b2 : Ss := Pg.p_check_set
theorem sc2 : FnScope ["some"] ["some"] (defScope st2) := ⟨rfl, rfl, rfl, by decide +kernel, rfl, by decide +kernel, by decide +kernel⟩
theorem ok2 : okSs gi ⟨["some"], defScope st2, defScope st2, false⟩ b2 (defBody st2) = true := by decide +kernel
def f2 : List Sl → Option R := run G2 1 1 b2
def G3 : Gm := G2.add 1 f2
def x2 : List Sl → Option Nat := xrun G2 Z2 1 1 b2
def Z3 : Xm := Z2.add 1 x2
/-! check_length -/
abbrev st3 : Stmt := topS 11
def b3 : Ss := Pg.p_check_length
theorem sc3 : FnScope ["length"] ["length"] (defScope st3) := ⟨rfl, rfl, rfl, by decide +kernel, rfl, by decide +kernel, by decide +kernel⟩
theorem ok3 : okSs gi ⟨["length"], defScope st3, defScope st3, false⟩ b3 (defBody st3) = true := by decide +kernel
def f3 : List Sl → Option R := run G3 1 1 b3
def G4 : Gm := G3.add 10 f3
def x3 : List Sl → Option Nat := xrun G3 Z3 1 1 b3
def Z4 : Xm := Z3.add 10 x3
/-! marks_of -/
abbrev st4 : Stmt := topS 12
def b4 : Ss := Pg.p_marks_of
theorem sc4 : FnScope ["some", "found", "sign"] ["some"] (defScope st4) := ⟨rfl, rfl, rfl, by decide +kernel, rfl, by decide +kernel, by decide +kernel⟩
theorem ok4 : okSs gi ⟨["some", "found", "sign"], defScope st4, defScope st4, false⟩ b4 (defBody st4) = true := by decide +kernel
def f4 : List Sl → Option R := run G4 1 3 b4
def G5 : Gm := G4.add 16 f4
def Z5 : Xm := Z4
/-! holds -/
abbrev st5 : Stmt := topS 13
def b5 : Ss := Pg.p_holds
theorem sc5 : FnScope ["one", "other"] ["one", "other"] (defScope st5) := ⟨rfl, rfl, rfl, by decide +kernel, rfl, by decide +kernel, by decide +kernel⟩
theorem ok5 : okSs gi ⟨["one", "other"], defScope st5, defScope st5, false⟩ b5 (defBody st5) = true := by decide +kernel
def f5 : List Sl → Option R := run G5 2 2 b5
def G6 : Gm := G5.add 17 f5
def Z6 : Xm := Z5
/-! picks -/
abbrev st6 : Stmt := topS 14
def b6 : Ss := Pg.p_picks
theorem sc6 : FnScope ["length", "size", "found", "picked"] ["length", "size"] (defScope st6) := ⟨rfl, rfl, rfl, by decide +kernel, rfl, by decide +kernel, by decide +kernel⟩
theorem ok6 : okSs gi ⟨["length", "size", "found", "picked"], defScope st6, defScope st6, false⟩ b6 (defBody st6) = true := by decide +kernel
def f6 : List Sl → Option R := run G6 2 4 b6
def G7 : Gm := G6.add 11 f6
def Z7 : Xm := Z6
/-! lowest -/
abbrev st7 : Stmt := topS 17
def b7 : Ss := Pg.p_lowest
theorem sc7 : FnScope ["above", "below", "one", "other"] ["above", "below"] (defScope st7) := ⟨rfl, rfl, rfl, by decide +kernel, rfl, by decide +kernel, by decide +kernel⟩
theorem ok7 : okSs gi ⟨["above", "below", "one", "other"], defScope st7, defScope st7, false⟩ b7 (defBody st7) = true := by decide +kernel
def f7 : List Sl → Option R := run G7 2 4 b7
def G8 : Gm := G7.add 27 f7
def Z8 : Xm := Z7
/-! share_of -/
abbrev st8 : Stmt := topS 18
def b8 : Ss := Pg.p_share_of
theorem sc8 : FnScope ["family", "above", "below", "some", "many"] ["family"] (defScope st8) := ⟨rfl, rfl, rfl, by decide +kernel, rfl, by decide +kernel, by decide +kernel⟩
theorem ok8 : okSs gi ⟨["family", "above", "below", "some", "many"], defScope st8, defScope st8, false⟩ b8 (defBody st8) = true := by decide +kernel
def f8 : List Sl → Option R := run G8 1 5 b8
def G9 : Gm := G8.add 28 f8
def Z9 : Xm := Z8
/-! first_within -/
abbrev st9 : Stmt := topS 19
def b9 : Ss := Pg.p_first_within
theorem sc9 : FnScope ["family", "marks", "some", "one", "mine", "other", "theirs"] ["family"] (defScope st9) := ⟨rfl, rfl, rfl, by decide +kernel, rfl, by decide +kernel, by decide +kernel⟩
theorem ok9 : okSs gi ⟨["family", "marks", "some", "one", "mine", "other", "theirs"], defScope st9, defScope st9, false⟩ b9 (defBody st9) = true := by decide +kernel
def f9 : List Sl → Option R := run G9 1 7 b9
def G10 : Gm := G9.add 20 f9
def Z10 : Xm := Z9
/-! Apart_shows -/
abbrev st10 : Stmt := mS 20 1
def b10 : Ss := Pg.p_Apart_shows
theorem sc10 : FnScope ["self", "family"] ["self", "family"] (defScope st10) := ⟨rfl, rfl, rfl, by decide +kernel, rfl, by decide +kernel, by decide +kernel⟩
theorem ok10 : okSs gi ⟨["self", "family"], defScope st10, defScope st10, false⟩ b10 (defBody st10) = true := by decide +kernel
def f10 : List Sl → Option R := run G10 2 2 b10
def G11 : Gm := G10.add 200 f10
def Z11 : Xm := Z10
/-! Within_shows -/
abbrev st11 : Stmt := mS 21 1
def b11 : Ss := Pg.p_Within_shows
theorem sc11 : FnScope ["self", "family"] ["self", "family"] (defScope st11) := ⟨rfl, rfl, rfl, by decide +kernel, rfl, by decide +kernel, by decide +kernel⟩
theorem ok11 : okSs gi ⟨["self", "family"], defScope st11, defScope st11, false⟩ b11 (defBody st11) = true := by decide +kernel
def f11 : List Sl → Option R := run G11 2 2 b11
def G12 : Gm := G11.add 201 f11
def Z12 : Xm := Z11
/-! check_family -/
abbrev st12 : Stmt := topS 23
def b12 : Ss := Pg.p_check_family
theorem sc12 : FnScope ["family", "some"] ["family"] (defScope st12) := ⟨rfl, rfl, rfl, by decide +kernel, rfl, by decide +kernel, by decide +kernel⟩
theorem ok12 : okSs gi ⟨["family", "some"], defScope st12, defScope st12, false⟩ b12 (defBody st12) = true := by decide +kernel
def f12 : List Sl → Option R := run G12 1 2 b12
def G13 : Gm := G12.add 21 f12
def x12 : List Sl → Option Nat := xrun G12 Z12 1 2 b12
def Z13 : Xm := Z12.add 21 x12
/-! apart -/
abbrev st13 : Stmt := topS 24
def b13 : Ss := Pg.p_apart
theorem sc13 : FnScope ["family", "found"] ["family"] (defScope st13) := ⟨rfl, rfl, rfl, by decide +kernel, rfl, by decide +kernel, by decide +kernel⟩
theorem ok13 : okSs gi ⟨["family", "found"], defScope st13, defScope st13, false⟩ b13 (defBody st13) = true := by decide +kernel
def f13 : List Sl → Option R := run G13 1 2 b13
def G14 : Gm := G13.add 29 f13
def x13 : List Sl → Option Nat := xrun G13 Z13 1 2 b13
def Z14 : Xm := Z13.add 29 x13
/-! loose_of -/
abbrev st14 : Stmt := topS 26
def b14 : Ss := Pg.p_loose_of
theorem sc14 : FnScope ["some", "waiting", "loose", "place", "sign"] ["some"] (defScope st14) := ⟨rfl, rfl, rfl, by decide +kernel, rfl, by decide +kernel, by decide +kernel⟩
theorem ok14 : okSs gi ⟨["some", "waiting", "loose", "place", "sign"], defScope st14, defScope st14, false⟩ b14 (defBody st14) = true := by decide +kernel
def f14 : List Sl → Option R := run G14 1 5 b14
def G15 : Gm := G14.add 2 f14
def Z15 : Xm := Z14
/-! with_signs -/
abbrev st15 : Stmt := topS 27
def b15 : Ss := Pg.p_with_signs
theorem sc15 : FnScope ["some", "places", "many", "signs", "at", "place"] ["some", "places", "many"] (defScope st15) := ⟨rfl, rfl, rfl, by decide +kernel, rfl, by decide +kernel, by decide +kernel⟩
theorem ok15 : okSs gi ⟨["some", "places", "many", "signs", "at", "place"], defScope st15, defScope st15, false⟩ b15 (defBody st15) = true := by decide +kernel
def f15 : List Sl → Option R := run G15 3 6 b15
def G16 : Gm := G15.add 3 f15
def Z16 : Xm := Z15
/-! row_of -/
abbrev st16 : Stmt := topS 28
def b16 : Ss := Pg.p_row_of
theorem sc16 : FnScope ["some", "places", "many"] ["some"] (defScope st16) := ⟨rfl, rfl, rfl, by decide +kernel, rfl, by decide +kernel, by decide +kernel⟩
theorem ok16 : okSs gi ⟨["some", "places", "many"], defScope st16, defScope st16, false⟩ b16 (defBody st16) = true := by decide +kernel
def f16 : List Sl → Option R := run G16 1 3 b16
def G17 : Gm := G16.add 4 f16
def Z17 : Xm := Z16
/-! row -/
abbrev st17 : Stmt := topS 29
def b17 : Ss := Pg.p_row
theorem sc17 : FnScope ["some"] ["some"] (defScope st17) := ⟨rfl, rfl, rfl, by decide +kernel, rfl, by decide +kernel, by decide +kernel⟩
theorem ok17 : okSs gi ⟨["some"], defScope st17, defScope st17, false⟩ b17 (defBody st17) = true := by decide +kernel
def f17 : List Sl → Option R := run G17 1 1 b17
def G18 : Gm := G17.add 5 f17
def x17 : List Sl → Option Nat := xrun G17 Z17 1 1 b17
def Z18 : Xm := Z17.add 5 x17
/-! rests_of -/
abbrev st18 : Stmt := topS 30
def b18 : Ss := Pg.p_rests_of
theorem sc18 : FnScope ["length", "found", "waiting", "left", "last", "now", "closed"] ["length"] (defScope st18) := ⟨rfl, rfl, rfl, by decide +kernel, rfl, by decide +kernel, by decide +kernel⟩
theorem ok18 : okSs gi ⟨["length", "found", "waiting", "left", "last", "now", "closed"], defScope st18, defScope st18, false⟩ b18 (defBody st18) = true := by decide +kernel
def f18 : List Sl → Option R := run G18 1 7 b18
def G19 : Gm := G18.add 12 f18
def Z19 : Xm := Z18
/-! rows -/
abbrev st19 : Stmt := topS 31
def b19 : Ss := Pg.p_rows
theorem sc19 : FnScope ["length"] ["length"] (defScope st19) := ⟨rfl, rfl, rfl, by decide +kernel, rfl, by decide +kernel, by decide +kernel⟩
theorem ok19 : okSs gi ⟨["length"], defScope st19, defScope st19, false⟩ b19 (defBody st19) = true := by decide +kernel
def f19 : List Sl → Option R := run G19 1 1 b19
def G20 : Gm := G19.add 13 f19
def x19 : List Sl → Option Nat := xrun G19 Z19 1 1 b19
def Z20 : Xm := Z19.add 13 x19
/-! row_by -/
abbrev st20 : Stmt := topS 32
def b20 : Ss := Pg.p_row_by
theorem sc20 : FnScope ["length", "number", "rests", "signs", "waiting", "left", "open_ones"] ["length", "number"] (defScope st20) := ⟨rfl, rfl, rfl, by decide +kernel, rfl, by decide +kernel, by decide +kernel⟩
theorem ok20 : okSs gi ⟨["length", "number", "rests", "signs", "waiting", "left", "open_ones"], defScope st20, defScope st20, false⟩ b20 (defBody st20) = true := by decide +kernel
def f20 : List Sl → Option R := run G20 2 7 b20
def G21 : Gm := G20.add 14 f20
def x20 : List Sl → Option Nat := xrun G20 Z20 2 7 b20
def Z21 : Xm := Z20.add 14 x20
/-! check_leasts -/
abbrev st21 : Stmt := topS 35
def b21 : Ss := Pg.p_check_leasts
theorem sc21 : FnScope ["leasts"] ["leasts"] (defScope st21) := ⟨rfl, rfl, rfl, by decide +kernel, rfl, by decide +kernel, by decide +kernel⟩
theorem ok21 : okSs gi ⟨["leasts"], defScope st21, defScope st21, false⟩ b21 (defBody st21) = true := by decide +kernel
def f21 : List Sl → Option R := run G21 1 1 b21
def G22 : Gm := G21.add 22 f21
def x21 : List Sl → Option Nat := xrun G21 Z21 1 1 b21
def Z22 : Xm := Z21.add 22 x21
/-! says_yes -/
abbrev st22 : Stmt := topS 36
def b22 : Ss := Pg.p_says_yes
theorem sc22 : FnScope ["leasts", "some", "least"] ["leasts", "some"] (defScope st22) := ⟨rfl, rfl, rfl, by decide +kernel, rfl, by decide +kernel, by decide +kernel⟩
theorem ok22 : okSs gi ⟨["leasts", "some", "least"], defScope st22, defScope st22, false⟩ b22 (defBody st22) = true := by decide +kernel
def f22 : List Sl → Option R := run G22 2 3 b22
def G23 : Gm := G22.add 23 f22
def Z23 : Xm := Z22
/-! says -/
abbrev st23 : Stmt := topS 37
def b23 : Ss := Pg.p_says
theorem sc23 : FnScope ["leasts", "some", "least"] ["leasts", "some"] (defScope st23) := ⟨rfl, rfl, rfl, by decide +kernel, rfl, by decide +kernel, by decide +kernel⟩
theorem ok23 : okSs gi ⟨["leasts", "some", "least"], defScope st23, defScope st23, false⟩ b23 (defBody st23) = true := by decide +kernel
def f23 : List Sl → Option R := run G23 2 3 b23
def G24 : Gm := G23.add 24 f23
def x23 : List Sl → Option Nat := xrun G23 Z23 2 3 b23
def Z24 : Xm := Z23.add 24 x23
/-! is_settled -/
abbrev st24 : Stmt := topS 38
def b24 : Ss := Pg.p_is_settled
theorem sc24 : FnScope ["yes", "no", "some", "one"] ["yes", "no", "some"] (defScope st24) := ⟨rfl, rfl, rfl, by decide +kernel, rfl, by decide +kernel, by decide +kernel⟩
theorem ok24 : okSs gi ⟨["yes", "no", "some", "one"], defScope st24, defScope st24, false⟩ b24 (defBody st24) = true := by decide +kernel
def f24 : List Sl → Option R := run G24 3 4 b24
def G25 : Gm := G24.add 25 f24
def Z25 : Xm := Z24
/-! learnt -/
abbrev st25 : Stmt := topS 39
def b25 : Ss := Pg.p_learnt
theorem sc25 : FnScope ["length", "leasts", "marks", "least", "yes", "no", "found", "one", "number", "some", "now", "answer"] ["length", "leasts"] (defScope st25) := ⟨rfl, rfl, rfl, by decide +kernel, rfl, by decide +kernel, by decide +kernel⟩
theorem ok25 : okSs gi ⟨["length", "leasts", "marks", "least", "yes", "no", "found", "one", "number", "some", "now", "answer"], defScope st25, defScope st25, false⟩ b25 (defBody st25) = true := by decide +kernel
def f25 : List Sl → Option R := run G25 2 12 b25
def G26 : Gm := G25.add 26 f25
def x25 : List Sl → Option Nat := xrun G25 Z25 2 12 b25
def Z26 : Xm := Z25.add 26 x25
/-! lambda 300 -/
def f26 : List Sl → Option R := run G26 2 2 (.cons (.ret eL300) .nil)
def G27 : Gm := G26.add 300 f26
def x26 : List Sl → Option Nat := xrun G26 Z26 2 2 (.cons (.ret eL300) .nil)
def Z27 : Xm := Z26.add 300 x26
/-! lambda 301 -/
def f27 : List Sl → Option R := run G27 1 1 (.cons (.ret eL301) .nil)
def G28 : Gm := G27.add 301 f27
def x27 : List Sl → Option Nat := xrun G27 Z27 1 1 (.cons (.ret eL301) .nil)
def Z28 : Xm := Z27.add 301 x27
/-! lambda 302 -/
def f28 : List Sl → Option R := run G28 1 1 (.cons (.ret eL302) .nil)
def G29 : Gm := G28.add 302 f28
def x28 : List Sl → Option Nat := xrun G28 Z28 1 1 (.cons (.ret eL302) .nil)
def Z29 : Xm := Z28.add 302 x28
/-! lambda 303 -/
def f29 : List Sl → Option R := run G29 1 1 (.cons (.ret eL303) .nil)
def G30 : Gm := G29.add 303 f29
def x29 : List Sl → Option Nat := xrun G29 Z29 1 1 (.cons (.ret eL303) .nil)
def Z30 : Xm := Z29.add 303 x29
/-! lambda 304 -/
def f30 : List Sl → Option R := run G30 1 1 (.cons (.ret eL304) .nil)
def G31 : Gm := G30.add 304 f30
def x30 : List Sl → Option Nat := xrun G30 Z30 1 1 (.cons (.ret eL304) .nil)
def Z31 : Xm := Z30.add 304 x30
/-! lambda 305 -/
def f31 : List Sl → Option R := run G31 1 1 (.cons (.ret eL305) .nil)
def G32 : Gm := G31.add 305 f31
def x31 : List Sl → Option Nat := xrun G31 Z31 1 1 (.cons (.ret eL305) .nil)
def Z32 : Xm := Z31.add 305 x31
/-! _law_copied -/
abbrev st32 : Stmt := topS 41
def b32 : Ss := (.cons (.ret (.ite (.isi (.slot 0) .list) (.lc (.call 43 (.cons (.slot 1) .nil)) (.nm 1) (.seq (.slot 0)) .non) (.slot 0))) .nil)
theorem sc32 : FnScope ["_law_thing", "_law_one"] ["_law_thing"] (defScope st32) := ⟨rfl, rfl, rfl, by decide +kernel, rfl, by decide +kernel, by decide +kernel⟩
theorem ok32 : okSs gi ⟨["_law_thing", "_law_one"], defScope st32, defScope st32, false⟩ b32 (defBody st32) = true := by decide +kernel
def f32 : List Sl → Option R := run G32 1 2 b32
def G33 : Gm := G32.add 43 f32
def Z33 : Xm := Z32
/-! _law_copied -/
abbrev st33 : Stmt := topS 41
def b33 : Ss := (.cons (.ret (.ite (.isi (.slot 0) .list) (.lc (.call 43 (.cons (.slot 1) .nil)) (.nm 1) (.seq (.slot 0)) .non) (.slot 0))) .nil)
theorem sc33 : FnScope ["_law_thing", "_law_one"] ["_law_thing"] (defScope st33) := ⟨rfl, rfl, rfl, by decide +kernel, rfl, by decide +kernel, by decide +kernel⟩
theorem ok33 : okSs gi ⟨["_law_thing", "_law_one"], defScope st33, defScope st33, false⟩ b33 (defBody st33) = true := by decide +kernel
def f33 : List Sl → Option R := run G33 1 2 b33
def G34 : Gm := G33.add 43 f33
def Z34 : Xm := Z33
/-! _law_spoiled -/
abbrev st34 : Stmt := topS 42
def f34 : List Sl → Option R := handSem
def G35 : Gm := G34.add 500 f34
def Z35 : Xm := Z34
def b35l1 : Ss := (.cons (.pop 0) .nil)
def b35l2 : Ss := (.cons (.ife (.cmp .eq (.slot 2) (.bi .len (.cons (.slot 0) .nil))) (.cons (.app 0 (.call 43 (.cons (.slot 3) .nil))) .nil) (.cons (.ife (.and (.cons (.isi (.slot 3) .list) (.cons (.isi (.sub (.slot 0) (.slot 2)) .list) .nil))) (.cons (.ex (.call 45 (.cons (.sub (.slot 0) (.slot 2)) (.cons (.slot 3) .nil)))) .nil) (.cons (.seti 0 (.slot 2) (.call 43 (.cons (.slot 3) .nil))) .nil)) .nil)) .nil)
/-! _law_laid -/
abbrev st35 : Stmt := topS 43
def b35 : Ss := (.cons (.while (2 ^ 10000) (.cmp .gt (.bi .len (.cons (.slot 0) .nil)) (.bi .len (.cons (.slot 1) .nil))) b35l1) (.cons (.for (.tp [2, 3]) (.enum (.slot 1)) b35l2) .nil))
theorem sc35 : FnScope ["_law_mine", "_law_other", "_law_at", "_law_one"] ["_law_mine", "_law_other"] (defScope st35) := ⟨rfl, rfl, rfl, by decide +kernel, rfl, by decide +kernel, by decide +kernel⟩
theorem ok35 : okSs gi ⟨["_law_mine", "_law_other", "_law_at", "_law_one"], defScope st35, defScope st35, false⟩ b35 (defBody st35) = true := by decide +kernel
def f35 : List Sl → Option R := runM G35 2 4 b35
def G36 : Gm := G35.add 501 f35
def Z36 : Xm := Z35
/-! _law_door_right -/
abbrev st36 : Stmt := topS 44
def b36 : Ss := (.cons (.asg 3 true (.call 43 (.cons (.slot 1) .nil))) (.cons (.asg 4 true (.calll 0 [300, 301, 302, 303, 304, 305] (.cons (.slot 3) .nil))) (.cons (.ife (.cmp .ne (.slot 3) (.slot 1)) (.cons (.ret (.bl false)) .nil) .nil) (.cons (.asg 5 false (.call 43 (.cons (.slot 4) .nil))) (.cons (.mcal 500 4 .nil) (.cons (.ife (.cmp .ne (.calll 0 [300, 301, 302, 303, 304, 305] (.cons (.slot 3) .nil)) (.slot 5)) (.cons (.ret (.bl false)) .nil) .nil) (.cons (.mcal 501 3 (.cons (.slot 2) .nil)) (.cons (.ife (.or (.cons (.cmp .ne (.calll 0 [300, 301, 302, 303, 304, 305] (.cons (.slot 3) .nil)) (.calll 0 [300, 301, 302, 303, 304, 305] (.cons (.call 43 (.cons (.slot 2) .nil)) .nil))) (.cons (.cmp .ne (.slot 3) (.slot 2)) .nil))) (.cons (.ret (.bl false)) .nil) .nil) (.cons (.mcal 501 3 (.cons (.slot 1) .nil)) (.cons (.ret (.and (.cons (.cmp .eq (.calll 0 [300, 301, 302, 303, 304, 305] (.cons (.slot 3) .nil)) (.slot 5)) (.cons (.cmp .eq (.slot 3) (.slot 1)) .nil)))) .nil))))))))))
theorem sc36 : FnScope ["_law_ask", "_law_one", "_law_other", "_law_mine", "_law_given", "_law_before"] ["_law_ask", "_law_one", "_law_other"] (defScope st36) := ⟨rfl, rfl, rfl, by decide +kernel, rfl, by decide +kernel, by decide +kernel⟩
theorem ok36 : okSs gi ⟨["_law_ask", "_law_one", "_law_other", "_law_mine", "_law_given", "_law_before"], defScope st36, defScope st36, false⟩ b36 (defBody st36) = true := by decide +kernel
def f36 : List Sl → Option R := run G36 3 6 b36
def G37 : Gm := G36.add 46 f36
def Z37 : Xm := Z36
def b37l1 : Ss := (.cons (.asg 5 false (.bin .add (.bin .fdiv (.bi .abs (.cons (.sub (.slot 0) (.bin .mod (.bin .add (.slot 4) (.slot 2)) (.bi .len (.cons (.slot 0) .nil)))) .nil)) (.bin .add (.int 1) (.slot 2))) (.slot 4))) (.cons (.unp [6, 7] (.tup (.cons (.bin .mod (.slot 5) (.int 6)) (.cons (.bin .mod (.bin .add (.bin .add (.slot 5) (.int 1)) (.bin .mod (.bin .fdiv (.slot 5) (.int 6)) (.int 5))) (.int 6)) .nil)))) (.cons (.asg 8 false (.meth .join (.str []) (.cons (.lc (.ite (.cmp .isin (.slot 9) (.tup (.cons (.slot 6) (.cons (.slot 7) .nil)))) (.str [120]) (.str [45])) (.nm 9) (.rng1 (.int 6)) .non) .nil))) (.cons (.ife (.cmp .notin (.slot 8) (.slot 3)) (.cons (.app 3 (.slot 8)) .nil) .nil) .nil))))
/-! _law_sets -/
abbrev st37 : Stmt := topS 45
def b37 : Ss := (.cons (.asg 3 true (.lst .nil)) (.cons (.for (.nm 4) (.rng1 (.slot 1)) b37l1) (.cons (.ret (.slot 3)) .nil)))
theorem sc37 : FnScope ["_law_cells", "_law_many", "_law_by", "_law_found", "_law_at", "_law_cell", "_law_one", "_law_other", "_law_some", "_law_place"] ["_law_cells", "_law_many", "_law_by"] (defScope st37) := ⟨rfl, rfl, rfl, by decide +kernel, rfl, by decide +kernel, by decide +kernel⟩
theorem ok37 : okSs gi ⟨["_law_cells", "_law_many", "_law_by", "_law_found", "_law_at", "_law_cell", "_law_one", "_law_other", "_law_some", "_law_place"], defScope st37, defScope st37, false⟩ b37 (defBody st37) = true := by decide +kernel
def f37 : List Sl → Option R := run G37 3 10 b37
def G38 : Gm := G37.add 31 f37
def Z38 : Xm := Z37
/-! _law_told -/
abbrev st38 : Stmt := topS 46
def b38 : Ss := (.cons (.ret (.lst .nil)) .nil)
theorem sc38 : FnScope ["_law_found"] ["_law_found"] (defScope st38) := ⟨rfl, rfl, rfl, by decide +kernel, rfl, by decide +kernel, by decide +kernel⟩
theorem ok38 : okSs gi ⟨["_law_found"], defScope st38, defScope st38, false⟩ b38 (defBody st38) = true := by decide +kernel
def f38 : List Sl → Option R := run G38 1 1 b38
def G39 : Gm := G38.add 47 f38
def Z39 : Xm := Z38
def b39l1 : Ss := (.cons (.mcal 501 4 (.cons (.slot 5) .nil)) (.cons (.asg 6 false (.calll 0 [300, 301, 302, 303, 304, 305] (.cons (.slot 4) .nil))) (.cons (.ife (.or (.cons (.cmp .ne (.slot 4) (.slot 5)) (.cons (.cmp .isnot (.calll 1 [300, 301, 302, 303, 304, 305] (.cons (.slot 6) (.cons (.call 43 (.cons (.slot 5) .nil)) .nil))) (.bl true)) .nil))) (.cons (.ret (.bl false)) .nil) .nil) (.cons (.mcalE 500 (.call 47 (.cons (.slot 6) .nil))) .nil))))
/-! _law_free_right -/
abbrev st39 : Stmt := topS 47
def b39 : Ss := (.cons (.asg 4 true (.call 43 (.cons (.slot 2) .nil))) (.cons (.for (.nm 5) (.seq (.tup (.cons (.slot 2) (.cons (.slot 2) (.cons (.slot 3) (.cons (.slot 2) .nil)))))) b39l1) (.cons (.ret (.cmp .eq (.slot 4) (.slot 2))) .nil)))
theorem sc39 : FnScope ["_law_ask", "_law_word", "_law_one", "_law_other", "_law_mine", "_law_things", "_law_found"] ["_law_ask", "_law_word", "_law_one", "_law_other"] (defScope st39) := ⟨rfl, rfl, rfl, by decide +kernel, rfl, by decide +kernel, by decide +kernel⟩
theorem ok39 : okSs gi ⟨["_law_ask", "_law_word", "_law_one", "_law_other", "_law_mine", "_law_things", "_law_found"], defScope st39, defScope st39, false⟩ b39 (defBody st39) = true := by decide +kernel
def f39 : List Sl → Option R := run G39 4 7 b39
def G40 : Gm := G39.add 48 f39
def Z40 : Xm := Z39
/-! law -/
abbrev st40 : Stmt := topS 48
def b40 : Ss := (.cons (.asg 1 false (.ite (.cmp .ne (.slot 0) (.lst .nil)) (.slice (.slot 0) .non (.one (.int 63))) (.lst (.cons (.int 5) .nil)))) (.cons (.asg 2 false (.bi .abs (.cons (.bi .sum (.cons (.slot 1) .nil)) .nil))) (.cons (.par [3, 4] [true, true] (.cons (.lst .nil) (.cons (.lst .nil) .nil))) (.cons (.par [5, 6] [false, false] (.cons (.call 31 (.cons (.slot 1) (.cons (.bin .add (.int 1) (.bin .mod (.slot 2) (.int 6))) (.cons (.int 0) .nil)))) (.cons (.call 31 (.cons (.slot 1) (.cons (.bin .add (.int 1) (.bin .mod (.slot 2) (.int 6))) (.cons (.int 3) .nil)))) .nil))) (.cons (.app 4 (.tup (.cons (.lam 301) (.cons (.lam 300) (.cons (.slot 5) (.cons (.slot 6) .nil)))))) (.cons (.app 4 (.tup (.cons (.lam 301) (.cons (.lam 300) (.cons (.slot 5) (.cons (.bin .add (.slot 5) (.lst (.cons (.str [120, 120, 120, 120, 45, 45]) .nil))) .nil)))))) (.cons (.app 3 (.tup (.cons (.lam 302) (.cons (.slot 5) (.cons (.slot 6) .nil))))) (.cons (.app 3 (.tup (.cons (.lam 303) (.cons (.slot 5) (.cons (.slot 6) .nil))))) (.cons (.app 3 (.tup (.cons (.lam 304) (.cons (.lst (.cons (.str [120, 120, 45, 45, 120, 45, 45, 45]) .nil)) (.cons (.lst (.cons (.str [120, 45, 120, 45, 120, 45, 120, 45]) .nil)) .nil))))) (.cons (.app 3 (.tup (.cons (.lam 305) (.cons (.lst (.cons (.int 5) (.cons (.int 3) .nil))) (.cons (.lst (.cons (.int 6) (.cons (.int 7) .nil))) .nil))))) (.cons (.ife (.not (.bi .all (.cons (.lc (.call 46 (.cons (.slot 7) (.cons (.slot 5) (.cons (.slot 6) .nil)))) (.tp [7, 5, 6]) (.seq (.slot 3)) .non) .nil))) (.cons (.ret (.bl false)) .nil) .nil) (.cons (.ret (.bi .all (.cons (.lc (.call 48 (.cons (.slot 7) (.cons (.slot 8) (.cons (.slot 5) (.cons (.slot 6) .nil))))) (.tp [7, 8, 5, 6]) (.seq (.slot 4)) .non) .nil))) .nil))))))))))))
theorem sc40 : FnScope ["_law_script", "_law_cells", "_law_more", "_law_asks", "_law_frees", "_law_one", "_law_other", "_law_ask", "_law_word"] ["_law_script"] (defScope st40) := ⟨rfl, rfl, rfl, by decide +kernel, rfl, by decide +kernel, by decide +kernel⟩
theorem ok40 : okSs gi ⟨["_law_script", "_law_cells", "_law_more", "_law_asks", "_law_frees", "_law_one", "_law_other", "_law_ask", "_law_word"], defScope st40, defScope st40, true⟩ b40 (defBody st40) = true := by decide +kernel
def f40 : List Sl → Option R := run G40 1 9 b40
def G41 : Gm := G40.add 42 f40
def Z41 : Xm := Z40
end K10
namespace K10
open PySem PySem.Spec PyProof.Rows L2 Mc
theorem scS : FnScope ["_law_thing", "_law_one"] ["_law_thing"] (defScope st34) := ⟨rfl, rfl, rfl, by decide +kernel, rfl, by decide +kernel, by decide +kernel⟩
section
variable {P : Program} {w : World} {K : PySem.W.Frag} {mg : Str → Option Value} {base : Heap} {W : Wd}
theorem no_sts {X : Cx} {ss : List Stmt} : PSs X ss (fun _ _ _ => False) := ⟨fun pins s σ H D I h => h.elim⟩
theorem spoiled_fn {f : Addr} {fd : FuncData} {k : Nat} (hK : K = W.K) (F : Fun K "_law_spoiled" "_law_spoiled" st34 f fd) (A : Around_ W gi G34 P w K mg base k) :
    FnOk P w K mg base CX0 (k + 1) f fd ["_law_thing"] (spM W handSem) := by
  refine F.ok scS (fun vs H Q E h => ?_) (fun cdv A' outer s H vs Q E hr h => ?_)
  · obtain ⟨a, xs, ds, as, ds', rest, rfl, ha, rd, ra, hfz, e, q⟩ := h
    unfold handSem at e
    split at e <;> try (cases e; done)
    rename_i ds0 heq
    cases heq
    have := ra.length
    rw [List.length_cons, ← this]; rfl
  · obtain ⟨a, xs, ds, as, ds', rest, rfl, ha, rd, ra, hfz, e, q⟩ := h
    have cok := cok_of (CX := CX0) (outer := outer) (s := s) (H := H) (E := E) (ml := false) (f := f) (cdv := cdv) (qual := "_law_spoiled") hK scS hr A (fun z => by cases z)
    unfold handSem at e
    split at e <;> try (cases e; done)
    rename_i ds0 heq
    cases heq
    split at e <;> try (cases e; done)
    rename_i hc
    cases e
    have hrest : rest = [] := by
      have := ra.length
      exact List.length_eq_zero_iff.mp this.symm
    subst hrest
    simp only [Bool.and_eq_true, decide_eq_true_eq] at hc
    obtain ⟨hall, hlen⟩ := hc
    have hp : PassesOwn (model P w) (A'.deeper (envOfC "_law_spoiled" (defScope st34) s.heap.objs.size f cdv)) (envOfC "_law_spoiled" (defScope st34) s.heap.objs.size f cdv) (fun _ _ => False) := PassesOwn.never
    refine ⟨_, pss_cons (ps_for (X := (cxOf CX0 P w K mg base ["_law_thing", "_law_one"] "_law_spoiled" (defScope st34) f cdv A' outer s H E).nox) hp rfl (pi_list (pv 0)) (pg_name (i := 1) scS.nd rfl (Or.inl rfl)) (pss_one (ps_if ((snd_E (.isi (.slot 1) .list) H ⟨["_law_thing", "_law_one"], defScope st34, defScope st34, false⟩ _ _ (by decide +kernel) cok).2 rfl) no_sts pss_nil)))
      (pss_cons (ps_expr (pe_bm PySem.F.plainAttrs_list PySem.F.slot_list_append PySem.F.type_list_append mt_append (pv 0) (pa_cons pe_int pa_nil))) (pss_one (ps_expr (pe_bm0 PySem.F.plainAttrs_list PySem.F.slot_list_reverse PySem.F.type_list_reverse mt_reverse (pv 0))))), ?_⟩
    have hs0 : (L2.start ["_law_thing", "_law_one"] [V.ref a])[0]? = some (some (.ref a)) := rfl
    refine ⟨.ref a, hs0, a, rfl, ⟨xs, .inl (.inl ha)⟩, ?_⟩
    refine for_it (walk_list (K := K) (a := a) (xs := xs)) (fun i σ' H' => σ'[0]? = some (some (.ref a)) ∧ σ'.length = 2 ∧ Mc.Same W H H') ⟨hs0, rfl, .refl _⟩ (fun i σ' H' _ ⟨_, _, sm⟩ => .inl (.inl (sm.at _ _ ha))) (fun i x σ' Hc Hc' hi ⟨h0, h2, sm⟩ y => ?_) (fun σ' H' ⟨h0, h2, sm⟩ => ?_)
    · obtain ⟨rfl, y⟩ := y
      obtain ⟨d, e1, e2⟩ := rd.get' y
      have nd : noLst d = true := List.all_eq_true.mp hall d (List.mem_of_getElem? e1)
      have nd : isiD .list d = some false := by simpa [noLst] using nd
      refine ⟨[none, some (.fz d)], false, ?_, ?_, fun H1 s1 => ?_⟩
      · refine ⟨sm, fun j t ht => ?_, fun j k d1 d2 b hjk h1 _ _ _ => ?_, by rw [List.length_set]; exact h2.symm, sm.tab ra.tab⟩
        · match j, ht with
          | 1, ht =>
            simp only [List.getElem?_cons_succ, List.getElem?_cons_zero, Option.some.injEq] at ht
            subst ht
            exact ⟨x, List.getElem?_set_self (by omega), Rep.fx (.of_same sm) _ _ e2⟩
          | 0, ht => simp at ht
          | n + 2, ht => simp at ht
        · match j, h1 with
          | 1, h1 => simp at h1
          | 0, h1 => simp at h1
          | n + 2, h1 => simp at h1
      · rw [ev_isi, q_slot d rfl]; simp [nd]
      · dsimp only
        rw [if_neg (by decide)]
        exact ⟨by rw [List.getElem?_set_ne (by decide)]; exact h0, by rw [List.length_set]; exact h2, sm.trans s1⟩
    · have hxa := sm.at _ _ ha
      have hl2 : xs.length < sizeLine := by rw [← rd.length, ← LINE_eq]; exact hlen
      refine ⟨.ref a, h0, .inl ⟨rfl, xs, .inl (.inl hxa)⟩, a, xs, .int 99, rfl, rfl, hxa, hl2, ?_⟩
      refine ⟨.ref a, h0, .inl ⟨rfl, _, .inl (.inl upd_same)⟩, a, _, rfl, rfl, upd_same, ?_⟩
      rw [upd_upd]
      refine q _ _ ?_ upd_same ?_
      · refine ⟨fun b o eb nb => ?_, fun b ps eb => ?_, fun _ p hp => tab_upd (sm.tab ra.tab p hp) (.inr ⟨xs, hxa⟩)⟩
        · by_cases hb : b = a
          · subst hb; rw [hide_same] at eb; cases eb
          · rw [hide_ne hb] at eb
            rw [upd_ne hb]; exact sm.keep b o eb nb
        · by_cases hb : b = a
          · subst hb; rw [hide_same] at eb; cases eb
          · rw [hide_ne hb] at eb
            rw [upd_ne hb]; exact sm.tbl b ps eb
      · refine RepL.fx (FX.upd hxa) _ _ ?_
        exact ((RepL.fx (.of_same sm) _ _ rd).append (.one rep_int)).reverse
end
end K10
namespace K10
open Mc PySem
theorem gv0 : GV G0 := GV.nil
theorem gv1 : GV G1 := gv0.add 9 3 3 b0 (by decide +kernel)
theorem gv2 : GV G2 := gv1.add 0 1 2 b1 (by decide +kernel)
theorem gv3 : GV G3 := gv2.add 1 1 1 b2 (by decide +kernel)
theorem gv4 : GV G4 := gv3.add 10 1 1 b3 (by decide +kernel)
theorem gv5 : GV G5 := gv4.add 16 1 3 b4 (by decide +kernel)
theorem gv6 : GV G6 := gv5.add 17 2 2 b5 (by decide +kernel)
theorem gv7 : GV G7 := gv6.add 11 2 4 b6 (by decide +kernel)
theorem gv8 : GV G8 := GV.add' gv7 27 f7 (low_gv G7)
theorem gv9 : GV G9 := gv8.add 28 1 5 b8 (by decide +kernel)
theorem gv10 : GV G10 := gv9.add 20 1 7 b9 (by decide +kernel)
theorem gv11 : GV G11 := gv10.add 200 2 2 b10 (by decide +kernel)
theorem gv12 : GV G12 := gv11.add 201 2 2 b11 (by decide +kernel)
theorem gv13 : GV G13 := gv12.add 21 1 2 b12 (by decide +kernel)
theorem gv14 : GV G14 := gv13.add 29 1 2 b13 (by decide +kernel)
theorem gv15 : GV G15 := gv14.add 2 1 5 b14 (by decide +kernel)
theorem gv16 : GV G16 := gv15.add 3 3 6 b15 (by decide +kernel)
theorem gv17 : GV G17 := gv16.add 4 1 3 b16 (by decide +kernel)
theorem gv18 : GV G18 := gv17.add 5 1 1 b17 (by decide +kernel)
theorem gv19 : GV G19 := gv18.add 12 1 7 b18 (by decide +kernel)
theorem gv20 : GV G20 := gv19.add 13 1 1 b19 (by decide +kernel)
theorem gv21 : GV G21 := gv20.add 14 2 7 b20 (by decide +kernel)
theorem gv22 : GV G22 := gv21.add 22 1 1 b21 (by decide +kernel)
theorem gv23 : GV G23 := gv22.add 23 2 3 b22 (by decide +kernel)
theorem gv24 : GV G24 := gv23.add 24 2 3 b23 (by decide +kernel)
theorem gv25 : GV G25 := gv24.add 25 3 4 b24 (by decide +kernel)
theorem gv26 : GV G26 := gv25.add 26 2 12 b25 (by decide +kernel)
theorem gv27 : GV G27 := gv26.add 300 2 2 (.cons (.ret eL300) .nil) (by decide +kernel)
theorem gv28 : GV G28 := gv27.add 301 1 1 (.cons (.ret eL301) .nil) (by decide +kernel)
theorem gv29 : GV G29 := gv28.add 302 1 1 (.cons (.ret eL302) .nil) (by decide +kernel)
theorem gv30 : GV G30 := gv29.add 303 1 1 (.cons (.ret eL303) .nil) (by decide +kernel)
theorem gv31 : GV G31 := gv30.add 304 1 1 (.cons (.ret eL304) .nil) (by decide +kernel)
theorem gv32 : GV G32 := gv31.add 305 1 1 (.cons (.ret eL305) .nil) (by decide +kernel)
end K10
namespace K10
open Mc Pg PySem
theorem q_A {G : Gm} {env : Mc.Env} {e es} (r : R) {as : List Sl} (h : ev G e env = some r) (ht : evA G es env = some as) : evA G (.cons e es) env = some (r.arg :: as) := by
  rw [evA1, h]; simp [ht]
theorem flat_isi {d : D} (h : noLst d = true) : isiD .list d = some false := by
  unfold noLst at h
  exact of_decide_eq_true (by simpa using h)
theorem f32_flat {d : D} (h : noLst d = true) : f32 [.fz d] = some (.val d) := by
  refine run_ret [some (.fz d), none] rfl rfl ?_
  unfold b32
  refine q_ret (q_rv _ (q_ite0 ?_ (q_slot _ rfl)))
  rw [ev_isi, q_slot d rfl]
  simp only [Rd1, flat_isi h, Option.map_some]
theorem f33_flat {d : D} (h : noLst d = true) : f33 [.fz d] = some (.val d) := by
  refine run_ret [some (.fz d), none] rfl rfl ?_
  unfold b33
  refine q_ret (q_rv _ (q_ite0 ?_ (q_slot _ rfl)))
  rw [ev_isi, q_slot d rfl]
  simp only [Rd1, flat_isi h, Option.map_some]
theorem copied {ds : List D} (h : ∀ d ∈ ds, noLst d = true) (hl : ds.length ≤ LINE) {s : Sl} (hs : s = .fz (.lst ds) ∨ s = .vw ds) : f33 [s] = some (.fresh ds) := by
  refine run_ret [some s, none] rfl rfl ?_
  unfold b33
  refine q_ret (q_rf _ (q_ite1 ?_ ?_))
  · rcases hs with rfl | rfl <;> rfl
  · have := ev_lc_m (G := G33) (env := [some s, none]) (elt := .call 43 (.cons (.slot 1) .nil)) (tg := .nm 1) (src := .seq (.slot 0)) ds id id (by rcases hs with rfl | rfl <;> simp) hl (fun d hd => ⟨[some s, some (.fz d)], rfl, ?_⟩)
    · simpa using this
    · rw [q_call [.fz d] f32 (.val d) (q_A _ (q_slot _ rfl) (evA0 _ _)) rfl (f32_flat (h d hd)) rfl]; rfl
/-! _law_laid -/
theorem ixN_lt {n k : Nat} (h : k < n) : L2.ixN n (k : Int) = some k := by
  unfold L2.ixN
  simp [h]
theorem q_seti {G : Gm} {env : Mc.Env} {i : Nat} {k e : E} (ds : List D) (r : R) (d : D) (z : Int) (j : Nat) (h0 : env[i]? = some (some (.own ds))) (h : ev G e env = some r) (h2 : r.fz = some d) (h3 : ev G k env = some (.val (.int z))) (h4 : L2.ixN ds.length z = some j) : exec G (.seti i k e) env = some (.next (env.set i (some (.own (ds.set j d))))) := by
  rw [exec_seti, h0, h]
  simp only [Option.bind_some, h2, h3, h4]
  rfl
theorem len_own {G : Gm} {env : Mc.Env} {i : Nat} {ds : List D} (h : env[i]? = some (some (.own ds))) : ev G (.bi .len (.cons (.slot i) .nil)) env = some (.val (.int (ds.length : Nat))) := by
  refine q_bi1 (.vown ds) _ ?_ rfl
  rw [ev_slot, h]
theorem len_fz {G : Gm} {env : Mc.Env} {i : Nat} {ds : List D} (h : env[i]? = some (some (.fz (.lst ds)))) : ev G (.bi .len (.cons (.slot i) .nil)) env = some (.val (.int (ds.length : Nat))) := by
  refine q_bi1 (.val (.lst ds)) _ (q_slot _ h) rfl
theorem laid_while (B : List D) : ∀ (n : Nat) (A : List D), A.length < n → whileLoop (ev G35 (.cmp .gt (.bi .len (.cons (.slot 0) .nil)) (.bi .len (.cons (.slot 1) .nil)))) (execs G35 b35l1) n [some (.own A), some (.fz (.lst B)), none, none] = some (.next [some (.own (A.take B.length)), some (.fz (.lst B)), none, none])
  | 0, A, h => by omega
  | n + 1, A, h => by
    have ec : ev G35 (.cmp .gt (.bi .len (.cons (.slot 0) .nil)) (.bi .len (.cons (.slot 1) .nil))) [some (.own A), some (.fz (.lst B)), none, none] = some (.val (.bl (decide (B.length < A.length)))) := by
      rw [q_cmp _ _ (decide ((B.length : Int) < (A.length : Int))) (len_own (ds := A) rfl) (len_fz (ds := B) rfl) rfl]
      simp
    by_cases hb : B.length < A.length
    · rw [decide_eq_true hb] at ec
      have eb : execs G35 b35l1 [some (.own A), some (.fz (.lst B)), none, none] = some (.next [some (.own A.dropLast), some (.fz (.lst B)), none, none]) := by
        unfold b35l1
        refine q_next _ ?_ (execs0 _ _)
        rw [exec_pop]
        have : A.isEmpty = false := by cases A with | nil => simp at hb | cons _ _ => rfl
        simp [this]
      rw [whileLoop, ec]
      simp only [eb]
      rw [laid_while B n A.dropLast (by simp; omega)]
      congr 5
      rw [List.dropLast_eq_take, List.take_take]
      congr 2
      omega
    · rw [decide_eq_false hb] at ec
      rw [whileLoop, ec]
      simp only []
      rw [List.take_of_length_le (by omega)]
theorem laid_for (B : List D) (hB : ∀ d ∈ B, noLst d = true) (hl : B.length ≤ LINE) : ∀ (r : List D) (done rest : List D) (x y : Option Sl), B = done ++ r → rest.length ≤ r.length → ∃ x' y', forLoop (bindT (.tp [2, 3])) (execs G35 b35l2) (enumD done.length r) [some (.own (done ++ rest)), some (.fz (.lst B)), x, y] = some (.next [some (.own B), some (.fz (.lst B)), x', y'])
  | [], done, rest, x, y, e, h => by
    have : rest = [] := by cases rest with | nil => rfl | cons _ _ => simp at h
    subst this
    exact ⟨x, y, by simp only [enumD, forLoop]; rw [e]⟩
  | d :: r, done, rest, x, y, e, h => by
    have hd : noLst d = true := hB d (by rw [e]; simp)
    simp only [enumD]
    have ecp : ∀ a : Option Sl, ev G35 (.call 43 (.cons (.slot 3) .nil)) [a, some (.fz (.lst B)), some (.fz (.int (done.length : Nat))), some (.fz d)] = some (.val d) := fun a =>
      q_call [.fz d] f33 (.val d) (q_A _ (q_slot _ rfl) (evA0 _ _)) rfl (f33_flat (d := d) hd) rfl
    have step : execs G35 b35l2 [some (.own (done ++ rest)), some (.fz (.lst B)), some (.fz (.int (done.length : Nat))), some (.fz d)] = some (.next [some (.own (done ++ [d] ++ rest.tail)), some (.fz (.lst B)), some (.fz (.int (done.length : Nat))), some (.fz d)]) := by
      unfold b35l2
      refine q_next _ ?_ (execs0 _ _)
      have ec : ev G35 (.cmp .eq (.slot 2) (.bi .len (.cons (.slot 0) .nil))) [some (.own (done ++ rest)), some (.fz (.lst B)), some (.fz (.int (done.length : Nat))), some (.fz d)] = some (.val (.bl (decide (((done.length : Nat) : Int) = ((done ++ rest).length : Nat))))) :=
        q_cmp (.val (.int (done.length : Nat))) _ _ (q_slot _ rfl) (len_own (ds := done ++ rest) rfl) rfl
      cases rest with
      | nil =>
        have ec := ec.trans (congrArg (fun b => some (R.val (D.bl b))) (show decide (((done.length : Nat) : Int) = ((done ++ ([] : List D)).length : Nat)) = true by simp))
        refine q_then ec (q_next _ (q_app (done ++ []) (.val d) d rfl (ecp _) rfl ?_) (execs0 _ _ |>.trans ?_))
        · have := congrArg List.length e
          simp at this
          simp; omega
        · simp
      | cons z zs =>
        have ec := ec.trans (congrArg (fun b => some (R.val (D.bl b))) (show decide (((done.length : Nat) : Int) = ((done ++ z :: zs).length : Nat)) = false by simp; try omega))
        refine q_else ec (q_next _ (q_else (q_and0 ?_) (q_next _ (q_seti (done ++ z :: zs) (.val d) d (done.length : Nat) done.length rfl (ecp _) rfl (q_slot _ rfl) (ixN_lt (by simp))) (execs0 _ _))) (execs0 _ _ |>.trans ?_))
        · rw [ev_isi, q_slot d rfl]
          simp only [Rd1, flat_isi hd, Option.map_some]
        · simp
    obtain ⟨x', y', q⟩ := laid_for B hB hl r (done ++ [d]) rest.tail (some (.fz (.int (done.length : Nat)))) (some (.fz d)) (by rw [e]; simp) (by cases rest <;> simp at h ⊢ <;> omega)
    refine ⟨x', y', ?_⟩
    rw [forLoop]
    simp only [bindT2, setAll1, setAll0, setE1, List.set_cons_succ, List.set_cons_zero]
    rw [step]
    simp only []
    rw [← q]
    simp
theorem laid {A B : List D} (hA : A.length ≤ LINE) (hB : ∀ d ∈ B, noLst d = true) (hl : B.length ≤ LINE) : f35 [.vw A, .fz (.lst B)] = some (.fresh B) := by
  obtain ⟨x', y', q⟩ := laid_for B hB hl B [] (A.take B.length) none none rfl (by simp; omega)
  have : execs G35 b35 [some (.own A), some (.fz (.lst B)), none, none] = some (.next [some (.own B), some (.fz (.lst B)), x', y']) := by
    unfold b35
    refine q_next _ ((exec_while _ _ _ _ _).trans (laid_while B _ A ?_)) ?_
    · calc A.length ≤ LINE := hA
        _ < 2 ^ 30 := by decide
        _ ≤ 2 ^ 10000 := Nat.pow_le_pow_right (by decide) (by decide)
    · refine q_next _ (q_for (enumD 0 B) rfl rfl ?_) (execs0 _ _)
      exact q
  show runM G35 2 4 b35 [.vw A, .fz (.lst B)] = _
  unfold runM
  simp only [List.length_cons, List.length_nil, List.map_cons, List.map_nil, List.cons_append, List.nil_append]
  rw [if_pos (by decide), show List.replicate (4 - 2) (none : Option Sl) = [none, none] from rfl, this]
  rfl
end K10
namespace K10
open Mc Pg PySem
theorem q_mcal {G : Gm} {env : Mc.Env} {f i : Nat} {es : Es} (ds : List D) (as : List Sl) (sem) (ds' : List D) (h0 : env[i]? = some (some (.own ds))) (h1 : evA G es env = some as) (h2 : as.all Sl.isFz = true) (h3 : G f = some sem) (h4 : sem (.vw ds :: as) = some (.fresh ds')) : exec G (.mcal f i es) env = some (.next (env.set i (some (.own ds')))) := by
  rw [Mc.exec.eq_def]
  simp only [h0, h1, h2, if_true, h3, h4]
  rfl
theorem q_mcalE {G : Gm} {env : Mc.Env} {f : Nat} {e : E} (ds ds' : List D) (sem) (h0 : ev G e env = some (.fresh ds)) (h3 : G f = some sem) (h4 : sem [.vw ds] = some (.fresh ds')) : exec G (.mcalE f e) env = some (.next env) := by
  rw [Mc.exec.eq_def]
  simp only [h0, h3, h4]
theorem q_own {G : Gm} {env : Mc.Env} {i} (ds : List D) (h : env[i]? = some (some (.own ds))) : ev G (.slot i) env = some (.vown ds) := by rw [ev_slot, h]
theorem hand_ok {X : List D} (h : ∀ d ∈ X, noLst d = true) (hl : X.length < LINE) : handSem [.vw X] = some (.fresh (X ++ [D.int 99]).reverse) := by
  unfold handSem
  simp only
  rw [if_pos]
  simp only [Bool.and_eq_true, List.all_eq_true, decide_eq_true_eq]
  exact ⟨h, hl⟩
abbrev TL : List Nat := [300, 301, 302, 303, 304, 305]
theorem door (j : Nat) (F : List Sl → Option R) (A B X Y : List D) (hG : G36 j = some F) (hj : j ∈ TL) (hA : ∀ d ∈ A, noLst d = true) (hB : ∀ d ∈ B, noLst d = true) (hX : ∀ d ∈ X, noLst d = true) (lA : A.length ≤ LINE) (lB : B.length ≤ LINE) (lX : X.length < LINE)
    (eA : eqable (.lst A) = true) (eB : eqable (.lst B) = true) (eX : eqable (.lst X) = true) (eY : eqable (.lst Y) = true) (F1 : F [.vw A] = some (.fresh X)) (F2 : F [.vw B] = some (.fresh Y)) (F3 : F [.fz (.lst B)] = some (.fresh Y)) :
    f36 [.fz (.lam j), .fz (.lst A), .fz (.lst B)] = some (.val (.bl true)) := by
  have g43 : G36 43 = some f33 := rfl
  have g500 : G36 500 = some handSem := rfl
  have g501 : G36 501 = some f35 := rfl
  have cA := copied hA lA (s := .fz (.lst A)) (.inl rfl)
  have cB := copied hB lB (s := .fz (.lst B)) (.inl rfl)
  have cX := copied hX (Nat.le_of_lt lX) (s := .vw X) (.inr rfl)
  have hX' := hand_ok hX lX
  have LB := laid (A := A) (B := B) lA hB lB
  have LA := laid (A := B) (B := A) lB hA lA
  have nA : cmpD .ne (.lst A) (.lst A) = some false := by simp only [cmpD, eqD_self _ eA]; rfl
  have nB : cmpD .ne (.lst B) (.lst B) = some false := by simp only [cmpD, eqD_self _ eB]; rfl
  have nX : cmpD .ne (.lst X) (.lst X) = some false := by simp only [cmpD, eqD_self _ eX]; rfl
  have nY : cmpD .ne (.lst Y) (.lst Y) = some false := by simp only [cmpD, eqD_self _ eY]; rfl
  have qA : cmpD .eq (.lst A) (.lst A) = some true := by simp only [cmpD, eqD_self _ eA]
  have qX : cmpD .eq (.lst X) (.lst X) = some true := by simp only [cmpD, eqD_self _ eX]
  clear eA eB eX eY hA hB hX
  generalize (X ++ [D.int 99]).reverse = X' at hX'
  refine run_ret [some (.fz (.lam j)), some (.fz (.lst A)), some (.fz (.lst B)), none, none, none] rfl rfl ?_
  unfold b36
  generalize hH : handSem = H5 at g500 hX'
  generalize f33 = F43 at g43 cA cB cX
  generalize f35 = F501 at g501 LA LB
  generalize G36 = G at *
  refine q_next [some (.fz (.lam j)), some (.fz (.lst A)), some (.fz (.lst B)), some (.own A), none, none] (q_asg (.fresh A) (q_call [.fz (.lst A)] F43 _ (q_A _ (q_slot _ rfl) (evA0 _ _)) g43 cA rfl) rfl) ?_
  refine q_next [some (.fz (.lam j)), some (.fz (.lst A)), some (.fz (.lst B)), some (.own A), some (.own X), none] (q_asg (.fresh X) (q_calll j [.vw A] F _ rfl hj (q_A _ (q_own _ rfl) (evA0 _ _)) hG F1 rfl) rfl) ?_
  refine q_next _ (q_else (q_cmp (.vown A) (.val (.lst A)) false (q_own _ rfl) (q_slot _ rfl) nA) (execs0 _ _)) ?_
  refine q_next [some (.fz (.lam j)), some (.fz (.lst A)), some (.fz (.lst B)), some (.own A), some (.own X), some (.fz (.lst X))] (q_asg (.fresh X) (q_call [.vw X] F43 _ (q_A _ (q_own _ rfl) (evA0 _ _)) g43 cX rfl) rfl) ?_
  refine q_next [some (.fz (.lam j)), some (.fz (.lst A)), some (.fz (.lst B)), some (.own A), some (.own X'), some (.fz (.lst X))] (q_mcal X [] H5 X' rfl (evA0 _ _) rfl g500 hX') ?_
  refine q_next _ (q_else (q_cmp (.fresh X) (.val (.lst X)) false (q_calll j [.vw A] F _ rfl hj (q_A _ (q_own _ rfl) (evA0 _ _)) hG F1 rfl) (q_slot _ rfl) nX) (execs0 _ _)) ?_
  refine q_next [some (.fz (.lam j)), some (.fz (.lst A)), some (.fz (.lst B)), some (.own B), some (.own X'), some (.fz (.lst X))] (q_mcal A [.fz (.lst B)] F501 B rfl (q_A (.val (.lst B)) (q_slot _ rfl) (evA0 _ _)) rfl g501 LB) ?_
  refine q_next _ (q_else (q_or0 (q_cmp (.fresh Y) (.fresh Y) false (q_calll j [.vw B] F _ rfl hj (q_A _ (q_own _ rfl) (evA0 _ _)) hG F2 rfl) (q_calll j [.fz (.lst B)] F _ rfl hj (q_A (.fresh B) (q_call [.fz (.lst B)] F43 _ (q_A _ (q_slot _ rfl) (evA0 _ _)) g43 cB rfl) (evA0 _ _)) hG F3 rfl) nY)
    (q_or0 (q_cmp (.vown B) (.val (.lst B)) false (q_own _ rfl) (q_slot _ rfl) nB) q_orN)) (execs0 _ _)) ?_
  refine q_next [some (.fz (.lam j)), some (.fz (.lst A)), some (.fz (.lst B)), some (.own A), some (.own X'), some (.fz (.lst X))] (q_mcal B [.fz (.lst A)] F501 A rfl (q_A (.val (.lst A)) (q_slot _ rfl) (evA0 _ _)) rfl g501 LA) ?_
  exact q_ret (q_rv _ (q_and1 (q_cmp (.fresh X) (.val (.lst X)) true (q_calll j [.vw A] F _ rfl hj (q_A _ (q_own _ rfl) (evA0 _ _)) hG F1 rfl) (q_slot _ rfl) qX) (q_and1 (q_cmp (.vown A) (.val (.lst A)) true (q_own _ rfl) (q_slot _ rfl) qA) q_andN)))
theorem for_step {bind : D → Mc.Env → Option Mc.Env} {body : Mc.Env → Option Out} {d : D} {r : List D} {env : Mc.Env} {o : Option Out} (env1 env2 : Mc.Env) (h1 : bind d env = some env1) (h2 : body env1 = some (.next env2)) (h3 : forLoop bind body r env2 = o) : forLoop bind body (d :: r) env = o := by
  rw [forLoop, h1]; simp only [h2]; exact h3
theorem free_turn (F0 F1 : List Sl → Option R) (A B C T : List D) (hG0 : G39 301 = some F0) (hG1 : G39 300 = some F1) (hT : ∀ d ∈ T, noLst d = true) (lC : C.length ≤ LINE) (lT : T.length ≤ LINE) (eT : eqable (.lst T) = true) (a : D) (h0 : F0 [.vw T] = some (.val a)) (h1 : F1 [.fz a, .fz (.lst T)] = some (.val (.bl true))) (y : Option Sl) :
    execs G39 b39l1 [some (.fz (.lam 301)), some (.fz (.lam 300)), some (.fz (.lst A)), some (.fz (.lst B)), some (.own C), some (.fz (.lst T)), y] = some (.next [some (.fz (.lam 301)), some (.fz (.lam 300)), some (.fz (.lst A)), some (.fz (.lst B)), some (.own T), some (.fz (.lst T)), some (.fz a)]) := by
  have g43 : G39 43 = some f33 := rfl
  have g500 : G39 500 = some handSem := rfl
  have g501 : G39 501 = some f35 := rfl
  have g47 : G39 47 = some f38 := rfl
  have c0 : f38 [.fz a] = some (.fresh []) := by
    refine run_ret [some (.fz a)] rfl rfl ?_
    unfold b38
    exact q_ret (q_rf _ (by simp))
  have cT := copied hT lT (s := .fz (.lst T)) (.inl rfl)
  have LT := laid (A := C) (B := T) lC hT lT
  have nT : cmpD .ne (.lst T) (.lst T) = some false := by simp only [cmpD, eqD_self _ eT]; rfl
  have h5 := hand_ok (X := []) (by simp) (by decide)
  unfold b39l1
  clear eT hT
  generalize handSem = H5 at g500 h5
  generalize f33 = F43 at g43 cT
  generalize f35 = F501 at g501 LT
  generalize f38 = F47 at g47 c0
  generalize G39 = G at *
  refine q_next [some (.fz (.lam 301)), some (.fz (.lam 300)), some (.fz (.lst A)), some (.fz (.lst B)), some (.own T), some (.fz (.lst T)), y] (q_mcal C [.fz (.lst T)] F501 T rfl (q_A (.val (.lst T)) (q_slot _ rfl) (evA0 _ _)) rfl g501 LT) ?_
  refine q_next [some (.fz (.lam 301)), some (.fz (.lam 300)), some (.fz (.lst A)), some (.fz (.lst B)), some (.own T), some (.fz (.lst T)), some (.fz a)] (q_asg (.val a) (q_calll 301 [.vw T] F0 _ rfl (by decide) (q_A _ (q_own _ rfl) (evA0 _ _)) hG0 h0 rfl) rfl) ?_
  refine q_next _ (q_else (q_or0 (q_cmp (.vown T) (.val (.lst T)) false (q_own _ rfl) (q_slot _ rfl) nT) (q_or0 (q_cmp (.val (.bl true)) (.val (.bl true)) false (q_calll 300 [.fz a, .fz (.lst T)] F1 _ rfl (by decide) (q_A (.val a) (q_slot _ rfl) (q_A (.fresh T) (q_call [.fz (.lst T)] F43 _ (q_A _ (q_slot _ rfl) (evA0 _ _)) g43 cT rfl) (evA0 _ _))) hG1 h1 rfl) (by simp) rfl) q_orN)) (execs0 _ _)) ?_
  exact q_next _ (q_mcalE [] _ H5 (q_call [.fz a] F47 _ (q_A _ (q_slot _ rfl) (evA0 _ _)) g47 c0 rfl) g500 h5) (execs0 _ _)
theorem free (F0 F1 : List Sl → Option R) (A B : List D) (hG0 : G39 301 = some F0) (hG1 : G39 300 = some F1) (hA : ∀ d ∈ A, noLst d = true) (hB : ∀ d ∈ B, noLst d = true) (lA : A.length ≤ LINE) (lB : B.length ≤ LINE) (eA : eqable (.lst A) = true) (eB : eqable (.lst B) = true)
    (a b : D) (ha : F0 [.vw A] = some (.val a)) (ha1 : F1 [.fz a, .fz (.lst A)] = some (.val (.bl true))) (hb : F0 [.vw B] = some (.val b)) (hb1 : F1 [.fz b, .fz (.lst B)] = some (.val (.bl true))) :
    f39 [.fz (.lam 301), .fz (.lam 300), .fz (.lst A), .fz (.lst B)] = some (.val (.bl true)) := by
  have g43 : G39 43 = some f33 := rfl
  have cA := copied hA lA (s := .fz (.lst A)) (.inl rfl)
  have qA : cmpD .eq (.lst A) (.lst A) = some true := by simp only [cmpD, eqD_self _ eA]
  refine run_ret [some (.fz (.lam 301)), some (.fz (.lam 300)), some (.fz (.lst A)), some (.fz (.lst B)), none, none, none] rfl rfl ?_
  have tA := fun C (lC : C.length ≤ LINE) y => free_turn F0 F1 A B C A hG0 hG1 hA lC lA eA a ha ha1 y
  have tB := fun C (lC : C.length ≤ LINE) y => free_turn F0 F1 A B C B hG0 hG1 hB lC lB eB b hb hb1 y
  unfold b39
  generalize b39l1 = BB at *
  generalize f33 = F43 at *
  generalize G39 = G at *
  refine q_next [some (.fz (.lam 301)), some (.fz (.lam 300)), some (.fz (.lst A)), some (.fz (.lst B)), some (.own A), none, none] (q_asg (.fresh A) (q_call [.fz (.lst A)] F43 _ (q_A _ (q_slot _ rfl) (evA0 _ _)) g43 cA rfl) rfl) ?_
  refine q_next _ (q_for [.lst A, .lst A, .lst B, .lst A] rfl ?_ (for_step _ _ rfl (tA A lA none) (for_step _ _ rfl (tA A lA _) (for_step _ _ rfl (tB A lA _) (for_step _ _ rfl (tA B lB _) rfl))))) ?_
  · simp [seqD, LN]
  · exact q_ret (q_rv _ (q_cmp (.vown A) (.val (.lst A)) true (q_own _ rfl) (q_slot _ rfl) qA))
end K10
namespace K10
open Mc Pg PySem Th
theorem s_is_number : SIsNumber f0 := is_number_ok G0   
theorem s_is_set : SIsSet f1 := is_set_ok G1   
theorem s_check_set : SCheckSet f2 := check_set_ok G2 f1 rfl s_is_set
theorem s_check_length : SCheckLength f3 := check_length_ok G3 f0 rfl s_is_number
theorem s_marks_of : SMarks f4 := marks_of_ok G4   
theorem s_holds : SHolds f5 := holds_ok G5   
theorem s_picks : SPicks f6 := picks_ok G6   
theorem s_lowest : SLowest f7 := lowest_ok G7   
theorem s_share_of : SShare f8 := share_of_ok G8 f6 f7 rfl rfl s_picks s_lowest
theorem s_first_within : SFirst f9 := first_within_ok G9 f4 f5 rfl rfl s_marks_of s_holds
theorem s_Apart_shows : SApart f10 := Apart_shows_ok G10 f9 f8 rfl rfl s_first_within s_share_of
theorem s_Within_shows : SWithinS f11 := Within_shows_ok G11 f0 f4 f5 rfl rfl rfl s_is_number s_marks_of s_holds
theorem s_check_family : SCheckFam f12 := check_family_ok G12 f1 rfl s_is_set
theorem s_apart : SApartF f13 := apart_ok G13 f9 f12 f8 rfl rfl rfl s_first_within s_check_family s_share_of
theorem s_loose_of : SLoose f14 := loose_of_ok G14   
theorem s_with_signs : SWith f15 := with_signs_ok G15   
theorem s_row_of : SRow f16 := row_of_ok G16 f14 f15 rfl rfl s_loose_of s_with_signs
theorem s_rests_of : SRests f18 := rests_of_ok G18   
theorem s_rows : SRows f19 := rows_ok G19 f3 f6 rfl rfl s_check_length s_picks
theorem s_row_by : SRowBy f20 := row_by_ok G20 f16 f0 f3 f6 f18 rfl rfl rfl rfl rfl s_row_of s_is_number s_check_length s_picks s_rests_of
theorem s_check_leasts : SCheckLeasts f21 := check_leasts_ok G21 f9 f12 rfl rfl s_first_within s_check_family
theorem s_says_yes : SSaysYes f22 := says_yes_ok G22 f5 rfl s_holds
theorem s_says : SSays f23 := says_ok G23 f2 f4 f21 f22 rfl rfl rfl rfl s_check_set s_marks_of s_check_leasts s_says_yes
theorem s_is_settled : SSettled f24 := is_settled_ok G24 f5 rfl s_holds
theorem s_learnt : SLearnt f25 := learnt_ok G25 f0 f19 f20 f4 f21 f22 f24 rfl rfl rfl rfl rfl rfl rfl s_is_number s_rows s_row_by s_marks_of s_check_leasts s_says_yes s_is_settled
/-! ### families of sets of two things of six -/
def tw (a b : Nat) : List Nat := (List.range 6).map fun p => if p = a ∨ p = b then 120 else 45
theorem tw_all : ∀ a, a < 6 → ∀ b, b < 6 → a ≠ b → ((∀ c ∈ tw a b, c = 120 ∨ c = 45) ∧ (tw a b).length = 6 ∧ tw a b ≠ [120, 120, 120, 120, 45, 45]) := by decide +kernel
theorem tw_wi : ∀ a b c d : Fin 6, a ≠ b → c ≠ d → tw a b ≠ tw c d → wi (tw a b) (tw c d) = false := by decide +kernel
def Tw (s : List Nat) : Prop := ∃ a b, a < 6 ∧ b < 6 ∧ a ≠ b ∧ s = tw a b
structure S6 (ss : List (List Nat)) : Prop where
  ok : ∀ s ∈ ss, Tw s
  nd : ss.Nodup
  few : ss.length ≤ 6
theorem Tw.ch {s : List Nat} (h : Tw s) : Ch s ∧ s.length = 6 := by
  obtain ⟨a, b, h1, h2, h3, rfl⟩ := h
  have := tw_all a h1 b h2 h3
  exact ⟨this.1, this.2.1⟩
theorem Tw.no {s t : List Nat} (h : Tw s) (h' : Tw t) (n : s ≠ t) : wi s t = false := by
  obtain ⟨a, b, h1, h2, h3, rfl⟩ := h
  obtain ⟨c, d, k1, k2, k3, rfl⟩ := h'
  exact tw_wi ⟨a, h1⟩ ⟨b, h2⟩ ⟨c, k1⟩ ⟨d, k2⟩ (fun e => h3 (Fin.mk.inj e)) (fun e => k3 (Fin.mk.inj e)) n
theorem S6.fam {ss : List (List Nat)} (h : S6 ss) : FamOk 6 ss := ⟨fun s hs => (h.ok s hs).ch, by decide, h.nd, by have := h.few; omega⟩
theorem S6.none {ss : List (List Nat)} (h : S6 ss) : fw (ss.map _root_.Th.mk) = Option.none := by
  refine fw_anti 6 ss (fun s hs => (h.ok s hs).ch.2) ?_
  unfold AntiS
  have : ss.Pairwise (fun a b => a ≠ b) := h.nd
  refine List.Pairwise.imp_of_mem ?_ this
  intro a b ha hb hn
  exact ⟨(h.ok a ha).no (h.ok b hb) hn, (h.ok b hb).no (h.ok a ha) (Ne.symm hn)⟩
abbrev x4 : List Nat := [120, 120, 120, 120, 45, 45]
theorem S6.more {ss : List (List Nat)} (h : S6 ss) : FamOk 6 (ss ++ [x4]) := by
  refine ⟨fun s hs => ?_, by decide, ?_, by have := h.few; simp; omega⟩
  · rcases List.mem_append.1 hs with hs | hs
    · exact (h.ok s hs).ch
    · rw [List.mem_singleton.1 hs]
      exact ⟨by unfold Ch; decide, rfl⟩
  · rw [List.nodup_append]
    refine ⟨h.nd, by simp, fun a ha b hb e => ?_⟩
    obtain ⟨c, d, k1, k2, k3, k4⟩ := h.ok a ha
    have := (tw_all c k1 d k2 k3).2.2
    exact this (by rw [← k4, e]; exact List.mem_singleton.1 hb)
/-! _law_sets -/
theorem flat_one (l : List Nat) : (l.map fun c => [c]).flatten = l := by induction l with
  | nil => rfl
  | cons a r ih => simp [ih]
theorem ev_tw (G : Gm) (A0 A1 A2 A3 A4 A5 A8 : Option Sl) (a b : Nat) : ev G (.meth .join (.str []) (.cons (.lc (.ite (.cmp .isin (.slot 9) (.tup (.cons (.slot 6) (.cons (.slot 7) .nil)))) (.str [120]) (.str [45])) (.nm 9) (.rng1 (.int 6)) .non) .nil)) [A0, A1, A2, A3, A4, A5, some (.fz (.int a)), some (.fz (.int b)), A8, none] = some (.val (.str (tw a b))) := by
  have e4 : ev G (.lc (.ite (.cmp .isin (.slot 9) (.tup (.cons (.slot 6) (.cons (.slot 7) .nil)))) (.str [120]) (.str [45])) (.nm 9) (.rng1 (.int 6)) .non) [A0, A1, A2, A3, A4, A5, some (.fz (.int a)), some (.fz (.int b)), A8, none] = some (.fresh ((List.range 6).map fun p => .str [if p = a ∨ p = b then 120 else 45])) := by
    refine ev_lc_m (List.range 6) (fun (k : Nat) => D.int (k : Int)) _ ?_ (by rw [List.length_range, LN]; omega) fun k hk => ⟨[A0, A1, A2, A3, A4, A5, some (.fz (.int a)), some (.fz (.int b)), A8, some (.fz (.int k))], rfl, ?_⟩
    · simp [small62_nat 6 (by omega), rangeD0]
      rfl
    · have ec : ev G (.cmp .isin (.slot 9) (.tup (.cons (.slot 6) (.cons (.slot 7) .nil)))) [A0, A1, A2, A3, A4, A5, some (.fz (.int a)), some (.fz (.int b)), A8, some (.fz (.int k))] = some (.val (.bl (decide (k = a ∨ k = b)))) := by
        refine q_cmp (.val (.int k)) (.val (.tup [.int a, .int b])) _ (q_slot _ rfl) (by simp [LN]) ?_
        simp only [Rd1, cmpD, intsD, Option.map_some, List.mem_cons, List.not_mem_nil, or_false, Int.natCast_inj]
      by_cases h : k = a ∨ k = b
      · rw [decide_eq_true h] at ec
        rw [q_ite1 ec (ev_str _ _ _), if_pos h]; rfl
      · rw [decide_eq_false h] at ec
        rw [q_ite0 ec (ev_str _ _ _), if_neg h]; rfl
  refine q_meth1 (.val (.str [])) _ _ (ev_str _ _ _) e4 ?_
  have e5 : ((List.range 6).map fun p => D.str [if p = a ∨ p = b then 120 else 45]) = (tw a b).map fun c => D.str [c] := by
    unfold tw; rw [List.map_map]; rfl
  simp only [Rd1, Rd2, e5]
  rw [mtD, strsD_map]
  simp only [flat_one]
  rw [if_pos (by unfold tw; rw [List.length_map, List.length_range, LN]; omega)]
theorem bmod (c k : Nat) (h : 0 < k) : binD .mod (.int c) (.int k) = some (.val (.int (c % k : Nat))) := by
  simp only [binD]
  rw [if_pos (by omega)]
  simp
theorem bdiv (c k : Nat) (h : 0 < k) (hl : k.log2 < 9000) : binD .fdiv (.int c) (.int k) = some (.val (.int (c / k : Nat))) := by
  simp only [binD]
  rw [if_pos ⟨by omega, by simpa using hl⟩]
  simp
theorem badd (c k : Nat) : binD .add (.int c) (.int k) = some (.val (.int (c + k : Nat))) := by simp [binD]
theorem sets_body (G : Gm) (ns : List Int) (hn : ns ≠ []) (A1 : Option Sl) (by_ at_ : Nat) (hby : by_ ≤ 3) (hat : at_ < 6) (acc : List (List Nat)) (ha : S6 acc) (hlen : acc.length ≤ at_) (x5 x6 x7 x8 : Option Sl) :
    ∃ acc' y5 y6 y7 y8, S6 acc' ∧ acc'.length ≤ at_ + 1 ∧ acc' ≠ [] ∧ execs G b37l1 [some (.fz (.lst (ns.map D.int))), A1, some (.fz (.int by_)), some (.own (sL acc)), some (.fz (.int at_)), x5, x6, x7, x8, none] = some (.next [some (.fz (.lst (ns.map D.int))), A1, some (.fz (.int by_)), some (.own (sL acc')), some (.fz (.int at_)), y5, y6, y7, y8, none]) := by
  have hl : 0 < ns.length := List.length_pos_iff.2 hn
  have q1 : ∃ c : Nat, ev G (.bin .add (.bin .fdiv (.bi .abs (.cons (.sub (.slot 0) (.bin .mod (.bin .add (.slot 4) (.slot 2)) (.bi .len (.cons (.slot 0) .nil)))) .nil)) (.bin .add (.int 1) (.slot 2))) (.slot 4)) [some (.fz (.lst (ns.map D.int))), A1, some (.fz (.int by_)), some (.own (sL acc)), some (.fz (.int at_)), x5, x6, x7, x8, none] = some (.val (.int c)) := by
    have hm : (at_ + by_) % ns.length < ns.length := Nat.mod_lt _ hl
    refine ⟨(ns[(at_ + by_) % ns.length]).natAbs / (1 + by_) + at_, ?_⟩
    refine q_bin (.val (.int ((ns[(at_ + by_) % ns.length]).natAbs / (1 + by_) : Nat))) (.val (.int at_)) _ ?_ (q_slot _ rfl) (by simp [binD])
    refine q_bin (.val (.int ((ns[(at_ + by_) % ns.length]).natAbs : Nat))) (.val (.int (1 + by_ : Nat))) _ ?_ ?_ ?_
    · refine q_bi1 (.val (.int (ns[(at_ + by_) % ns.length]))) _ ?_ ?_
      · refine q_sub (.val (.lst (ns.map D.int))) (.val (.int ((at_ + by_) % ns.length : Nat))) _ (q_slot _ rfl) ?_ ?_
        · refine q_bin (.val (.int (at_ + by_ : Nat))) (.val (.int ns.length)) _ (q_bin (.val (.int at_)) (.val (.int by_)) _ (q_slot _ rfl) (q_slot _ rfl) (by simp [binD])) (q_bi1 (.val (.lst (ns.map D.int))) _ (q_slot _ rfl) (by simp [biD])) ?_
          simp only [Rd1, binD]
          rw [if_pos (by omega)]
          simp
        · simp only [Rd1, subD, L2.atI]
          rw [ixN_lt (by rw [List.length_map]; exact hm)]
          simp [hm]
      · simp only [Rd1, biD]
        congr 3
        split <;> omega
    · exact q_bin (.val (.int 1)) (.val (.int by_)) _ (by simp) (q_slot _ rfl) (by simp [binD])
    · simp only [Rd1, binD]
      have hlog : (((1 + by_ : Nat) : Int)).natAbs.log2 < 9000 := by
        have : by_ = 0 ∨ by_ = 1 ∨ by_ = 2 ∨ by_ = 3 := by omega
        rcases this with rfl | rfl | rfl | rfl <;> decide
      rw [if_pos ⟨by omega, hlog⟩]
      simp
  obtain ⟨c, q1⟩ := q1
  have hab : c % 6 ≠ (c + 1 + c / 6 % 5) % 6 := by omega
  have htw : Tw (tw (c % 6) ((c + 1 + c / 6 % 5) % 6)) := ⟨_, _, Nat.mod_lt _ (by decide), Nat.mod_lt _ (by decide), hab, rfl⟩
  generalize ht : tw (c % 6) ((c + 1 + c / 6 % 5) % 6) = t at htw
  have nin : cmpD .notin (.str t) (.lst (sL acc)) = some (!acc.any fun a => decide (a = t)) := by
    have h1 := eqable_str t htw.ch.1.okc
    have h2 : eqable (.lst (sL acc)) = true := eqable_strs acc id fun a h => (ha.ok a h).ch.1.okc
    simp only [cmpD, h1, h2, Bool.and_self, if_true]
    have := inL_map acc id t
    simp only [id] at this
    rw [this]
  unfold b37l1
  refine ⟨if acc.any (fun a => decide (a = t)) then acc else acc ++ [t], some (.fz (.int c)), some (.fz (.int (c % 6 : Nat))), some (.fz (.int ((c + 1 + c / 6 % 5) % 6 : Nat))), some (.fz (.str t)), ?_, ?_, ?_, ?_⟩
  · split
    · exact ha
    · rename_i h
      refine ⟨fun s hs => ?_, ?_, by simp; omega⟩
      · rcases List.mem_append.1 hs with hs | hs
        · exact ha.ok s hs
        · rw [List.mem_singleton.1 hs]; exact htw
      · rw [List.nodup_append]
        refine ⟨ha.nd, by simp, fun a h1 b h2 e => h ?_⟩
        rw [List.any_eq_true]
        exact ⟨a, h1, by rw [e, List.mem_singleton.1 h2]; simp⟩
  · split
    · omega
    · simp; omega
  · split
    · rename_i h
      intro e; rw [e] at h; cases h
    · simp
  · refine q_next [some (.fz (.lst (ns.map D.int))), A1, some (.fz (.int by_)), some (.own (sL acc)), some (.fz (.int at_)), some (.fz (.int c)), x6, x7, x8, none] (q_asg _ q1 rfl) ?_
    refine q_next [some (.fz (.lst (ns.map D.int))), A1, some (.fz (.int by_)), some (.own (sL acc)), some (.fz (.int at_)), some (.fz (.int c)), some (.fz (.int (c % 6 : Nat))), some (.fz (.int ((c + 1 + c / 6 % 5) % 6 : Nat))), x8, none] (q_unp [.int (c % 6 : Nat), .int ((c + 1 + c / 6 % 5) % 6 : Nat)] ?_ rfl) ?_
    · have e1 : ∀ env : Mc.Env, env[5]? = some (some (.fz (.int c))) → ev G (.bin .mod (.slot 5) (.int 6)) env = some (.val (.int (c % 6 : Nat))) := fun env h => q_bin (.val (.int c)) (.val (.int (6 : Nat))) _ (q_slot _ h) (ev_int _ _ _) (bmod c 6 (by decide))
      have e2 : ∀ env : Mc.Env, env[5]? = some (some (.fz (.int c))) → ev G (.bin .mod (.bin .add (.bin .add (.slot 5) (.int 1)) (.bin .mod (.bin .fdiv (.slot 5) (.int 6)) (.int 5))) (.int 6)) env = some (.val (.int ((c + 1 + c / 6 % 5) % 6 : Nat))) := fun env h =>
        q_bin (.val (.int (c + 1 + c / 6 % 5 : Nat))) (.val (.int (6 : Nat))) _ (q_bin (.val (.int (c + 1 : Nat))) (.val (.int (c / 6 % 5 : Nat))) _ (q_bin (.val (.int c)) (.val (.int (1 : Nat))) _ (q_slot _ h) (ev_int _ _ _) (badd c 1)) (q_bin (.val (.int (c / 6 : Nat))) (.val (.int (5 : Nat))) _ (q_bin (.val (.int c)) (.val (.int (6 : Nat))) _ (q_slot _ h) (ev_int _ _ _) (bdiv c 6 (by decide) (by decide))) (ev_int _ _ _) (bmod _ 5 (by decide))) (badd _ _)) (ev_int _ _ _) (bmod _ 6 (by decide))
      rw [ev_tup, evV1, e1 _ rfl, evV1, e2 _ rfl, evV0]
      simp only [Option.bind_some, R.fz]
      rw [if_pos (by rw [LN]; simp)]
    refine q_next [some (.fz (.lst (ns.map D.int))), A1, some (.fz (.int by_)), some (.own (sL acc)), some (.fz (.int at_)), some (.fz (.int c)), some (.fz (.int (c % 6 : Nat))), some (.fz (.int ((c + 1 + c / 6 % 5) % 6 : Nat))), some (.fz (.str t)), none] (q_asg _ (by rw [ev_tw, ht]) rfl) ?_
    have ec := q_cmp (G := G) (env := [some (.fz (.lst (ns.map D.int))), A1, some (.fz (.int by_)), some (.own (sL acc)), some (.fz (.int at_)), some (.fz (.int c)), some (.fz (.int (c % 6 : Nat))), some (.fz (.int ((c + 1 + c / 6 % 5) % 6 : Nat))), some (.fz (.str t)), none]) (op := .notin) (a := .slot 8) (b := .slot 3) (.val (.str t)) (.vown (sL acc)) _ (q_slot _ rfl) (q_own _ rfl) nin
    cases h : acc.any fun a => decide (a = t) with
    | true =>
      rw [h] at ec
      exact q_next _ (q_else ec (execs0 _ _)) (execs0 _ _)
    | false =>
      rw [h] at ec
      refine q_next _ (q_then ec (q_next _ (q_app (sL acc) (.val (.str t)) (.str t) rfl (q_slot _ rfl) rfl (by rw [List.length_map, LN]; omega)) (execs0 _ _))) ((execs0 _ _).trans ?_)
      simp
theorem sets_loop10 (G : Gm) (ns : List Int) (hn : ns ≠ []) (A1 : Option Sl) (by_ : Nat) (hby : by_ ≤ 3) : ∀ (k at_ : Nat), at_ + k ≤ 6 → ∀ (acc : List (List Nat)), S6 acc → acc.length ≤ at_ → ∀ (x4 x5 x6 x7 x8 : Option Sl),
    ∃ acc' y4 y5 y6 y7 y8, S6 acc' ∧ (0 < k ∨ acc ≠ [] → acc' ≠ []) ∧ forLoop (bindT (.nm 4)) (execs G b37l1) ((List.range' at_ k).map fun (i : Nat) => D.int i) [some (.fz (.lst (ns.map D.int))), A1, some (.fz (.int by_)), some (.own (sL acc)), x4, x5, x6, x7, x8, none] = some (.next [some (.fz (.lst (ns.map D.int))), A1, some (.fz (.int by_)), some (.own (sL acc')), y4, y5, y6, y7, y8, none])
  | 0, at_, _, acc, ha, _, x4, x5, x6, x7, x8 => ⟨acc, x4, x5, x6, x7, x8, ha, fun h => h.resolve_left (Nat.lt_irrefl 0), rfl⟩
  | k + 1, at_, hk, acc, ha, hl, x4, x5, x6, x7, x8 => by
    obtain ⟨acc1, y5, y6, y7, y8, h1, h2, h3, h4⟩ := sets_body G ns hn A1 by_ at_ hby (by omega) acc ha hl x5 x6 x7 x8
    obtain ⟨acc', z4, z5, z6, z7, z8, k1, k2, k3⟩ := sets_loop10 G ns hn A1 by_ hby k (at_ + 1) (by omega) acc1 h1 h2 (some (.fz (.int at_))) y5 y6 y7 y8
    refine ⟨acc', z4, z5, z6, z7, z8, k1, fun _ => k2 (.inr h3), ?_⟩
    rw [List.range'_succ, List.map_cons]
    exact for_step _ _ rfl h4 k3
theorem sets10 (ns : List Int) (hn : ns ≠ []) (many by_ : Nat) (h1 : 1 ≤ many) (h6 : many ≤ 6) (hby : by_ ≤ 3) : ∃ ss, S6 ss ∧ ss ≠ [] ∧ f37 [fI ns, .fz (.int many), .fz (.int by_)] = some (.fresh (sL ss)) := by
  obtain ⟨ss, y4, y5, y6, y7, y8, k1, k2, k3⟩ := sets_loop10 G37 ns hn (some (.fz (.int many))) by_ hby many 0 (by omega) [] ⟨by simp, by simp, by simp⟩ (by simp) none none none none none
  refine ⟨ss, k1, k2 (.inl h1), ?_⟩
  refine run_ret [some (fI ns), some (.fz (.int many)), some (.fz (.int by_)), none, none, none, none, none, none, none] rfl rfl ?_
  unfold b37
  generalize b37l1 = BB at *
  generalize G37 = G at *
  refine q_next [some (fI ns), some (.fz (.int many)), some (.fz (.int by_)), some (.own []), none, none, none, none, none, none] (q_asg (.fresh []) (by simp) rfl) ?_
  refine q_next _ (q_for _ rfl ?_ k3) (q_ret ?_)
  · simp [small62_nat many (by omega), rangeD0, List.range_eq_range']
  · simp
end K10
namespace K10
open Mc Pg PySem Th
theorem lay_asks (X : Asks) (h : ∀ p ∈ X, Ch p.1) : ∀ d ∈ askD X, (toPy d).canLay0 = true ∧ (toPy d).depth ≤ 1 := by
  intro d hd
  obtain ⟨p, hp, rfl⟩ := List.mem_map.1 hd
  have e := (h p hp).okc
  constructor
  · simp [toPy, toPyL, PyData.canLay0, PyData.canLayAll0, strOk_cps, e]
  · simp [toPy, toPyL, PyData.depth, PyData.depthAll]
theorem eqable_asks (X : Asks) (h : ∀ p ∈ X, Ch p.1) : eqable (.lst (askD X)) = true := by
  simp only [eqable, toPy, SeqAt.shaped, Bool.and_eq_true, decide_eq_true_eq, PyData.canLay0, PyData.depth]
  refine ⟨canLay_all _ fun d hd => (lay_asks X h d hd).1, ?_⟩
  have := depth_all 1 (askD X) fun d hd => (lay_asks X h d hd).2
  omega
theorem vw1 (ds : List D) : SlVs [.vw ds] [.fz (.lst ds)] := .cons (.inr ⟨_, rfl, rfl⟩) .nil
/-! apart -/
theorem l301 {ss : List (List Nat)} (h : FamOk 6 ss) (hl : ss.length * 7 ≤ 8000) : f27 [.vw (sL ss)] = some (.val (apD ss)) := by
  refine run_v gv27 1 1 _ (by decide +kernel) (vw1 _) ?_
  refine run_ret [some (fS ss)] rfl rfl (q_ret (q_rv _ ?_))
  unfold eL301
  exact q_call [fS ss] f13 _ (q_A _ (q_slot _ rfl) (evA0 _ _)) rfl (s_apart 6 ss h hl) rfl
theorem l300 {ss : List (List Nat)} (h : FamOk 6 ss) (hl : ss.length * 7 ≤ 8000) : f26 [.fz (apD ss), .fz (.lst (sL ss))] = some (.val (.bl true)) := by
  refine run_ret [some (.fz (apD ss)), some (fS ss)] rfl rfl (q_ret (q_rv _ ?_))
  unfold eL300
  have hs : ∀ s ∈ ss, s.length = 6 := fun s hs => (h.ok s hs).2
  have g200 : G26 200 = some f10 := rfl
  have g201 : G26 201 = some f11 := rfl
  have s10 := s_Apart_shows
  have s11 := s_Within_shows
  generalize f10 = F10 at *
  generalize f11 = F11 at *
  generalize G26 = G at *
  have he : ∀ x : Option Sl, evA G (.cons (.slot 1) .nil) [x, some (fS ss)] = some [fS ss] := fun x => q_A (.val (.lst (sL ss))) (q_slot _ rfl) (evA0 _ _)
  unfold apD
  cases e : fw (ss.map mk) with
  | none =>
    refine q_mt1 (F := F10) (c := 1) (f := 200) [fS ss] _ (q_slot _ rfl) (he _) rfl g200 ((s10 6 ss _ _ ⟨hs, by decide, hl⟩ h.few).trans ?_) rfl
    simp [noneW, e]
  | some p =>
    obtain ⟨i, j⟩ := p
    refine q_mt1 (F := F11) (c := 2) (f := 201) [fS ss] _ (q_slot _ rfl) (he _) rfl g201 ((s11 6 ss _ _ hs (by decide)).trans ?_) rfl
    obtain ⟨h1, a, b, h2, h3, h4⟩ := fw_some e
    rw [List.getElem?_map] at h2 h3
    obtain ⟨s, hs', rfl⟩ := Option.map_eq_some_iff.1 h2
    obtain ⟨t, ht, rfl⟩ := Option.map_eq_some_iff.1 h3
    have l1 := (List.getElem?_eq_some_iff.1 hs').1
    have l2 := (List.getElem?_eq_some_iff.1 ht).1
    have hw : wi s t = true := by
      rw [← mk_and s t (by rw [hs s (List.mem_of_getElem? hs'), hs t (List.mem_of_getElem? ht)])]
      exact decide_eq_true h4
    have : winS ss i j = true := by
      simp only [winS, Int.toNat_natCast, List.getD_eq_getElem?_getD, hs', ht, Option.getD_some, hw, Bool.and_true, decide_eq_true_eq]
      omega
    rw [this]
/-! says -/
theorem l302 {ss : List (List Nat)} (h : S6 ss) : ∃ a b c : Bool, f28 [.fz (.lst (sL ss))] = some (.fresh [.bl a, .bl b, .bl c]) := by
  have sy := fun (s : List Nat) (hs : Ok s) (hl : s.length = 6) => s_says 6 ss s h.fam h.none hs fun _ => hl
  have e := fun (s : List Nat) (hs : Ok s) (hl : s.length = 6) => q_call (G := G28) (env := [some (fS ss)]) (f := 24) (es := .cons (.slot 0) (.cons (.str s) .nil)) [fS ss, .fz (.str s)] f23 _ (q_A (.val (.lst (sL ss))) (q_slot _ rfl) (q_A (.val (.str s)) (ev_str _ _ _) (evA0 _ _))) rfl (sy s hs hl) rfl
  have ok : ∀ s : List Nat, s.length = 6 → (∀ c ∈ s, c = 120 ∨ c = 45) → Ok s := fun s h1 h2 => ⟨by omega, h2⟩
  have e1 := e [120, 120, 120, 45, 45, 45] (ok _ rfl (by decide)) rfl
  have e2 := e [120, 120, 120, 120, 120, 120] (ok _ rfl (by decide)) rfl
  have e3 := e [45, 45, 45, 45, 45, 45] (ok _ rfl (by decide)) rfl
  refine ⟨ss.any fun t => wi t [120, 120, 120, 45, 45, 45], ss.any fun t => wi t [120, 120, 120, 120, 120, 120], ss.any fun t => wi t [45, 45, 45, 45, 45, 45], run_ret [some (fS ss)] rfl rfl (q_ret (q_rf _ ?_))⟩
  unfold eL302
  rw [ev_lst, evV1, e1, evV1, e2, evV1, e3, evV0]
  simp only [Option.bind_some, R.fz]
  rw [if_pos (by rw [LN]; simp)]
theorem l302v {ss : List (List Nat)} {r : R} (h : f28 [.fz (.lst (sL ss))] = some r) : f28 [.vw (sL ss)] = some r := run_v gv28 1 1 _ (by decide +kernel) (vw1 _) h
/-! learnt -/
theorem l303 {ss : List (List Nat)} (h : S6 ss) : f29 [.fz (.lst (sL ss))] = some (.fresh (askD (lrn 6 ss))) := by
  refine run_ret [some (fS ss)] rfl rfl (q_ret (q_rf _ ?_))
  unfold eL303
  exact q_call [.fz (.int (6 : Nat)), fS ss] f25 _ (q_A (.val (.int 6)) (ev_int _ _ _) (q_A (.val (.lst (sL ss))) (q_slot _ rfl) (evA0 _ _))) rfl (s_learnt 6 ss (by decide) h.fam h.none) rfl
theorem l303v {ss : List (List Nat)} {r : R} (h : f29 [.fz (.lst (sL ss))] = some r) : f29 [.vw (sL ss)] = some r := run_v gv29 1 1 _ (by decide +kernel) (vw1 _) h
/-! row, row_by -/
theorem l304a : ∃ X : List (List Nat), (∀ s ∈ X, okc s = true) ∧ X.length ≤ 10 ∧ f30 [.fz (.lst [.str [120, 120, 45, 45, 120, 45, 45, 45]])] = some (.fresh (sL X)) := ⟨[[45, 45, 45, 45, 120, 45, 45, 45], [120, 45, 45, 45, 120, 45, 45, 45], [120, 120, 45, 45, 120, 45, 45, 45], [120, 120, 120, 45, 120, 45, 45, 45], [120, 120, 120, 45, 120, 120, 45, 45], [120, 120, 120, 45, 120, 120, 120, 45], [120, 120, 120, 45, 120, 120, 120, 120]], by decide, by decide, by kernel_rfl⟩
theorem l304b : ∃ X : List (List Nat), (∀ s ∈ X, okc s = true) ∧ X.length ≤ 10 ∧ f30 [.fz (.lst [.str [120, 45, 120, 45, 120, 45, 120, 45]])] = some (.fresh (sL X)) := ⟨[[45, 45, 120, 45, 120, 45, 120, 45], [120, 45, 120, 45, 120, 45, 120, 45], [120, 45, 120, 45, 120, 45, 120, 120]], by decide, by decide, by kernel_rfl⟩
theorem l305a : ∃ X : List (List Nat), (∀ s ∈ X, okc s = true) ∧ X.length ≤ 10 ∧ f31 [.fz (.lst [.int 5, .int 3])] = some (.fresh (sL X)) := ⟨[[45, 45, 45, 120, 120], [120, 45, 45, 120, 120]], by decide, by decide, by kernel_rfl⟩
theorem l305b : ∃ X : List (List Nat), (∀ s ∈ X, okc s = true) ∧ X.length ≤ 10 ∧ f31 [.fz (.lst [.int 6, .int 7])] = some (.fresh (sL X)) := ⟨[[45, 45, 45, 120, 120, 120]], by decide, by decide, by kernel_rfl⟩
theorem l304v {ds : List D} {r : R} (h : f30 [.fz (.lst ds)] = some r) : f30 [.vw ds] = some r := run_v gv30 1 1 _ (by decide +kernel) (vw1 _) h
theorem l305v {ds : List D} {r : R} (h : f31 [.fz (.lst ds)] = some r) : f31 [.vw ds] = some r := run_v gv31 1 1 _ (by decide +kernel) (vw1 _) h
/-! the doors -/
theorem nl_sL (ss : List (List Nat)) : ∀ d ∈ sL ss, noLst d = true := fun d hd => by obtain ⟨s, _, rfl⟩ := List.mem_map.1 hd; rfl
theorem eq_sL {ss : List (List Nat)} (h : ∀ s ∈ ss, okc s = true) : eqable (.lst (sL ss)) = true := eqable_strs ss id h
theorem S6.eq {ss : List (List Nat)} (h : S6 ss) : eqable (.lst (sL ss)) = true := eq_sL fun s hs => (h.ok s hs).ch.1.okc
theorem S6.len {ss : List (List Nat)} (h : S6 ss) : (sL ss).length ≤ LINE := by have := h.few; rw [List.length_map, LN]; omega
theorem d302 {A B : List (List Nat)} (hA : S6 A) (hB : S6 B) : f36 [.fz (.lam 302), .fz (.lst (sL A)), .fz (.lst (sL B))] = some (.val (.bl true)) := by
  obtain ⟨a, b, c, e⟩ := l302 hA
  obtain ⟨a', b', c', e'⟩ := l302 hB
  have q : ∀ a b c : Bool, eqable (.lst [.bl a, .bl b, .bl c]) = true := fun a b c => eqable_lst (by simp [flatD])
  exact door 302 f28 (sL A) (sL B) _ _ rfl (by decide) (nl_sL A) (nl_sL B) (by simp [noLst, isiD]) hA.len hB.len (by rw [LN]; simp) hA.eq hB.eq (q _ _ _) (q _ _ _) (l302v e) (l302v e') e'
theorem d303 {A B : List (List Nat)} (hA : S6 A) (hB : S6 B) : f36 [.fz (.lam 303), .fz (.lst (sL A)), .fz (.lst (sL B))] = some (.val (.bl true)) := by
  have e := l303 hA
  have e' := l303 hB
  have q : ∀ ss, eqable (.lst (askD (lrn 6 ss))) = true := fun ss => eqable_asks _ fun p hp => (lrn_ok 6 (by decide) ss p hp).1
  have hc : (askD (lrn 6 A)).length < LINE := by
    have := lrn_count 6 (by decide) A
    have k : C 6 (6 / 2) + (if 0 < 6 then C 6 (6 / 2 + 1) else 0) ≤ 1000 := by decide +kernel
    rw [List.length_map, LN]
    omega
  refine door 303 f29 (sL A) (sL B) _ _ rfl (by decide) (nl_sL A) (nl_sL B) ?_ hA.len hB.len hc hA.eq hB.eq (q _) (q _) (l303v e) (l303v e') e'
  intro d hd
  obtain ⟨p, _, rfl⟩ := List.mem_map.1 hd
  rfl
theorem d304 : f36 [.fz (.lam 304), .fz (.lst [.str [120, 120, 45, 45, 120, 45, 45, 45]]), .fz (.lst [.str [120, 45, 120, 45, 120, 45, 120, 45]])] = some (.val (.bl true)) := by
  obtain ⟨X, k1, k2, e⟩ := l304a
  obtain ⟨Y, j1, j2, e'⟩ := l304b
  exact door 304 f30 _ _ (sL X) (sL Y) rfl (by decide) (by simp [noLst, isiD]) (by simp [noLst, isiD]) (nl_sL X) (by rw [LN]; simp) (by rw [LN]; simp) (by rw [List.length_map, LN]; omega) (eq_sL (ss := [[120, 120, 45, 45, 120, 45, 45, 45]]) (by decide)) (eq_sL (ss := [[120, 45, 120, 45, 120, 45, 120, 45]]) (by decide)) (eq_sL k1) (eq_sL j1) (l304v e) (l304v e') e'
theorem d305 : f36 [.fz (.lam 305), .fz (.lst [.int 5, .int 3]), .fz (.lst [.int 6, .int 7])] = some (.val (.bl true)) := by
  obtain ⟨X, k1, k2, e⟩ := l305a
  obtain ⟨Y, j1, j2, e'⟩ := l305b
  exact door 305 f31 _ _ (sL X) (sL Y) rfl (by decide) (by simp [noLst, isiD]) (by simp [noLst, isiD]) (nl_sL X) (by rw [LN]; simp) (by rw [LN]; simp) (by rw [List.length_map, LN]; omega) (eqable_lst (by simp [flatD])) (eqable_lst (by simp [flatD])) (eq_sL k1) (eq_sL j1) (l305v e) (l305v e') e'
theorem dfree {A B : List (List Nat)} (hA : S6 A) (hB : FamOk 6 B) (lB : B.length ≤ 10) : f39 [.fz (.lam 301), .fz (.lam 300), .fz (.lst (sL A)), .fz (.lst (sL B))] = some (.val (.bl true)) := by
  have lA : A.length * 7 ≤ 8000 := by have := hA.few; omega
  exact free f27 f26 (sL A) (sL B) rfl rfl (nl_sL A) (nl_sL B) hA.len (by rw [List.length_map, LN]; omega) hA.eq (eq_sL fun s hs => (hB.ok s hs).1.okc) _ _ (l301 hA.fam lA) (l300 hA.fam lA) (l301 hB (by omega)) (l300 hB (by omega))
/-! the law -/
theorem absD (z : Int) : biD .abs [.int z] = some (.val (.int (z.natAbs : Nat))) := by
  simp only [biD]
  congr 3
  split <;> omega
theorem cells_ok (G : Gm) (ns : List Int) (hl : ns.length ≤ 63) (s : Sl) (hs : s = .fz (.lst (ns.map D.int)) ∨ s = .vw (ns.map D.int)) (r : Mc.Env) : ∃ cs : List Int, cs ≠ [] ∧ exec G (.asg 1 false (.ite (.cmp .ne (.slot 0) (.lst .nil)) (.slice (.slot 0) .non (.one (.int 63))) (.lst (.cons (.int 5) .nil)))) (some s :: r) = some (.next ((some s :: r).set 1 (some (fI cs)))) := by
  obtain ⟨x, q0, hx⟩ : ∃ x : R, ev G (.slot 0) (some s :: r) = some x ∧ x.data = .lst (ns.map D.int) := by
    rcases hs with rfl | rfl
    · exact ⟨_, q_slot _ rfl, rfl⟩
    · exact ⟨.vpar (ns.map D.int), by rw [ev_slot]; rfl, rfl⟩
  have hl1 : 1 ≤ LINE := by rw [LN]; omega
  cases ns with
  | nil => exact ⟨[5], by simp, q_asg (.fresh [.int 5]) (q_ite0 (q_cmp x (.fresh []) false q0 (by simp) (by rw [hx]; rfl)) (by simp [hl1])) rfl⟩
  | cons a t =>
    refine ⟨a :: t, by simp, q_asg (.fresh ((a :: t).map D.int)) (q_ite1 (q_cmp x (.fresh []) true q0 (by simp) ?_) ?_) rfl⟩
    · have : eqable (.lst ((a :: t).map D.int)) = true := eqable_lst (fun d hd => by obtain ⟨z, _, rfl⟩ := List.mem_map.1 hd; rfl)
      rw [hx]
      simp only [Rd1, Rd2, cmpD]
      unfold eqD
      simp only [this]
      rfl
    · rw [ev_slice, q0]
      simp only [evO0, evO1, ev_int, hx]
      have ec : cutL ((a :: t).map D.int) none (some 63) = (a :: t).map D.int := by
        have e : HT.sIx ((a :: t).map D.int).length ((a :: t).map D.int).length (some ((63 : Nat) : Int)) = min 63 ((a :: t).map D.int).length := HT.sIx_nat _ _ _
        have e' : HT.sIx ((a :: t).map D.int).length ((a :: t).map D.int).length (some 63) = min 63 ((a :: t).map D.int).length := e
        rw [cutL, e', HT.sIx_none, List.drop_zero, Nat.sub_zero, Nat.min_eq_right (by rw [List.length_map]; exact hl)]
        exact List.take_length
      rw [ec]
theorem all_ok {α : Type} (l : List α) : biD .all [.lst (l.map fun _ => D.bl true)] = some (.val (.bl true)) := by
  simp only [biD, blsD_map, Option.map_some]
  congr 3
  rw [List.all_eq_true]
  intro x hx
  obtain ⟨_, _, rfl⟩ := List.mem_map.1 hx
  rfl
theorem law_of (ns : List Int) (hl : ns.length ≤ 63) (s : Sl) (hs : s = .fz (.lst (ns.map D.int)) ∨ s = .vw (ns.map D.int)) : f40 [s] = some (.val (.bl true)) := by
  obtain ⟨cs, hc, q1⟩ := cells_ok G40 ns hl s hs [none, none, none, none, none, none, none, none]
  have hm : 1 ≤ 1 + cs.sum.natAbs % 6 ∧ 1 + cs.sum.natAbs % 6 ≤ 6 := by omega
  obtain ⟨A, hA, _, eA⟩ := sets10 cs hc (1 + cs.sum.natAbs % 6) 0 hm.1 hm.2 (by decide)
  obtain ⟨B, hB, _, eB⟩ := sets10 cs hc (1 + cs.sum.natAbs % 6) 3 hm.1 hm.2 (by decide)
  have r1 := dfree hA hB.fam (by have := hB.few; omega)
  have r2 := dfree hA hA.more (by have := hA.few; simp; omega)
  have r3 := d302 hA hB
  have r4 := d303 hA hB
  have r5 := d304
  have r6 := d305
  have g31 : G40 31 = some f37 := rfl
  have g46 : G40 46 = some f36 := rfl
  have g48 : G40 48 = some f39 := rfl
  have hlA := hA.few
  refine run_ret [some s, none, none, none, none, none, none, none, none] rfl rfl ?_
  unfold b40
  generalize f37 = F31 at *
  generalize f36 = F46 at *
  generalize f39 = F48 at *
  generalize G40 = G at *
  have hL : ∀ n : Nat, n ≤ 100 → n < LINE := fun n h => by rw [LN]; omega
  have hL' : ∀ n : Nat, n ≤ 100 → n ≤ LINE := fun n h => by rw [LN]; omega
  generalize hm' : cs.sum.natAbs = m at *
  refine q_next [some s, some (fI cs), none, none, none, none, none, none, none] q1 ?_
  refine q_next [some s, some (fI cs), some (.fz (.int m)), none, none, none, none, none, none] (q_asg _ (q_bi1 (.val (.int cs.sum)) _ (q_bi1 (.val (.lst (cs.map D.int))) _ (q_slot _ rfl) (by simp only [Rd1, biD]; rw [show intsD (cs.map D.int) = some cs from (intsD_map cs id).trans (by simp)]; rfl)) ((absD _).trans (by rw [hm']))) rfl) ?_
  refine q_next [some s, some (fI cs), some (.fz (.int m)), some (.own []), some (.own []), none, none, none, none] (by simp [setSls, R.asSl]) ?_
  have em : ∀ env : Mc.Env, env[2]? = some (some (.fz (.int m))) → ev G (.bin .add (.int 1) (.bin .mod (.slot 2) (.int 6))) env = some (.val (.int (1 + m % 6 : Nat))) := fun env h =>
    q_bin (.val (.int (1 : Nat))) (.val (.int (m % 6 : Nat))) _ (ev_int _ _ _) (q_bin (.val (.int m)) (.val (.int (6 : Nat))) _ (q_slot _ h) (ev_int _ _ _) (bmod m 6 (by decide))) (badd 1 _)
  have c0 := q_call (G := G) (env := [some s, some (fI cs), some (.fz (.int m)), some (.own []), some (.own []), none, none, none, none]) (f := 31) (es := .cons (.slot 1) (.cons (.bin .add (.int 1) (.bin .mod (.slot 2) (.int 6))) (.cons (.int 0) .nil))) [fI cs, .fz (.int (1 + m % 6 : Nat)), .fz (.int (0 : Nat))] F31 _ (q_A (.val (.lst (cs.map D.int))) (q_slot _ rfl) (q_A _ (em _ rfl) (q_A (.val (.int (0 : Nat))) (ev_int _ _ _) (evA0 _ _)))) g31 eA rfl
  have c3 := q_call (G := G) (env := [some s, some (fI cs), some (.fz (.int m)), some (.own []), some (.own []), none, none, none, none]) (f := 31) (es := .cons (.slot 1) (.cons (.bin .add (.int 1) (.bin .mod (.slot 2) (.int 6))) (.cons (.int 3) .nil))) [fI cs, .fz (.int (1 + m % 6 : Nat)), .fz (.int (3 : Nat))] F31 _ (q_A (.val (.lst (cs.map D.int))) (q_slot _ rfl) (q_A _ (em _ rfl) (q_A (.val (.int (3 : Nat))) (ev_int _ _ _) (evA0 _ _)))) g31 eB rfl
  refine q_next [some s, some (fI cs), some (.fz (.int m)), some (.own []), some (.own []), some (.fz (.lst (sL A))), some (.fz (.lst (sL B))), none, none] (by rw [exec_par, evM1, c0, evM1, c3, evM0]; rfl) ?_
  have tp4 : ∀ (x y : List D) (d : D) (e : E) (r : R), r.fz = some d → ev G e [some s, some (fI cs), some (.fz (.int m)), some (.own x), some (.own y), some (.fz (.lst (sL A))), some (.fz (.lst (sL B))), none, none] = some r → ev G (.tup (.cons (.lam 301) (.cons (.lam 300) (.cons (.slot 5) (.cons e .nil))))) [some s, some (fI cs), some (.fz (.int m)), some (.own x), some (.own y), some (.fz (.lst (sL A))), some (.fz (.lst (sL B))), none, none] = some (.val (.tup [.lam 301, .lam 300, .lst (sL A), d])) := fun x y d e r hr he => by
    rw [ev_tup, evV1, q_lam, evV1, q_lam, evV1, q_slot _ rfl, evV1, he, evV0]
    simp only [Option.bind_some, hr]
    simp only [R.fz]
    rw [if_pos (hL' _ (by simp))]
  have tp3 : ∀ (x y : List D) (j : Nat) (d d' : D) (e e' : E) (r r' : R), r.fz = some d → r'.fz = some d' → ev G e [some s, some (fI cs), some (.fz (.int m)), some (.own x), some (.own y), some (.fz (.lst (sL A))), some (.fz (.lst (sL B))), none, none] = some r → ev G e' [some s, some (fI cs), some (.fz (.int m)), some (.own x), some (.own y), some (.fz (.lst (sL A))), some (.fz (.lst (sL B))), none, none] = some r' → ev G (.tup (.cons (.lam j) (.cons e (.cons e' .nil)))) [some s, some (fI cs), some (.fz (.int m)), some (.own x), some (.own y), some (.fz (.lst (sL A))), some (.fz (.lst (sL B))), none, none] = some (.val (.tup [.lam j, d, d'])) := fun x y j d d' e e' r r' hr hr' he he' => by
    rw [ev_tup, evV1, q_lam, evV1, he, evV1, he', evV0]
    simp only [Option.bind_some, hr, hr']
    simp only [R.fz]
    rw [if_pos (hL' _ (by simp))]
  have v5 : ∀ (x y : List D), ev G (.slot 5) [some s, some (fI cs), some (.fz (.int m)), some (.own x), some (.own y), some (.fz (.lst (sL A))), some (.fz (.lst (sL B))), none, none] = some (.val (.lst (sL A))) := fun x y => q_slot _ rfl
  have v6 : ∀ (x y : List D), ev G (.slot 6) [some s, some (fI cs), some (.fz (.int m)), some (.own x), some (.own y), some (.fz (.lst (sL A))), some (.fz (.lst (sL B))), none, none] = some (.val (.lst (sL B))) := fun x y => q_slot _ rfl
  have l1 : ∀ (env : Mc.Env) (d : D) (e : E), ev G e env = some (.val d) → ev G (.lst (.cons e .nil)) env = some (.fresh [d]) := fun env d e he => by
    rw [ev_lst, evV1, he, evV0]
    simp only [Option.bind_some, R.fz]
    rw [if_pos (hL' _ (by simp))]
  have l2 : ∀ (env : Mc.Env) (d d' : D) (e e' : E), ev G e env = some (.val d) → ev G e' env = some (.val d') → ev G (.lst (.cons e (.cons e' .nil))) env = some (.fresh [d, d']) := fun env d d' e e' he he' => by
    rw [ev_lst, evV1, he, evV1, he', evV0]
    simp only [Option.bind_some, R.fz]
    rw [if_pos (hL' _ (by simp))]
  have v7 : ∀ (x y : List D), ev G (.bin .add (.slot 5) (.lst (.cons (.str [120, 120, 120, 120, 45, 45]) .nil))) [some s, some (fI cs), some (.fz (.int m)), some (.own x), some (.own y), some (.fz (.lst (sL A))), some (.fz (.lst (sL B))), none, none] = some (.fresh (sL (A ++ [K10.x4]))) := fun x y => by
    refine q_bin _ _ _ (v5 x y) (l1 _ _ _ (ev_str _ _ _)) ?_
    simp only [Rd1, Rd2, binD]
    rw [if_pos (hL' _ (by simp; omega))]
    simp
  refine q_next [some s, some (fI cs), some (.fz (.int m)), some (.own []), some (.own [.tup [.lam 301, .lam 300, .lst (sL A), .lst (sL B)]]), some (.fz (.lst (sL A))), some (.fz (.lst (sL B))), none, none] (q_app [] _ _ rfl (tp4 _ _ _ _ _ rfl (v6 _ _)) rfl (hL _ (by simp))) ?_
  refine q_next [some s, some (fI cs), some (.fz (.int m)), some (.own []), some (.own [.tup [.lam 301, .lam 300, .lst (sL A), .lst (sL B)], .tup [.lam 301, .lam 300, .lst (sL A), .lst (sL (A ++ [K10.x4]))]]), some (.fz (.lst (sL A))), some (.fz (.lst (sL B))), none, none] (q_app [.tup [.lam 301, .lam 300, .lst (sL A), .lst (sL B)]] _ _ rfl (tp4 _ _ _ _ _ rfl (v7 _ _)) rfl (hL _ (by simp))) ?_
  generalize hfr : ([.tup [.lam 301, .lam 300, .lst (sL A), .lst (sL B)], .tup [.lam 301, .lam 300, .lst (sL A), .lst (sL (A ++ [K10.x4]))]] : List D) = fr
  refine q_next [some s, some (fI cs), some (.fz (.int m)), some (.own [.tup [.lam 302, .lst (sL A), .lst (sL B)]]), some (.own fr), some (.fz (.lst (sL A))), some (.fz (.lst (sL B))), none, none] (q_app [] _ _ rfl (tp3 _ _ 302 _ _ _ _ _ _ rfl rfl (v5 _ _) (v6 _ _)) rfl (hL _ (by simp))) ?_
  refine q_next [some s, some (fI cs), some (.fz (.int m)), some (.own [.tup [.lam 302, .lst (sL A), .lst (sL B)], .tup [.lam 303, .lst (sL A), .lst (sL B)]]), some (.own fr), some (.fz (.lst (sL A))), some (.fz (.lst (sL B))), none, none] (q_app [.tup [.lam 302, .lst (sL A), .lst (sL B)]] _ _ rfl (tp3 _ _ 303 _ _ _ _ _ _ rfl rfl (v5 _ _) (v6 _ _)) rfl (hL _ (by simp))) ?_
  refine q_next [some s, some (fI cs), some (.fz (.int m)), some (.own [.tup [.lam 302, .lst (sL A), .lst (sL B)], .tup [.lam 303, .lst (sL A), .lst (sL B)], .tup [.lam 304, .lst [.str [120, 120, 45, 45, 120, 45, 45, 45]], .lst [.str [120, 45, 120, 45, 120, 45, 120, 45]]]]), some (.own fr), some (.fz (.lst (sL A))), some (.fz (.lst (sL B))), none, none] (q_app [.tup [.lam 302, .lst (sL A), .lst (sL B)], .tup [.lam 303, .lst (sL A), .lst (sL B)]] _ _ rfl (tp3 _ _ 304 _ _ _ _ _ _ rfl rfl (l1 _ _ _ (ev_str _ _ _)) (l1 _ _ _ (ev_str _ _ _))) rfl (hL _ (by simp))) ?_
  refine q_next [some s, some (fI cs), some (.fz (.int m)), some (.own [.tup [.lam 302, .lst (sL A), .lst (sL B)], .tup [.lam 303, .lst (sL A), .lst (sL B)], .tup [.lam 304, .lst [.str [120, 120, 45, 45, 120, 45, 45, 45]], .lst [.str [120, 45, 120, 45, 120, 45, 120, 45]]], .tup [.lam 305, .lst [.int 5, .int 3], .lst [.int 6, .int 7]]]), some (.own fr), some (.fz (.lst (sL A))), some (.fz (.lst (sL B))), none, none] (q_app [.tup [.lam 302, .lst (sL A), .lst (sL B)], .tup [.lam 303, .lst (sL A), .lst (sL B)], .tup [.lam 304, .lst [.str [120, 120, 45, 45, 120, 45, 45, 45]], .lst [.str [120, 45, 120, 45, 120, 45, 120, 45]]]] _ _ rfl (tp3 _ _ 305 _ _ _ _ _ _ rfl rfl (l2 _ _ _ _ _ (ev_int _ _ _) (ev_int _ _ _)) (l2 _ _ _ _ _ (ev_int _ _ _) (ev_int _ _ _))) rfl (hL _ (by simp))) ?_
  clear tp3 tp4 v5 v6 v7 l1 l2 em c0 c3 q1
  have ea := ev_lc_m (G := G) (env := [some s, some (fI cs), some (.fz (.int m)), some (.own [.tup [.lam 302, .lst (sL A), .lst (sL B)], .tup [.lam 303, .lst (sL A), .lst (sL B)], .tup [.lam 304, .lst [.str [120, 120, 45, 45, 120, 45, 45, 45]], .lst [.str [120, 45, 120, 45, 120, 45, 120, 45]]], .tup [.lam 305, .lst [.int 5, .int 3], .lst [.int 6, .int 7]]]), some (.own fr), some (.fz (.lst (sL A))), some (.fz (.lst (sL B))), none, none]) (elt := .call 46 (.cons (.slot 7) (.cons (.slot 5) (.cons (.slot 6) .nil)))) (tg := .tp [7, 5, 6]) (src := .seq (.slot 3))
    [(302, sL A, sL B), (303, sL A, sL B), (304, [.str [120, 120, 45, 45, 120, 45, 45, 45]], [.str [120, 45, 120, 45, 120, 45, 120, 45]]), (305, [.int 5, .int 3], [.int 6, .int 7])] (fun p : Nat × List D × List D => D.tup [.lam p.1, .lst p.2.1, .lst p.2.2]) (fun _ => D.bl true) (by rw [evS_seq, q_own _ rfl]; rfl) (hL' _ (by simp)) (fun p hp => by
      refine ⟨[some s, some (fI cs), some (.fz (.int m)), some (.own [.tup [.lam 302, .lst (sL A), .lst (sL B)], .tup [.lam 303, .lst (sL A), .lst (sL B)], .tup [.lam 304, .lst [.str [120, 120, 45, 45, 120, 45, 45, 45]], .lst [.str [120, 45, 120, 45, 120, 45, 120, 45]]], .tup [.lam 305, .lst [.int 5, .int 3], .lst [.int 6, .int 7]]]), some (.own fr), some (.fz (.lst p.2.1)), some (.fz (.lst p.2.2)), some (.fz (.lam p.1)), none], rfl, ?_⟩
      have hf : F46 [.fz (.lam p.1), .fz (.lst p.2.1), .fz (.lst p.2.2)] = some (.val (.bl true)) := by
        simp only [List.mem_cons, List.not_mem_nil, or_false] at hp
        rcases hp with rfl | rfl | rfl | rfl
        · exact r3
        · exact r4
        · exact r5
        · exact r6
      rw [q_call [.fz (.lam p.1), .fz (.lst p.2.1), .fz (.lst p.2.2)] F46 _ (q_A (.val (.lam p.1)) (q_slot _ rfl) (q_A (.val (.lst p.2.1)) (q_slot _ rfl) (q_A (.val (.lst p.2.2)) (q_slot _ rfl) (evA0 _ _)))) g46 hf rfl]
      rfl)
  refine q_next _ (q_else (q_not true (q_bi1 _ _ ea (all_ok _))) (execs0 _ _)) ?_
  clear ea
  generalize ([.tup [.lam 302, .lst (sL A), .lst (sL B)], .tup [.lam 303, .lst (sL A), .lst (sL B)], .tup [.lam 304, .lst [.str [120, 120, 45, 45, 120, 45, 45, 45]], .lst [.str [120, 45, 120, 45, 120, 45, 120, 45]]], .tup [.lam 305, .lst [.int 5, .int 3], .lst [.int 6, .int 7]]] : List D) = as
  have ef := ev_lc_m (G := G) (env := [some s, some (fI cs), some (.fz (.int m)), some (.own as), some (.own fr), some (.fz (.lst (sL A))), some (.fz (.lst (sL B))), none, none]) (elt := .call 48 (.cons (.slot 7) (.cons (.slot 8) (.cons (.slot 5) (.cons (.slot 6) .nil))))) (tg := .tp [7, 8, 5, 6]) (src := .seq (.slot 4))
    [(sL A, sL B), (sL A, sL (A ++ [K10.x4]))] (fun p : List D × List D => D.tup [.lam 301, .lam 300, .lst p.1, .lst p.2]) (fun _ => D.bl true) (by rw [evS_seq, q_own _ rfl, ← hfr]; rfl) (hL' _ (by simp)) (fun p hp => by
      refine ⟨[some s, some (fI cs), some (.fz (.int m)), some (.own as), some (.own fr), some (.fz (.lst p.1)), some (.fz (.lst p.2)), some (.fz (.lam 301)), some (.fz (.lam 300))], rfl, ?_⟩
      have hf : F48 [.fz (.lam 301), .fz (.lam 300), .fz (.lst p.1), .fz (.lst p.2)] = some (.val (.bl true)) := by
        simp only [List.mem_cons, List.not_mem_nil, or_false] at hp
        rcases hp with rfl | rfl
        · exact r1
        · exact r2
      rw [q_call [.fz (.lam 301), .fz (.lam 300), .fz (.lst p.1), .fz (.lst p.2)] F48 _ (q_A (.val (.lam 301)) (q_slot _ rfl) (q_A (.val (.lam 300)) (q_slot _ rfl) (q_A (.val (.lst p.1)) (q_slot _ rfl) (q_A (.val (.lst p.2)) (q_slot _ rfl) (evA0 _ _))))) g48 hf rfl]
      rfl)
  exact q_ret (q_rv _ (q_bi1 _ _ ef (all_ok _)))
theorem law_true (ns : List Int) (hl : ns.length ≤ 63) (hb : ∀ z ∈ ns, PySem.Builtin.Int.intBits z ≤ 1048576) : f40 [.fz (.lst (ns.map D.int))] = some (.val (.bl true)) ∧ f40 [.vw (ns.map D.int)] = some (.val (.bl true)) :=
  ⟨law_of ns hl _ (.inl rfl), law_of ns hl _ (.inr rfl)⟩
end K10
namespace K10
open PySem PySem.Spec PyProof.Rows L2 Mc
theorem init1 {P : Program} {w : World} {K : PySem.W.Frag} {mg : Str → Option Value} {base : Heap} {f C : Addr} {fd : FuncData} (F : Fun K "__init__" "Apart.__init__" stI1 f fd) (T : ClsK K C ["share"]) : FnOk P w K mg base CX0 1 f fd ["self", "share"] (spInit C ["share"]) := by
  refine F.ok scI1 (fun vs H Q E h => ?_) (fun cdv A outer s H vs Q E hr h => ?_)
  · obtain ⟨x, dx, ws, e, _, l, _⟩ := h; rw [e]; simpa using l
  · obtain ⟨x, dx, ws, e, hx, l, k⟩ := h
    obtain ⟨w1, rfl⟩ : ∃ w1, ws = [w1] := by (match ws, l with | [w1], _ => exact ⟨w1, rfl⟩)
    subst e
    refine ⟨_, pss_one (ps_fld (pv 0) (pv 1) rfl), ?_⟩
    exact ⟨w1, rfl, .ref x, rfl, x, C, dx, [], rfl, hx, T.cl, T.no _ (by decide), (by show 0 < 1000; decide), k⟩
theorem init2 {P : Program} {w : World} {K : PySem.W.Frag} {mg : Str → Option Value} {base : Heap} {f C : Addr} {fd : FuncData} (F : Fun K "__init__" "Within.__init__" stI2 f fd) (T : ClsK K C ["one", "other"]) : FnOk P w K mg base CX0 1 f fd ["self", "one", "other"] (spInit C ["one", "other"]) := by
  refine F.ok scI2 (fun vs H Q E h => ?_) (fun cdv A outer s H vs Q E hr h => ?_)
  · obtain ⟨x, dx, ws, e, _, l, _⟩ := h; rw [e]; simpa using l
  · obtain ⟨x, dx, ws, e, hx, l, k⟩ := h
    obtain ⟨w1, w2, rfl⟩ : ∃ w1 w2, ws = [w1, w2] := by (match ws, l with | [w1, w2], _ => exact ⟨w1, w2, rfl⟩)
    subst e
    refine ⟨_, pss_cons (ps_fld (pv 0) (pv 1) rfl) (pss_one (ps_fld (pv 0) (pv 2) rfl)), ?_⟩
    refine ⟨w1, rfl, .ref x, rfl, x, C, dx, [], rfl, hx, T.cl, T.no _ (by decide), (by show 0 < 1000; decide), w2, rfl, .ref x, rfl, x, C, dx, _, rfl, upd_same, T.cl, T.no _ (by decide), (by show 1 < 1000; decide), ?_⟩
    show Q .non (upd (upd H x _) x _)
    rw [upd_upd]
    exact k
theorem lb300 {params : Arguments} {body : Expr} {scope : Scope} {qq : Str} (h : okArgs ["_law_found", "_law_it"] params = true) : ∀ (us : List Value) (pm cv ctv : Value), us.length = 2 → bindArgs (PySem.W.kla_fn "<lambda>" qq params body scope [] pm cv ctv) ⟨us, []⟩ = pure ((["_law_found", "_law_it"] : List Str).zip us) := by
  obtain ⟨an, pos, an', pos', rfl⟩ := okArgs2 h
  intro us _ _ _ hl; match us, hl with | [_, _], _ => rfl
theorem lk300 {params : Arguments} {body : Expr} {scope : Scope} (h : gi.lamk 300 params body scope = true) : okArgs ["_law_found", "_law_it"] params = true ∧ fnScB ["_law_found", "_law_it"] ["_law_found", "_law_it"] scope = true ∧ okE gi0 ⟨["_law_found", "_law_it"], scope, scope, false⟩ eL300 body = true := by
  have h : lamC gi0 ["_law_found", "_law_it"] ["_law_found", "_law_it"] eL300 params body scope = true := h
  unfold lamC at h
  simp only [Bool.and_eq_true] at h
  exact ⟨h.1.1, h.1.2, h.2⟩
theorem lb301 {params : Arguments} {body : Expr} {scope : Scope} {qq : Str} (h : okArgs ["_law_it"] params = true) : ∀ (us : List Value) (pm cv ctv : Value), us.length = 1 → bindArgs (PySem.W.kla_fn "<lambda>" qq params body scope [] pm cv ctv) ⟨us, []⟩ = pure ((["_law_it"] : List Str).zip us) := by
  obtain ⟨an, pos, rfl⟩ := okArgs1 h
  intro us _ _ _ hl; match us, hl with | [_], _ => rfl
theorem lk301 {params : Arguments} {body : Expr} {scope : Scope} (h : gi.lamk 301 params body scope = true) : okArgs ["_law_it"] params = true ∧ fnScB ["_law_it"] ["_law_it"] scope = true ∧ okE gi0 ⟨["_law_it"], scope, scope, false⟩ eL301 body = true := by
  have h : lamC gi0 ["_law_it"] ["_law_it"] eL301 params body scope = true := h
  unfold lamC at h
  simp only [Bool.and_eq_true] at h
  exact ⟨h.1.1, h.1.2, h.2⟩
theorem lb302 {params : Arguments} {body : Expr} {scope : Scope} {qq : Str} (h : okArgs ["_law_it"] params = true) : ∀ (us : List Value) (pm cv ctv : Value), us.length = 1 → bindArgs (PySem.W.kla_fn "<lambda>" qq params body scope [] pm cv ctv) ⟨us, []⟩ = pure ((["_law_it"] : List Str).zip us) := by
  obtain ⟨an, pos, rfl⟩ := okArgs1 h
  intro us _ _ _ hl; match us, hl with | [_], _ => rfl
theorem lk302 {params : Arguments} {body : Expr} {scope : Scope} (h : gi.lamk 302 params body scope = true) : okArgs ["_law_it"] params = true ∧ fnScB ["_law_it"] ["_law_it"] scope = true ∧ okE gi0 ⟨["_law_it"], scope, scope, false⟩ eL302 body = true := by
  have h : lamC gi0 ["_law_it"] ["_law_it"] eL302 params body scope = true := h
  unfold lamC at h
  simp only [Bool.and_eq_true] at h
  exact ⟨h.1.1, h.1.2, h.2⟩
theorem lb303 {params : Arguments} {body : Expr} {scope : Scope} {qq : Str} (h : okArgs ["_law_it"] params = true) : ∀ (us : List Value) (pm cv ctv : Value), us.length = 1 → bindArgs (PySem.W.kla_fn "<lambda>" qq params body scope [] pm cv ctv) ⟨us, []⟩ = pure ((["_law_it"] : List Str).zip us) := by
  obtain ⟨an, pos, rfl⟩ := okArgs1 h
  intro us _ _ _ hl; match us, hl with | [_], _ => rfl
theorem lk303 {params : Arguments} {body : Expr} {scope : Scope} (h : gi.lamk 303 params body scope = true) : okArgs ["_law_it"] params = true ∧ fnScB ["_law_it"] ["_law_it"] scope = true ∧ okE gi0 ⟨["_law_it"], scope, scope, false⟩ eL303 body = true := by
  have h : lamC gi0 ["_law_it"] ["_law_it"] eL303 params body scope = true := h
  unfold lamC at h
  simp only [Bool.and_eq_true] at h
  exact ⟨h.1.1, h.1.2, h.2⟩
theorem lb304 {params : Arguments} {body : Expr} {scope : Scope} {qq : Str} (h : okArgs ["_law_it"] params = true) : ∀ (us : List Value) (pm cv ctv : Value), us.length = 1 → bindArgs (PySem.W.kla_fn "<lambda>" qq params body scope [] pm cv ctv) ⟨us, []⟩ = pure ((["_law_it"] : List Str).zip us) := by
  obtain ⟨an, pos, rfl⟩ := okArgs1 h
  intro us _ _ _ hl; match us, hl with | [_], _ => rfl
theorem lk304 {params : Arguments} {body : Expr} {scope : Scope} (h : gi.lamk 304 params body scope = true) : okArgs ["_law_it"] params = true ∧ fnScB ["_law_it"] ["_law_it"] scope = true ∧ okE gi0 ⟨["_law_it"], scope, scope, false⟩ eL304 body = true := by
  have h : lamC gi0 ["_law_it"] ["_law_it"] eL304 params body scope = true := h
  unfold lamC at h
  simp only [Bool.and_eq_true] at h
  exact ⟨h.1.1, h.1.2, h.2⟩
theorem lb305 {params : Arguments} {body : Expr} {scope : Scope} {qq : Str} (h : okArgs ["_law_it"] params = true) : ∀ (us : List Value) (pm cv ctv : Value), us.length = 1 → bindArgs (PySem.W.kla_fn "<lambda>" qq params body scope [] pm cv ctv) ⟨us, []⟩ = pure ((["_law_it"] : List Str).zip us) := by
  obtain ⟨an, pos, rfl⟩ := okArgs1 h
  intro us _ _ _ hl; match us, hl with | [_], _ => rfl
theorem lk305 {params : Arguments} {body : Expr} {scope : Scope} (h : gi.lamk 305 params body scope = true) : okArgs ["_law_it"] params = true ∧ fnScB ["_law_it"] ["_law_it"] scope = true ∧ okE gi0 ⟨["_law_it"], scope, scope, false⟩ eL305 body = true := by
  have h : lamC gi0 ["_law_it"] ["_law_it"] eL305 params body scope = true := h
  unfold lamC at h
  simp only [Bool.and_eq_true] at h
  exact ⟨h.1.1, h.1.2, h.2⟩
set_option maxHeartbeats 0 in
theorem all_mk {l : PySem.W.OpenLaw} {w : World} {K : PySem.W.Frag} {h : Heap} {mg : Str → Option Value} {fa : Addr} (X : K.In h) (G : h.Ns mainGlobals mg) (hfa : mg "law" = some (.ref fa))
    {C0 C1 C2 : Addr}
    (aC0 : PySem.W.nsIn K mainGlobals "Answer" = some (some (.ref C0)))
    (aC1 : PySem.W.nsIn K mainGlobals "Apart" = some (some (.ref C1)))
    (aC2 : PySem.W.nsIn K mainGlobals "Within" = some (some (.ref C2)))
    {qI1 : Addr} {odI1 anI1 : Option Addr} {slI1 : Array (Option Value)} {ocI1 kVI1 dcI1 pmI1 cdI1 ctI1 : Value}
    (aI1 : PySem.W.findIn K (.ref C1) "__init__" = some (some (.ref qI1))) (iI1 : PySem.W.isFn K (.ref qI1) = true) (lI1 : K.lookup qI1 = some ⟨ocI1, odI1, .func (PySem.W.fnOf "__init__" "Apart.__init__" (defArgs stI1) (defBody stI1) (defScope stI1) .none kVI1 dcI1 pmI1 anI1 cdI1 ctI1), slI1⟩) (cI1 : PySem.W.codeIn K cdI1 "Apart.__init__" = true) (kI1 : PySem.W.keepIn K (.ref qI1) = true) (mk1 : PySem.W.makesIn K C1 = true) (kc1 : PySem.W.keepIn K (.ref C1) = true)
    {qI2 : Addr} {odI2 anI2 : Option Addr} {slI2 : Array (Option Value)} {ocI2 kVI2 dcI2 pmI2 cdI2 ctI2 : Value}
    (aI2 : PySem.W.findIn K (.ref C2) "__init__" = some (some (.ref qI2))) (iI2 : PySem.W.isFn K (.ref qI2) = true) (lI2 : K.lookup qI2 = some ⟨ocI2, odI2, .func (PySem.W.fnOf "__init__" "Within.__init__" (defArgs stI2) (defBody stI2) (defScope stI2) .none kVI2 dcI2 pmI2 anI2 cdI2 ctI2), slI2⟩) (cI2 : PySem.W.codeIn K cdI2 "Within.__init__" = true) (kI2 : PySem.W.keepIn K (.ref qI2) = true) (mk2 : PySem.W.makesIn K C2 = true) (kc2 : PySem.W.keepIn K (.ref C2) = true)
    {E0 E1 E2 E3 ES : Addr}
    (aES : PySem.W.nsIn K mainGlobals "SetError" = some (some (.ref ES))) (bES : PySem.W.subIn K (.ref ES) (.type "BaseException") = some true) (iES : PySem.W.isClsIn K ES = true) (tES : PySem.W.typeIn K (.ref ES) = some (.type "type"))
    (aE0 : PySem.W.nsIn K mainGlobals "BadSet" = some (some (.ref E0))) (xE0 : PySem.W.excIn K E0 [.type "ValueError", .type "Exception", .type "BaseException", .type "object"] "ValueError.__new__" = true) (kE0 : PySem.W.keepIn K (.ref E0) = true)
    (bE0 : PySem.W.subIn K (.ref E0) (.type "BaseException") = some true) (tE0 : PySem.W.typeIn K (.ref E0) = some (.type "type")) (gE0 : PySem.W.findIn K (.ref E0) "__getattribute__" = some (some (.builtin "BaseException.__getattribute__"))) (nE0 : PySem.W.findIn K (.ref E0) "__getattr__" = some none)
    (dE0 : PySem.W.hasDictIn K E0 = true) (cE0 : PySem.W.findIn K (.ref E0) "__class__" = some (some (.builtin "object.__class__"))) (mE0 : PySem.W.mroIn K E0 (.type "object") = some true) (sE0 : PySem.W.subIn K (.ref E0) (.ref ES) = some true)
    (aE1 : PySem.W.nsIn K mainGlobals "BadLength" = some (some (.ref E1))) (xE1 : PySem.W.excIn K E1 [.type "ValueError", .type "Exception", .type "BaseException", .type "object"] "ValueError.__new__" = true) (kE1 : PySem.W.keepIn K (.ref E1) = true)
    (bE1 : PySem.W.subIn K (.ref E1) (.type "BaseException") = some true) (tE1 : PySem.W.typeIn K (.ref E1) = some (.type "type")) (gE1 : PySem.W.findIn K (.ref E1) "__getattribute__" = some (some (.builtin "BaseException.__getattribute__"))) (nE1 : PySem.W.findIn K (.ref E1) "__getattr__" = some none)
    (dE1 : PySem.W.hasDictIn K E1 = true) (cE1 : PySem.W.findIn K (.ref E1) "__class__" = some (some (.builtin "object.__class__"))) (mE1 : PySem.W.mroIn K E1 (.type "object") = some true) (sE1 : PySem.W.subIn K (.ref E1) (.ref ES) = some true)
    (aE2 : PySem.W.nsIn K mainGlobals "BadNumber" = some (some (.ref E2))) (xE2 : PySem.W.excIn K E2 [.type "ValueError", .type "Exception", .type "BaseException", .type "object"] "ValueError.__new__" = true) (kE2 : PySem.W.keepIn K (.ref E2) = true)
    (bE2 : PySem.W.subIn K (.ref E2) (.type "BaseException") = some true) (tE2 : PySem.W.typeIn K (.ref E2) = some (.type "type")) (gE2 : PySem.W.findIn K (.ref E2) "__getattribute__" = some (some (.builtin "BaseException.__getattribute__"))) (nE2 : PySem.W.findIn K (.ref E2) "__getattr__" = some none)
    (dE2 : PySem.W.hasDictIn K E2 = true) (cE2 : PySem.W.findIn K (.ref E2) "__class__" = some (some (.builtin "object.__class__"))) (mE2 : PySem.W.mroIn K E2 (.type "object") = some true) (sE2 : PySem.W.subIn K (.ref E2) (.ref ES) = some true)
    (aE3 : PySem.W.nsIn K mainGlobals "BadFamily" = some (some (.ref E3))) (xE3 : PySem.W.excIn K E3 [.type "ValueError", .type "Exception", .type "BaseException", .type "object"] "ValueError.__new__" = true) (kE3 : PySem.W.keepIn K (.ref E3) = true)
    (bE3 : PySem.W.subIn K (.ref E3) (.type "BaseException") = some true) (tE3 : PySem.W.typeIn K (.ref E3) = some (.type "type")) (gE3 : PySem.W.findIn K (.ref E3) "__getattribute__" = some (some (.builtin "BaseException.__getattribute__"))) (nE3 : PySem.W.findIn K (.ref E3) "__getattr__" = some none)
    (dE3 : PySem.W.hasDictIn K E3 = true) (cE3 : PySem.W.findIn K (.ref E3) "__class__" = some (some (.builtin "object.__class__"))) (mE3 : PySem.W.mroIn K E3 (.type "object") = some true) (sE3 : PySem.W.subIn K (.ref E3) (.ref ES) = some true)
    (isE0_0 : PySem.W.kitOne K (.ref E0) (.ref E0) = some true)
    (isE0_1 : PySem.W.kitOne K (.ref E0) (.ref E1) = some false)
    (isE0_2 : PySem.W.kitOne K (.ref E0) (.ref E2) = some false)
    (isE0_3 : PySem.W.kitOne K (.ref E0) (.ref E3) = some false)
    (isV0 : PySem.W.kitOne K (.ref E0) (.type "ValueError") = some true)
    (isE1_0 : PySem.W.kitOne K (.ref E1) (.ref E0) = some false)
    (isE1_1 : PySem.W.kitOne K (.ref E1) (.ref E1) = some true)
    (isE1_2 : PySem.W.kitOne K (.ref E1) (.ref E2) = some false)
    (isE1_3 : PySem.W.kitOne K (.ref E1) (.ref E3) = some false)
    (isV1 : PySem.W.kitOne K (.ref E1) (.type "ValueError") = some true)
    (isE2_0 : PySem.W.kitOne K (.ref E2) (.ref E0) = some false)
    (isE2_1 : PySem.W.kitOne K (.ref E2) (.ref E1) = some false)
    (isE2_2 : PySem.W.kitOne K (.ref E2) (.ref E2) = some true)
    (isE2_3 : PySem.W.kitOne K (.ref E2) (.ref E3) = some false)
    (isV2 : PySem.W.kitOne K (.ref E2) (.type "ValueError") = some true)
    (isE3_0 : PySem.W.kitOne K (.ref E3) (.ref E0) = some false)
    (isE3_1 : PySem.W.kitOne K (.ref E3) (.ref E1) = some false)
    (isE3_2 : PySem.W.kitOne K (.ref E3) (.ref E2) = some false)
    (isE3_3 : PySem.W.kitOne K (.ref E3) (.ref E3) = some true)
    (isV3 : PySem.W.kitOne K (.ref E3) (.type "ValueError") = some true)
    (zV : PySem.W.nsIn K mainGlobals "ValueError" = some none)
    {q0 : Addr} {od0 an0 : Option Addr} {sl0 : Array (Option Value)} {oc0 kV0 dc0 pm0 cd0 ct0 : Value}
    (a0 : PySem.W.nsIn K mainGlobals "is_number" = some (some (.ref q0))) (l0 : K.lookup q0 = some ⟨oc0, od0, .func (PySem.W.fnOf "is_number" "is_number" (defArgs st0) (defBody st0) (defScope st0) .none kV0 dc0 pm0 an0 cd0 ct0), sl0⟩) (c0 : PySem.W.codeIn K cd0 "is_number" = true) (k0 : PySem.W.keepIn K (.ref q0) = true)
    {q1 : Addr} {od1 an1 : Option Addr} {sl1 : Array (Option Value)} {oc1 kV1 dc1 pm1 cd1 ct1 : Value}
    (a1 : PySem.W.nsIn K mainGlobals "is_set" = some (some (.ref q1))) (l1 : K.lookup q1 = some ⟨oc1, od1, .func (PySem.W.fnOf "is_set" "is_set" (defArgs st1) (defBody st1) (defScope st1) .none kV1 dc1 pm1 an1 cd1 ct1), sl1⟩) (c1 : PySem.W.codeIn K cd1 "is_set" = true) (k1 : PySem.W.keepIn K (.ref q1) = true)
    {q2 : Addr} {od2 an2 : Option Addr} {sl2 : Array (Option Value)} {oc2 kV2 dc2 pm2 cd2 ct2 : Value}
    (a2 : PySem.W.nsIn K mainGlobals "check_set" = some (some (.ref q2))) (l2 : K.lookup q2 = some ⟨oc2, od2, .func (PySem.W.fnOf "check_set" "check_set" (defArgs st2) (defBody st2) (defScope st2) .none kV2 dc2 pm2 an2 cd2 ct2), sl2⟩) (c2 : PySem.W.codeIn K cd2 "check_set" = true) (k2 : PySem.W.keepIn K (.ref q2) = true)
    {q3 : Addr} {od3 an3 : Option Addr} {sl3 : Array (Option Value)} {oc3 kV3 dc3 pm3 cd3 ct3 : Value}
    (a3 : PySem.W.nsIn K mainGlobals "check_length" = some (some (.ref q3))) (l3 : K.lookup q3 = some ⟨oc3, od3, .func (PySem.W.fnOf "check_length" "check_length" (defArgs st3) (defBody st3) (defScope st3) .none kV3 dc3 pm3 an3 cd3 ct3), sl3⟩) (c3 : PySem.W.codeIn K cd3 "check_length" = true) (k3 : PySem.W.keepIn K (.ref q3) = true)
    {q4 : Addr} {od4 an4 : Option Addr} {sl4 : Array (Option Value)} {oc4 kV4 dc4 pm4 cd4 ct4 : Value}
    (a4 : PySem.W.nsIn K mainGlobals "marks_of" = some (some (.ref q4))) (l4 : K.lookup q4 = some ⟨oc4, od4, .func (PySem.W.fnOf "marks_of" "marks_of" (defArgs st4) (defBody st4) (defScope st4) .none kV4 dc4 pm4 an4 cd4 ct4), sl4⟩) (c4 : PySem.W.codeIn K cd4 "marks_of" = true) (k4 : PySem.W.keepIn K (.ref q4) = true)
    {q5 : Addr} {od5 an5 : Option Addr} {sl5 : Array (Option Value)} {oc5 kV5 dc5 pm5 cd5 ct5 : Value}
    (a5 : PySem.W.nsIn K mainGlobals "holds" = some (some (.ref q5))) (l5 : K.lookup q5 = some ⟨oc5, od5, .func (PySem.W.fnOf "holds" "holds" (defArgs st5) (defBody st5) (defScope st5) .none kV5 dc5 pm5 an5 cd5 ct5), sl5⟩) (c5 : PySem.W.codeIn K cd5 "holds" = true) (k5 : PySem.W.keepIn K (.ref q5) = true)
    {q6 : Addr} {od6 an6 : Option Addr} {sl6 : Array (Option Value)} {oc6 kV6 dc6 pm6 cd6 ct6 : Value}
    (a6 : PySem.W.nsIn K mainGlobals "picks" = some (some (.ref q6))) (l6 : K.lookup q6 = some ⟨oc6, od6, .func (PySem.W.fnOf "picks" "picks" (defArgs st6) (defBody st6) (defScope st6) .none kV6 dc6 pm6 an6 cd6 ct6), sl6⟩) (c6 : PySem.W.codeIn K cd6 "picks" = true) (k6 : PySem.W.keepIn K (.ref q6) = true)
    {q7 : Addr} {od7 an7 : Option Addr} {sl7 : Array (Option Value)} {oc7 kV7 dc7 pm7 cd7 ct7 : Value}
    (a7 : PySem.W.nsIn K mainGlobals "lowest" = some (some (.ref q7))) (l7 : K.lookup q7 = some ⟨oc7, od7, .func (PySem.W.fnOf "lowest" "lowest" (defArgs st7) (defBody st7) (defScope st7) .none kV7 dc7 pm7 an7 cd7 ct7), sl7⟩) (c7 : PySem.W.codeIn K cd7 "lowest" = true) (k7 : PySem.W.keepIn K (.ref q7) = true)
    {q8 : Addr} {od8 an8 : Option Addr} {sl8 : Array (Option Value)} {oc8 kV8 dc8 pm8 cd8 ct8 : Value}
    (a8 : PySem.W.nsIn K mainGlobals "share_of" = some (some (.ref q8))) (l8 : K.lookup q8 = some ⟨oc8, od8, .func (PySem.W.fnOf "share_of" "share_of" (defArgs st8) (defBody st8) (defScope st8) .none kV8 dc8 pm8 an8 cd8 ct8), sl8⟩) (c8 : PySem.W.codeIn K cd8 "share_of" = true) (k8 : PySem.W.keepIn K (.ref q8) = true)
    {q9 : Addr} {od9 an9 : Option Addr} {sl9 : Array (Option Value)} {oc9 kV9 dc9 pm9 cd9 ct9 : Value}
    (a9 : PySem.W.nsIn K mainGlobals "first_within" = some (some (.ref q9))) (l9 : K.lookup q9 = some ⟨oc9, od9, .func (PySem.W.fnOf "first_within" "first_within" (defArgs st9) (defBody st9) (defScope st9) .none kV9 dc9 pm9 an9 cd9 ct9), sl9⟩) (c9 : PySem.W.codeIn K cd9 "first_within" = true) (k9 : PySem.W.keepIn K (.ref q9) = true)
    {q10 : Addr} {od10 an10 : Option Addr} {sl10 : Array (Option Value)} {oc10 kV10 dc10 pm10 cd10 ct10 : Value}
    (a10 : PySem.W.findIn K (.ref C1) "shows" = some (some (.ref q10))) (i10 : PySem.W.isFn K (.ref q10) = true) (l10 : K.lookup q10 = some ⟨oc10, od10, .func (PySem.W.fnOf "shows" "Apart.shows" (defArgs st10) (defBody st10) (defScope st10) .none kV10 dc10 pm10 an10 cd10 ct10), sl10⟩) (c10 : PySem.W.codeIn K cd10 "Apart.shows" = true) (k10 : PySem.W.keepIn K (.ref q10) = true)
    {q11 : Addr} {od11 an11 : Option Addr} {sl11 : Array (Option Value)} {oc11 kV11 dc11 pm11 cd11 ct11 : Value}
    (a11 : PySem.W.findIn K (.ref C2) "shows" = some (some (.ref q11))) (i11 : PySem.W.isFn K (.ref q11) = true) (l11 : K.lookup q11 = some ⟨oc11, od11, .func (PySem.W.fnOf "shows" "Within.shows" (defArgs st11) (defBody st11) (defScope st11) .none kV11 dc11 pm11 an11 cd11 ct11), sl11⟩) (c11 : PySem.W.codeIn K cd11 "Within.shows" = true) (k11 : PySem.W.keepIn K (.ref q11) = true)
    {q12 : Addr} {od12 an12 : Option Addr} {sl12 : Array (Option Value)} {oc12 kV12 dc12 pm12 cd12 ct12 : Value}
    (a12 : PySem.W.nsIn K mainGlobals "check_family" = some (some (.ref q12))) (l12 : K.lookup q12 = some ⟨oc12, od12, .func (PySem.W.fnOf "check_family" "check_family" (defArgs st12) (defBody st12) (defScope st12) .none kV12 dc12 pm12 an12 cd12 ct12), sl12⟩) (c12 : PySem.W.codeIn K cd12 "check_family" = true) (k12 : PySem.W.keepIn K (.ref q12) = true)
    {q13 : Addr} {od13 an13 : Option Addr} {sl13 : Array (Option Value)} {oc13 kV13 dc13 pm13 cd13 ct13 : Value}
    (a13 : PySem.W.nsIn K mainGlobals "apart" = some (some (.ref q13))) (l13 : K.lookup q13 = some ⟨oc13, od13, .func (PySem.W.fnOf "apart" "apart" (defArgs st13) (defBody st13) (defScope st13) .none kV13 dc13 pm13 an13 cd13 ct13), sl13⟩) (c13 : PySem.W.codeIn K cd13 "apart" = true) (k13 : PySem.W.keepIn K (.ref q13) = true)
    {q14 : Addr} {od14 an14 : Option Addr} {sl14 : Array (Option Value)} {oc14 kV14 dc14 pm14 cd14 ct14 : Value}
    (a14 : PySem.W.nsIn K mainGlobals "loose_of" = some (some (.ref q14))) (l14 : K.lookup q14 = some ⟨oc14, od14, .func (PySem.W.fnOf "loose_of" "loose_of" (defArgs st14) (defBody st14) (defScope st14) .none kV14 dc14 pm14 an14 cd14 ct14), sl14⟩) (c14 : PySem.W.codeIn K cd14 "loose_of" = true) (k14 : PySem.W.keepIn K (.ref q14) = true)
    {q15 : Addr} {od15 an15 : Option Addr} {sl15 : Array (Option Value)} {oc15 kV15 dc15 pm15 cd15 ct15 : Value}
    (a15 : PySem.W.nsIn K mainGlobals "with_signs" = some (some (.ref q15))) (l15 : K.lookup q15 = some ⟨oc15, od15, .func (PySem.W.fnOf "with_signs" "with_signs" (defArgs st15) (defBody st15) (defScope st15) .none kV15 dc15 pm15 an15 cd15 ct15), sl15⟩) (c15 : PySem.W.codeIn K cd15 "with_signs" = true) (k15 : PySem.W.keepIn K (.ref q15) = true)
    {q16 : Addr} {od16 an16 : Option Addr} {sl16 : Array (Option Value)} {oc16 kV16 dc16 pm16 cd16 ct16 : Value}
    (a16 : PySem.W.nsIn K mainGlobals "row_of" = some (some (.ref q16))) (l16 : K.lookup q16 = some ⟨oc16, od16, .func (PySem.W.fnOf "row_of" "row_of" (defArgs st16) (defBody st16) (defScope st16) .none kV16 dc16 pm16 an16 cd16 ct16), sl16⟩) (c16 : PySem.W.codeIn K cd16 "row_of" = true) (k16 : PySem.W.keepIn K (.ref q16) = true)
    {q17 : Addr} {od17 an17 : Option Addr} {sl17 : Array (Option Value)} {oc17 kV17 dc17 pm17 cd17 ct17 : Value}
    (a17 : PySem.W.nsIn K mainGlobals "row" = some (some (.ref q17))) (l17 : K.lookup q17 = some ⟨oc17, od17, .func (PySem.W.fnOf "row" "row" (defArgs st17) (defBody st17) (defScope st17) .none kV17 dc17 pm17 an17 cd17 ct17), sl17⟩) (c17 : PySem.W.codeIn K cd17 "row" = true) (k17 : PySem.W.keepIn K (.ref q17) = true)
    {q18 : Addr} {od18 an18 : Option Addr} {sl18 : Array (Option Value)} {oc18 kV18 dc18 pm18 cd18 ct18 : Value}
    (a18 : PySem.W.nsIn K mainGlobals "rests_of" = some (some (.ref q18))) (l18 : K.lookup q18 = some ⟨oc18, od18, .func (PySem.W.fnOf "rests_of" "rests_of" (defArgs st18) (defBody st18) (defScope st18) .none kV18 dc18 pm18 an18 cd18 ct18), sl18⟩) (c18 : PySem.W.codeIn K cd18 "rests_of" = true) (k18 : PySem.W.keepIn K (.ref q18) = true)
    {q19 : Addr} {od19 an19 : Option Addr} {sl19 : Array (Option Value)} {oc19 kV19 dc19 pm19 cd19 ct19 : Value}
    (a19 : PySem.W.nsIn K mainGlobals "rows" = some (some (.ref q19))) (l19 : K.lookup q19 = some ⟨oc19, od19, .func (PySem.W.fnOf "rows" "rows" (defArgs st19) (defBody st19) (defScope st19) .none kV19 dc19 pm19 an19 cd19 ct19), sl19⟩) (c19 : PySem.W.codeIn K cd19 "rows" = true) (k19 : PySem.W.keepIn K (.ref q19) = true)
    {q20 : Addr} {od20 an20 : Option Addr} {sl20 : Array (Option Value)} {oc20 kV20 dc20 pm20 cd20 ct20 : Value}
    (a20 : PySem.W.nsIn K mainGlobals "row_by" = some (some (.ref q20))) (l20 : K.lookup q20 = some ⟨oc20, od20, .func (PySem.W.fnOf "row_by" "row_by" (defArgs st20) (defBody st20) (defScope st20) .none kV20 dc20 pm20 an20 cd20 ct20), sl20⟩) (c20 : PySem.W.codeIn K cd20 "row_by" = true) (k20 : PySem.W.keepIn K (.ref q20) = true)
    {q21 : Addr} {od21 an21 : Option Addr} {sl21 : Array (Option Value)} {oc21 kV21 dc21 pm21 cd21 ct21 : Value}
    (a21 : PySem.W.nsIn K mainGlobals "check_leasts" = some (some (.ref q21))) (l21 : K.lookup q21 = some ⟨oc21, od21, .func (PySem.W.fnOf "check_leasts" "check_leasts" (defArgs st21) (defBody st21) (defScope st21) .none kV21 dc21 pm21 an21 cd21 ct21), sl21⟩) (c21 : PySem.W.codeIn K cd21 "check_leasts" = true) (k21 : PySem.W.keepIn K (.ref q21) = true)
    {q22 : Addr} {od22 an22 : Option Addr} {sl22 : Array (Option Value)} {oc22 kV22 dc22 pm22 cd22 ct22 : Value}
    (a22 : PySem.W.nsIn K mainGlobals "says_yes" = some (some (.ref q22))) (l22 : K.lookup q22 = some ⟨oc22, od22, .func (PySem.W.fnOf "says_yes" "says_yes" (defArgs st22) (defBody st22) (defScope st22) .none kV22 dc22 pm22 an22 cd22 ct22), sl22⟩) (c22 : PySem.W.codeIn K cd22 "says_yes" = true) (k22 : PySem.W.keepIn K (.ref q22) = true)
    {q23 : Addr} {od23 an23 : Option Addr} {sl23 : Array (Option Value)} {oc23 kV23 dc23 pm23 cd23 ct23 : Value}
    (a23 : PySem.W.nsIn K mainGlobals "says" = some (some (.ref q23))) (l23 : K.lookup q23 = some ⟨oc23, od23, .func (PySem.W.fnOf "says" "says" (defArgs st23) (defBody st23) (defScope st23) .none kV23 dc23 pm23 an23 cd23 ct23), sl23⟩) (c23 : PySem.W.codeIn K cd23 "says" = true) (k23 : PySem.W.keepIn K (.ref q23) = true)
    {q24 : Addr} {od24 an24 : Option Addr} {sl24 : Array (Option Value)} {oc24 kV24 dc24 pm24 cd24 ct24 : Value}
    (a24 : PySem.W.nsIn K mainGlobals "is_settled" = some (some (.ref q24))) (l24 : K.lookup q24 = some ⟨oc24, od24, .func (PySem.W.fnOf "is_settled" "is_settled" (defArgs st24) (defBody st24) (defScope st24) .none kV24 dc24 pm24 an24 cd24 ct24), sl24⟩) (c24 : PySem.W.codeIn K cd24 "is_settled" = true) (k24 : PySem.W.keepIn K (.ref q24) = true)
    {q25 : Addr} {od25 an25 : Option Addr} {sl25 : Array (Option Value)} {oc25 kV25 dc25 pm25 cd25 ct25 : Value}
    (a25 : PySem.W.nsIn K mainGlobals "learnt" = some (some (.ref q25))) (l25 : K.lookup q25 = some ⟨oc25, od25, .func (PySem.W.fnOf "learnt" "learnt" (defArgs st25) (defBody st25) (defScope st25) .none kV25 dc25 pm25 an25 cd25 ct25), sl25⟩) (c25 : PySem.W.codeIn K cd25 "learnt" = true) (k25 : PySem.W.keepIn K (.ref q25) = true)
    {q32 : Addr} {od32 an32 : Option Addr} {sl32 : Array (Option Value)} {oc32 kV32 dc32 pm32 cd32 ct32 : Value}
    (a32 : PySem.W.nsIn K mainGlobals "_law_copied" = some (some (.ref q32))) (l32 : K.lookup q32 = some ⟨oc32, od32, .func (PySem.W.fnOf "_law_copied" "_law_copied" (defArgs st32) (defBody st32) (defScope st32) .none kV32 dc32 pm32 an32 cd32 ct32), sl32⟩) (c32 : PySem.W.codeIn K cd32 "_law_copied" = true) (k32 : PySem.W.keepIn K (.ref q32) = true)
    {q33 : Addr} {od33 an33 : Option Addr} {sl33 : Array (Option Value)} {oc33 kV33 dc33 pm33 cd33 ct33 : Value}
    (a33 : PySem.W.nsIn K mainGlobals "_law_copied" = some (some (.ref q33))) (l33 : K.lookup q33 = some ⟨oc33, od33, .func (PySem.W.fnOf "_law_copied" "_law_copied" (defArgs st33) (defBody st33) (defScope st33) .none kV33 dc33 pm33 an33 cd33 ct33), sl33⟩) (c33 : PySem.W.codeIn K cd33 "_law_copied" = true) (k33 : PySem.W.keepIn K (.ref q33) = true)
    {q34 : Addr} {od34 an34 : Option Addr} {sl34 : Array (Option Value)} {oc34 kV34 dc34 pm34 cd34 ct34 : Value}
    (a34 : PySem.W.nsIn K mainGlobals "_law_spoiled" = some (some (.ref q34))) (l34 : K.lookup q34 = some ⟨oc34, od34, .func (PySem.W.fnOf "_law_spoiled" "_law_spoiled" (defArgs st34) (defBody st34) (defScope st34) .none kV34 dc34 pm34 an34 cd34 ct34), sl34⟩) (c34 : PySem.W.codeIn K cd34 "_law_spoiled" = true) (k34 : PySem.W.keepIn K (.ref q34) = true)
    {q35 : Addr} {od35 an35 : Option Addr} {sl35 : Array (Option Value)} {oc35 kV35 dc35 pm35 cd35 ct35 : Value}
    (a35 : PySem.W.nsIn K mainGlobals "_law_laid" = some (some (.ref q35))) (l35 : K.lookup q35 = some ⟨oc35, od35, .func (PySem.W.fnOf "_law_laid" "_law_laid" (defArgs st35) (defBody st35) (defScope st35) .none kV35 dc35 pm35 an35 cd35 ct35), sl35⟩) (c35 : PySem.W.codeIn K cd35 "_law_laid" = true) (k35 : PySem.W.keepIn K (.ref q35) = true)
    {q36 : Addr} {od36 an36 : Option Addr} {sl36 : Array (Option Value)} {oc36 kV36 dc36 pm36 cd36 ct36 : Value}
    (a36 : PySem.W.nsIn K mainGlobals "_law_door_right" = some (some (.ref q36))) (l36 : K.lookup q36 = some ⟨oc36, od36, .func (PySem.W.fnOf "_law_door_right" "_law_door_right" (defArgs st36) (defBody st36) (defScope st36) .none kV36 dc36 pm36 an36 cd36 ct36), sl36⟩) (c36 : PySem.W.codeIn K cd36 "_law_door_right" = true) (k36 : PySem.W.keepIn K (.ref q36) = true)
    {q37 : Addr} {od37 an37 : Option Addr} {sl37 : Array (Option Value)} {oc37 kV37 dc37 pm37 cd37 ct37 : Value}
    (a37 : PySem.W.nsIn K mainGlobals "_law_sets" = some (some (.ref q37))) (l37 : K.lookup q37 = some ⟨oc37, od37, .func (PySem.W.fnOf "_law_sets" "_law_sets" (defArgs st37) (defBody st37) (defScope st37) .none kV37 dc37 pm37 an37 cd37 ct37), sl37⟩) (c37 : PySem.W.codeIn K cd37 "_law_sets" = true) (k37 : PySem.W.keepIn K (.ref q37) = true)
    {q38 : Addr} {od38 an38 : Option Addr} {sl38 : Array (Option Value)} {oc38 kV38 dc38 pm38 cd38 ct38 : Value}
    (a38 : PySem.W.nsIn K mainGlobals "_law_told" = some (some (.ref q38))) (l38 : K.lookup q38 = some ⟨oc38, od38, .func (PySem.W.fnOf "_law_told" "_law_told" (defArgs st38) (defBody st38) (defScope st38) .none kV38 dc38 pm38 an38 cd38 ct38), sl38⟩) (c38 : PySem.W.codeIn K cd38 "_law_told" = true) (k38 : PySem.W.keepIn K (.ref q38) = true)
    {q39 : Addr} {od39 an39 : Option Addr} {sl39 : Array (Option Value)} {oc39 kV39 dc39 pm39 cd39 ct39 : Value}
    (a39 : PySem.W.nsIn K mainGlobals "_law_free_right" = some (some (.ref q39))) (l39 : K.lookup q39 = some ⟨oc39, od39, .func (PySem.W.fnOf "_law_free_right" "_law_free_right" (defArgs st39) (defBody st39) (defScope st39) .none kV39 dc39 pm39 an39 cd39 ct39), sl39⟩) (c39 : PySem.W.codeIn K cd39 "_law_free_right" = true) (k39 : PySem.W.keepIn K (.ref q39) = true)
    {q40 : Addr} {od40 an40 : Option Addr} {sl40 : Array (Option Value)} {oc40 kV40 dc40 pm40 cd40 ct40 : Value}
    (a40 : PySem.W.nsIn K mainGlobals "law" = some (some (.ref q40))) (l40 : K.lookup q40 = some ⟨oc40, od40, .func (PySem.W.fnOf "law" "law" (defArgs st40) (defBody st40) (defScope st40) .none kV40 dc40 pm40 an40 cd40 ct40), sl40⟩) (c40 : PySem.W.codeIn K cd40 "law" = true) (k40 : PySem.W.keepIn K (.ref q40) = true)
    {cc40 PP40 : Addr} (cd40e : cd40 = .ref cc40) (ch40 : PySem.W.CodeHd h cc40 PP40 ∧ h.get? PP40 = some (PySem.W.tabObj #[])) (cn40 : K.lookup PP40 = none)
    (pg0 : PySem.W.plainGet K C0 Str.empty = true) (hd0 : PySem.W.hasDictIn K C0 = true) (po0 : PySem.W.plainOver K C0 = true) (sa0 : PySem.W.findIn K (.ref C0) "__setattr__" = some (some (.builtin "object.__setattr__")))
    (ha0 : PySem.W.findIn K (.ref C0) "__class__" = some (some (.builtin "object.__class__"))) (hm0 : PySem.W.mroIn K C0 (.type "object") = some true)
    (pg1 : PySem.W.plainGet K C1 Str.empty = true) (hd1 : PySem.W.hasDictIn K C1 = true) (po1 : PySem.W.plainOver K C1 = true) (sa1 : PySem.W.findIn K (.ref C1) "__setattr__" = some (some (.builtin "object.__setattr__")))
    (ha1 : PySem.W.findIn K (.ref C1) "__class__" = some (some (.builtin "object.__class__"))) (hm1 : PySem.W.mroIn K C1 (.type "object") = some true)
    (nf1_0 : PySem.W.findIn K (.ref C1) "share" = some none)
    (pg2 : PySem.W.plainGet K C2 Str.empty = true) (hd2 : PySem.W.hasDictIn K C2 = true) (po2 : PySem.W.plainOver K C2 = true) (sa2 : PySem.W.findIn K (.ref C2) "__setattr__" = some (some (.builtin "object.__setattr__")))
    (ha2 : PySem.W.findIn K (.ref C2) "__class__" = some (some (.builtin "object.__class__"))) (hm2 : PySem.W.mroIn K C2 (.type "object") = some true)
    (nf2_0 : PySem.W.findIn K (.ref C2) "one" = some none)
    (nf2_1 : PySem.W.findIn K (.ref C2) "other" = some none)
    (hn : PySem.W.specialIn K (.builtin "object.__class__") "__get__" = some (some (.builtin "getset_descriptor.__get__"))) (htk : PySem.W.takesIn K (.builtin "object.__class__") = some true)
    (is0_0 : PySem.W.kitOne K (.ref C0) (.ref C0) = some true)
    (is1_0 : PySem.W.kitOne K (.ref C1) (.ref C0) = some true)
    (is2_0 : PySem.W.kitOne K (.ref C2) (.ref C0) = some true)
    (is0_1 : PySem.W.kitOne K (.ref C0) (.ref C1) = some false)
    (is1_1 : PySem.W.kitOne K (.ref C1) (.ref C1) = some true)
    (is2_1 : PySem.W.kitOne K (.ref C2) (.ref C1) = some false)
    (is0_2 : PySem.W.kitOne K (.ref C0) (.ref C2) = some false)
    (is1_2 : PySem.W.kitOne K (.ref C1) (.ref C2) = some false)
    (is2_2 : PySem.W.kitOne K (.ref C2) (.ref C2) = some true)
    (z0 : PySem.W.nsIn K mainGlobals "len" = some none)
    (z1 : PySem.W.nsIn K mainGlobals "all" = some none)
    (z2 : PySem.W.nsIn K mainGlobals "any" = some none)
    (z3 : PySem.W.nsIn K mainGlobals "sum" = some none)
    (z4 : PySem.W.nsIn K mainGlobals "abs" = some none)
    (z5 : PySem.W.nsIn K mainGlobals "min" = some none)
    (z6 : PySem.W.nsIn K mainGlobals "list" = some none)
    (z7 : PySem.W.nsIn K mainGlobals "sorted" = some none)
    (z8 : PySem.W.nsIn K mainGlobals "range" = some none)
    (z9 : PySem.W.nsIn K mainGlobals "enumerate" = some none)
    (z10 : PySem.W.nsIn K mainGlobals "zip" = some none)
    (z11 : PySem.W.nsIn K mainGlobals "isinstance" = some none)
    (z12 : PySem.W.nsIn K mainGlobals "int" = some none)
    (z13 : PySem.W.nsIn K mainGlobals "bool" = some none)
    (z14 : PySem.W.nsIn K mainGlobals "str" = some none)
    (z15 : PySem.W.nsIn K mainGlobals "tuple" = some none)
    (z16 : PySem.W.nsIn K mainGlobals "set" = some none)
    {tk0 : Tok} (y0 : PySem.W.nsIn K mainGlobals "LONGEST" = some (some (.int 200 tk0)))
    {tk1 : Tok} (y1 : PySem.W.nsIn K mainGlobals "LONGEST_LEARNT" = some (some (.int 8 tk1)))
    : LamX.LawAtS l w K CX0 43 63 "_law_script" mg fa h := by
  have e := hfa.symm.trans (PySem.W.mg_of X G a40)
  cases e
  have FI1 := fun_mk (st := stI1) lI1 cI1 kI1
  have bI1 := FI1.binds (ps := ["self", "share"]) fun _ _ _ _ _ _ us hl => match us, hl with | [_, _], _ => rfl
  have FI2 := fun_mk (st := stI2) lI2 cI2 kI2
  have bI2 := FI2.binds (ps := ["self", "one", "other"]) fun _ _ _ _ _ _ us hl => match us, hl with | [_, _, _], _ => rfl
  have F0 := fun_mk (st := st0) l0 c0 k0
  have b0 := F0.binds (ps := ["thing", "least", "most"]) fun _ _ _ _ _ _ us hl => match us, hl with | [_, _, _], _ => rfl
  have F1 := fun_mk (st := st1) l1 c1 k1
  have b1 := F1.binds (ps := ["thing"]) fun _ _ _ _ _ _ us hl => match us, hl with | [_], _ => rfl
  have F2 := fun_mk (st := st2) l2 c2 k2
  have b2 := F2.binds (ps := ["some"]) fun _ _ _ _ _ _ us hl => match us, hl with | [_], _ => rfl
  have F3 := fun_mk (st := st3) l3 c3 k3
  have b3 := F3.binds (ps := ["length"]) fun _ _ _ _ _ _ us hl => match us, hl with | [_], _ => rfl
  have F4 := fun_mk (st := st4) l4 c4 k4
  have b4 := F4.binds (ps := ["some"]) fun _ _ _ _ _ _ us hl => match us, hl with | [_], _ => rfl
  have F5 := fun_mk (st := st5) l5 c5 k5
  have b5 := F5.binds (ps := ["one", "other"]) fun _ _ _ _ _ _ us hl => match us, hl with | [_, _], _ => rfl
  have F6 := fun_mk (st := st6) l6 c6 k6
  have b6 := F6.binds (ps := ["length", "size"]) fun _ _ _ _ _ _ us hl => match us, hl with | [_, _], _ => rfl
  have F7 := fun_mk (st := st7) l7 c7 k7
  have b7 := F7.binds (ps := ["above", "below"]) fun _ _ _ _ _ _ us hl => match us, hl with | [_, _], _ => rfl
  have F8 := fun_mk (st := st8) l8 c8 k8
  have b8 := F8.binds (ps := ["family"]) fun _ _ _ _ _ _ us hl => match us, hl with | [_], _ => rfl
  have F9 := fun_mk (st := st9) l9 c9 k9
  have b9 := F9.binds (ps := ["family"]) fun _ _ _ _ _ _ us hl => match us, hl with | [_], _ => rfl
  have F10 := fun_mk (st := st10) l10 c10 k10
  have b10 := F10.binds (ps := ["self", "family"]) fun _ _ _ _ _ _ us hl => match us, hl with | [_, _], _ => rfl
  have F11 := fun_mk (st := st11) l11 c11 k11
  have b11 := F11.binds (ps := ["self", "family"]) fun _ _ _ _ _ _ us hl => match us, hl with | [_, _], _ => rfl
  have F12 := fun_mk (st := st12) l12 c12 k12
  have b12 := F12.binds (ps := ["family"]) fun _ _ _ _ _ _ us hl => match us, hl with | [_], _ => rfl
  have F13 := fun_mk (st := st13) l13 c13 k13
  have b13 := F13.binds (ps := ["family"]) fun _ _ _ _ _ _ us hl => match us, hl with | [_], _ => rfl
  have F14 := fun_mk (st := st14) l14 c14 k14
  have b14 := F14.binds (ps := ["some"]) fun _ _ _ _ _ _ us hl => match us, hl with | [_], _ => rfl
  have F15 := fun_mk (st := st15) l15 c15 k15
  have b15 := F15.binds (ps := ["some", "places", "many"]) fun _ _ _ _ _ _ us hl => match us, hl with | [_, _, _], _ => rfl
  have F16 := fun_mk (st := st16) l16 c16 k16
  have b16 := F16.binds (ps := ["some"]) fun _ _ _ _ _ _ us hl => match us, hl with | [_], _ => rfl
  have F17 := fun_mk (st := st17) l17 c17 k17
  have b17 := F17.binds (ps := ["some"]) fun _ _ _ _ _ _ us hl => match us, hl with | [_], _ => rfl
  have F18 := fun_mk (st := st18) l18 c18 k18
  have b18 := F18.binds (ps := ["length"]) fun _ _ _ _ _ _ us hl => match us, hl with | [_], _ => rfl
  have F19 := fun_mk (st := st19) l19 c19 k19
  have b19 := F19.binds (ps := ["length"]) fun _ _ _ _ _ _ us hl => match us, hl with | [_], _ => rfl
  have F20 := fun_mk (st := st20) l20 c20 k20
  have b20 := F20.binds (ps := ["length", "number"]) fun _ _ _ _ _ _ us hl => match us, hl with | [_, _], _ => rfl
  have F21 := fun_mk (st := st21) l21 c21 k21
  have b21 := F21.binds (ps := ["leasts"]) fun _ _ _ _ _ _ us hl => match us, hl with | [_], _ => rfl
  have F22 := fun_mk (st := st22) l22 c22 k22
  have b22 := F22.binds (ps := ["leasts", "some"]) fun _ _ _ _ _ _ us hl => match us, hl with | [_, _], _ => rfl
  have F23 := fun_mk (st := st23) l23 c23 k23
  have b23 := F23.binds (ps := ["leasts", "some"]) fun _ _ _ _ _ _ us hl => match us, hl with | [_, _], _ => rfl
  have F24 := fun_mk (st := st24) l24 c24 k24
  have b24 := F24.binds (ps := ["yes", "no", "some"]) fun _ _ _ _ _ _ us hl => match us, hl with | [_, _, _], _ => rfl
  have F25 := fun_mk (st := st25) l25 c25 k25
  have b25 := F25.binds (ps := ["length", "leasts"]) fun _ _ _ _ _ _ us hl => match us, hl with | [_, _], _ => rfl
  have F32 := fun_mk (st := st32) l32 c32 k32
  have b32 := F32.binds (ps := ["_law_thing"]) fun _ _ _ _ _ _ us hl => match us, hl with | [_], _ => rfl
  have F33 := fun_mk (st := st33) l33 c33 k33
  have b33 := F33.binds (ps := ["_law_thing"]) fun _ _ _ _ _ _ us hl => match us, hl with | [_], _ => rfl
  have F34 := fun_mk (st := st34) l34 c34 k34
  have b34 := F34.binds (ps := ["_law_thing"]) fun _ _ _ _ _ _ us hl => match us, hl with | [_], _ => rfl
  have F35 := fun_mk (st := st35) l35 c35 k35
  have b35 := F35.binds (ps := ["_law_mine", "_law_other"]) fun _ _ _ _ _ _ us hl => match us, hl with | [_, _], _ => rfl
  have F36 := fun_mk (st := st36) l36 c36 k36
  have b36 := F36.binds (ps := ["_law_ask", "_law_one", "_law_other"]) fun _ _ _ _ _ _ us hl => match us, hl with | [_, _, _], _ => rfl
  have F37 := fun_mk (st := st37) l37 c37 k37
  have b37 := F37.binds (ps := ["_law_cells", "_law_many", "_law_by"]) fun _ _ _ _ _ _ us hl => match us, hl with | [_, _, _], _ => rfl
  have F38 := fun_mk (st := st38) l38 c38 k38
  have b38 := F38.binds (ps := ["_law_found"]) fun _ _ _ _ _ _ us hl => match us, hl with | [_], _ => rfl
  have F39 := fun_mk (st := st39) l39 c39 k39
  have b39 := F39.binds (ps := ["_law_ask", "_law_word", "_law_one", "_law_other"]) fun _ _ _ _ _ _ us hl => match us, hl with | [_, _, _, _], _ => rfl
  have F40 := fun_mk (st := st40) l40 c40 k40
  have b40 := F40.binds (ps := ["_law_script"]) fun _ _ _ _ _ _ us hl => match us, hl with | [_], _ => rfl
  have T0 : ClsK K C0 [] := ⟨⟨pg0, hd0, po0, sa0⟩, fun f hf => by simp only [List.mem_cons, List.not_mem_nil, or_false] at hf, ha0, hn, htk, hm0⟩
  have T1 : ClsK K C1 ["share"] := ⟨⟨pg1, hd1, po1, sa1⟩, fun f hf => by simp only [List.mem_cons, List.not_mem_nil, or_false] at hf; subst hf; exact nf1_0, ha1, hn, htk, hm1⟩
  have T2 : ClsK K C2 ["one", "other"] := ⟨⟨pg2, hd2, po2, sa2⟩, fun f hf => by simp only [List.mem_cons, List.not_mem_nil, or_false] at hf; rcases hf with rfl | rfl; exact nf2_0; exact nf2_1, ha2, hn, htk, hm2⟩
  refine ⟨PySem.W.fnOf "law" "law" (defArgs st40) (defBody st40) (defScope st40) .none kV40 dc40 pm40 an40 cd40 ct40, [(cc40, PP40)], spScriptT ⟨K, fun c => if c = 0 then C0 else if c = 1 then C1 else C2, fun c => if c = 0 then [] else if c = 1 then ["share"] else if c = 2 then ["one", "other"] else [], fun f => 0, fun c => if c = 0 then E0 else if c = 1 then E1 else if c = 2 then E2 else E3, fun j _ params body scope => gi.lamk j params body scope = true, [(PP40, ("law" : Str) ++ ".<locals>." ++ "<lambda>")]⟩ f40, fun p hp => (by simp only [List.mem_cons, List.not_mem_nil, or_false] at hp; subst hp; exact ch40.2), fun p hp => (by simp only [List.mem_cons, List.not_mem_nil, or_false] at hp; subst hp; exact cn40), fun p hp => (by simp only [List.mem_cons, List.not_mem_nil, or_false] at hp; subst hp; exact ch40.1), fun s v => .of_eq rfl, fun H a ns hl hb hH hS => ?_, fun base _ _ hTB => ?_⟩
  · refine ⟨a, ns, rfl, ?_, hS, (law_true ns hl hb).1, (law_true ns hl hb).2, fun _ => rfl⟩
    intro p hp
    simp only [List.mem_cons, List.not_mem_nil, or_false] at hp
    subst hp
    · exact LamX.TabS.nil (hH (cc40, PP40) (by simp))
  have M40 : Mkr ⟨K, fun c => if c = 0 then C0 else if c = 1 then C1 else C2, fun c => if c = 0 then [] else if c = 1 then ["share"] else if c = 2 then ["one", "other"] else [], fun f => 0, fun c => if c = 0 then E0 else if c = 1 then E1 else if c = 2 then E2 else E3, fun j _ params body scope => gi.lamk j params body scope = true, [(PP40, ("law" : Str) ++ ".<locals>." ++ "<lambda>")]⟩ base mg "law" cd40 := by
    refine ⟨cc40, PP40, cd40e, hTB (cc40, PP40) (by simp), by simp, fun p hp e => ?_⟩
    simp only [List.mem_cons, List.not_mem_nil, or_false] at hp
    subst hp; rfl
  have A0 : Around_ ⟨K, fun c => if c = 0 then C0 else if c = 1 then C1 else C2, fun c => if c = 0 then [] else if c = 1 then ["share"] else if c = 2 then ["one", "other"] else [], fun f => 0, fun c => if c = 0 then E0 else if c = 1 then E1 else if c = 2 then E2 else E3, fun j _ params body scope => gi.lamk j params body scope = true, [(PP40, ("law" : Str) ++ ".<locals>." ++ "<lambda>")]⟩ gi G0 l.prog w K mg base 2 := by
    refine ⟨fun x hx => ?_, fun x i hx => ?_, fun f x sem h1 h2 => (by cases h2), fun c x fs h1 => ?_, fun c x fs h1 h2 => ?_, fun c m f sem h1 h2 => (by cases h2), fun c' c b h1 => ?_, fun f x h1 => (by cases h1), fun f x sem h1 h2 => (by cases h2), fun f sem h1 h2 => (by cases h2), fun j qq params body scope h1 => ⟨h1, withL_ok h1⟩⟩
    · simp only [bnames, List.mem_cons, List.not_mem_nil, or_false] at hx
      rcases hx with rfl | rfl | rfl | rfl | rfl | rfl | rfl | rfl | rfl | rfl | rfl | rfl | rfl | rfl | rfl | rfl | rfl
      · exact PySem.W.mg_none_of X G z0
      · exact PySem.W.mg_none_of X G z1
      · exact PySem.W.mg_none_of X G z2
      · exact PySem.W.mg_none_of X G z3
      · exact PySem.W.mg_none_of X G z4
      · exact PySem.W.mg_none_of X G z5
      · exact PySem.W.mg_none_of X G z6
      · exact PySem.W.mg_none_of X G z7
      · exact PySem.W.mg_none_of X G z8
      · exact PySem.W.mg_none_of X G z9
      · exact PySem.W.mg_none_of X G z10
      · exact PySem.W.mg_none_of X G z11
      · exact PySem.W.mg_none_of X G z12
      · exact PySem.W.mg_none_of X G z13
      · exact PySem.W.mg_none_of X G z14
      · exact PySem.W.mg_none_of X G z15
      · exact PySem.W.mg_none_of X G z16
    · have hx : gi0.csts.lookup x = some i := hx
      unfold gi0 at hx
      simp only [List.lookup] at hx
      split at hx
      · rename_i e0; cases hx; rw [eq_of_beq e0]; exact ⟨_, PySem.W.mg_of X G y0⟩
      split at hx
      · rename_i e0; cases hx; rw [eq_of_beq e0]; exact ⟨_, PySem.W.mg_of X G y1⟩
      cases hx
    · match c, h1 with
      | 0, h1 => cases h1; exact ⟨PySem.W.mg_of X G aC0, rfl, T0⟩
      | 1, h1 => cases h1; exact ⟨PySem.W.mg_of X G aC1, rfl, T1⟩
      | 2, h1 => cases h1; exact ⟨PySem.W.mg_of X G aC2, rfl, T2⟩
      | n + 3, h1 => cases h1
    · match c, h1 with
      | 0, h1 => cases h1; exact absurd rfl h2
      | 1, h1 => cases h1; exact ⟨1, _, _, _, by decide, ⟨mk1, aI1, iI1, kc1⟩, bI1, init1 FI1 T1⟩
      | 2, h1 => cases h1; exact ⟨1, _, _, _, by decide, ⟨mk2, aI2, iI2, kc2⟩, bI2, init2 FI2 T2⟩
      | n + 3, h1 => cases h1
    · have hm := mem_lk (show gi0.isa.lookup (c', c) = some b from h1)
      unfold gi0 at hm
      simp only [List.mem_cons, List.not_mem_nil, or_false, Prod.mk.injEq] at hm
      rcases hm with ⟨⟨rfl, rfl⟩, rfl⟩ | ⟨⟨rfl, rfl⟩, rfl⟩ | ⟨⟨rfl, rfl⟩, rfl⟩ | ⟨⟨rfl, rfl⟩, rfl⟩ | ⟨⟨rfl, rfl⟩, rfl⟩ | ⟨⟨rfl, rfl⟩, rfl⟩ | ⟨⟨rfl, rfl⟩, rfl⟩ | ⟨⟨rfl, rfl⟩, rfl⟩ | ⟨⟨rfl, rfl⟩, rfl⟩
      · exact is0_0
      · exact is1_0
      · exact is2_0
      · exact is0_1
      · exact is1_1
      · exact is2_1
      · exact is0_2
      · exact is1_2
      · exact is2_2
  have Y0 := fn_mc rfl F0 sc0 ok0 A0
  have A1 : Around_ ⟨K, fun c => if c = 0 then C0 else if c = 1 then C1 else C2, fun c => if c = 0 then [] else if c = 1 then ["share"] else if c = 2 then ["one", "other"] else [], fun f => 0, fun c => if c = 0 then E0 else if c = 1 then E1 else if c = 2 then E2 else E3, fun j _ params body scope => gi.lamk j params body scope = true, [(PP40, ("law" : Str) ++ ".<locals>." ++ "<lambda>")]⟩ gi G1 l.prog w K mg base 3 := A0.add (n := 9) (sem := f0) rfl (Nat.le_refl _) (PySem.W.mg_of X G a0) k0 b0 Y0
  have Y1 := fn_mc rfl F1 sc1 ok1 A1
  have A2 : Around_ ⟨K, fun c => if c = 0 then C0 else if c = 1 then C1 else C2, fun c => if c = 0 then [] else if c = 1 then ["share"] else if c = 2 then ["one", "other"] else [], fun f => 0, fun c => if c = 0 then E0 else if c = 1 then E1 else if c = 2 then E2 else E3, fun j _ params body scope => gi.lamk j params body scope = true, [(PP40, ("law" : Str) ++ ".<locals>." ++ "<lambda>")]⟩ gi G2 l.prog w K mg base 4 := A1.add (n := 0) (sem := f1) rfl (Nat.le_refl _) (PySem.W.mg_of X G a1) k1 b1 Y1
  have Y2 := fn_mc rfl F2 sc2 ok2 A2
  have A3 : Around_ ⟨K, fun c => if c = 0 then C0 else if c = 1 then C1 else C2, fun c => if c = 0 then [] else if c = 1 then ["share"] else if c = 2 then ["one", "other"] else [], fun f => 0, fun c => if c = 0 then E0 else if c = 1 then E1 else if c = 2 then E2 else E3, fun j _ params body scope => gi.lamk j params body scope = true, [(PP40, ("law" : Str) ++ ".<locals>." ++ "<lambda>")]⟩ gi G3 l.prog w K mg base 5 := A2.add (n := 1) (sem := f2) rfl (Nat.le_refl _) (PySem.W.mg_of X G a2) k2 b2 Y2
  have Y3 := fn_mc rfl F3 sc3 ok3 A3
  have A4 : Around_ ⟨K, fun c => if c = 0 then C0 else if c = 1 then C1 else C2, fun c => if c = 0 then [] else if c = 1 then ["share"] else if c = 2 then ["one", "other"] else [], fun f => 0, fun c => if c = 0 then E0 else if c = 1 then E1 else if c = 2 then E2 else E3, fun j _ params body scope => gi.lamk j params body scope = true, [(PP40, ("law" : Str) ++ ".<locals>." ++ "<lambda>")]⟩ gi G4 l.prog w K mg base 6 := A3.add (n := 10) (sem := f3) rfl (Nat.le_refl _) (PySem.W.mg_of X G a3) k3 b3 Y3
  have Y4 := fn_mc rfl F4 sc4 ok4 A4
  have A5 : Around_ ⟨K, fun c => if c = 0 then C0 else if c = 1 then C1 else C2, fun c => if c = 0 then [] else if c = 1 then ["share"] else if c = 2 then ["one", "other"] else [], fun f => 0, fun c => if c = 0 then E0 else if c = 1 then E1 else if c = 2 then E2 else E3, fun j _ params body scope => gi.lamk j params body scope = true, [(PP40, ("law" : Str) ++ ".<locals>." ++ "<lambda>")]⟩ gi G5 l.prog w K mg base 7 := A4.add (n := 16) (sem := f4) rfl (Nat.le_refl _) (PySem.W.mg_of X G a4) k4 b4 Y4
  have Y5 := fn_mc rfl F5 sc5 ok5 A5
  have A6 : Around_ ⟨K, fun c => if c = 0 then C0 else if c = 1 then C1 else C2, fun c => if c = 0 then [] else if c = 1 then ["share"] else if c = 2 then ["one", "other"] else [], fun f => 0, fun c => if c = 0 then E0 else if c = 1 then E1 else if c = 2 then E2 else E3, fun j _ params body scope => gi.lamk j params body scope = true, [(PP40, ("law" : Str) ++ ".<locals>." ++ "<lambda>")]⟩ gi G6 l.prog w K mg base 8 := A5.add (n := 17) (sem := f5) rfl (Nat.le_refl _) (PySem.W.mg_of X G a5) k5 b5 Y5
  have Y6 := fn_mc rfl F6 sc6 ok6 A6
  have A7 : Around_ ⟨K, fun c => if c = 0 then C0 else if c = 1 then C1 else C2, fun c => if c = 0 then [] else if c = 1 then ["share"] else if c = 2 then ["one", "other"] else [], fun f => 0, fun c => if c = 0 then E0 else if c = 1 then E1 else if c = 2 then E2 else E3, fun j _ params body scope => gi.lamk j params body scope = true, [(PP40, ("law" : Str) ++ ".<locals>." ++ "<lambda>")]⟩ gi G7 l.prog w K mg base 9 := A6.add (n := 11) (sem := f6) rfl (Nat.le_refl _) (PySem.W.mg_of X G a6) k6 b6 Y6
  have Y7 := fn_mc rfl F7 sc7 ok7 A7
  have A8 : Around_ ⟨K, fun c => if c = 0 then C0 else if c = 1 then C1 else C2, fun c => if c = 0 then [] else if c = 1 then ["share"] else if c = 2 then ["one", "other"] else [], fun f => 0, fun c => if c = 0 then E0 else if c = 1 then E1 else if c = 2 then E2 else E3, fun j _ params body scope => gi.lamk j params body scope = true, [(PP40, ("law" : Str) ++ ".<locals>." ++ "<lambda>")]⟩ gi G8 l.prog w K mg base 10 := A7.add (n := 27) (sem := f7) rfl (Nat.le_refl _) (PySem.W.mg_of X G a7) k7 b7 Y7
  have Y8 := fn_mc rfl F8 sc8 ok8 A8
  have A9 : Around_ ⟨K, fun c => if c = 0 then C0 else if c = 1 then C1 else C2, fun c => if c = 0 then [] else if c = 1 then ["share"] else if c = 2 then ["one", "other"] else [], fun f => 0, fun c => if c = 0 then E0 else if c = 1 then E1 else if c = 2 then E2 else E3, fun j _ params body scope => gi.lamk j params body scope = true, [(PP40, ("law" : Str) ++ ".<locals>." ++ "<lambda>")]⟩ gi G9 l.prog w K mg base 11 := A8.add (n := 28) (sem := f8) rfl (Nat.le_refl _) (PySem.W.mg_of X G a8) k8 b8 Y8
  have Y9 := fn_mc rfl F9 sc9 ok9 A9
  have A10 : Around_ ⟨K, fun c => if c = 0 then C0 else if c = 1 then C1 else C2, fun c => if c = 0 then [] else if c = 1 then ["share"] else if c = 2 then ["one", "other"] else [], fun f => 0, fun c => if c = 0 then E0 else if c = 1 then E1 else if c = 2 then E2 else E3, fun j _ params body scope => gi.lamk j params body scope = true, [(PP40, ("law" : Str) ++ ".<locals>." ++ "<lambda>")]⟩ gi G10 l.prog w K mg base 12 := A9.add (n := 20) (sem := f9) rfl (Nat.le_refl _) (PySem.W.mg_of X G a9) k9 b9 Y9
  have A11 : Around_ ⟨K, fun c => if c = 0 then C0 else if c = 1 then C1 else C2, fun c => if c = 0 then [] else if c = 1 then ["share"] else if c = 2 then ["one", "other"] else [], fun f => 0, fun c => if c = 0 then E0 else if c = 1 then E1 else if c = 2 then E2 else E3, fun j _ params body scope => gi.lamk j params body scope = true, [(PP40, ("law" : Str) ++ ".<locals>." ++ "<lambda>")]⟩ gi G11 l.prog w K mg base 13 := A10.addM (n := 200) (c := 1) (m := "shows") rfl (by decide) (Nat.le_refl _) ⟨a10, i10, k10⟩ b10 (fn_mc rfl F10 sc10 ok10 A10)
  have A12 : Around_ ⟨K, fun c => if c = 0 then C0 else if c = 1 then C1 else C2, fun c => if c = 0 then [] else if c = 1 then ["share"] else if c = 2 then ["one", "other"] else [], fun f => 0, fun c => if c = 0 then E0 else if c = 1 then E1 else if c = 2 then E2 else E3, fun j _ params body scope => gi.lamk j params body scope = true, [(PP40, ("law" : Str) ++ ".<locals>." ++ "<lambda>")]⟩ gi G12 l.prog w K mg base 14 := A11.addM (n := 201) (c := 2) (m := "shows") rfl (by decide) (Nat.le_refl _) ⟨a11, i11, k11⟩ b11 (fn_mc rfl F11 sc11 ok11 A11)
  have Y12 := fn_mc rfl F12 sc12 ok12 A12
  have A13 : Around_ ⟨K, fun c => if c = 0 then C0 else if c = 1 then C1 else C2, fun c => if c = 0 then [] else if c = 1 then ["share"] else if c = 2 then ["one", "other"] else [], fun f => 0, fun c => if c = 0 then E0 else if c = 1 then E1 else if c = 2 then E2 else E3, fun j _ params body scope => gi.lamk j params body scope = true, [(PP40, ("law" : Str) ++ ".<locals>." ++ "<lambda>")]⟩ gi G13 l.prog w K mg base 15 := A12.add (n := 21) (sem := f12) rfl (Nat.le_refl _) (PySem.W.mg_of X G a12) k12 b12 Y12
  have Y13 := fn_mc rfl F13 sc13 ok13 A13
  have A14 : Around_ ⟨K, fun c => if c = 0 then C0 else if c = 1 then C1 else C2, fun c => if c = 0 then [] else if c = 1 then ["share"] else if c = 2 then ["one", "other"] else [], fun f => 0, fun c => if c = 0 then E0 else if c = 1 then E1 else if c = 2 then E2 else E3, fun j _ params body scope => gi.lamk j params body scope = true, [(PP40, ("law" : Str) ++ ".<locals>." ++ "<lambda>")]⟩ gi G14 l.prog w K mg base 16 := A13.add (n := 29) (sem := f13) rfl (Nat.le_refl _) (PySem.W.mg_of X G a13) k13 b13 Y13
  have Y14 := fn_mc rfl F14 sc14 ok14 A14
  have A15 : Around_ ⟨K, fun c => if c = 0 then C0 else if c = 1 then C1 else C2, fun c => if c = 0 then [] else if c = 1 then ["share"] else if c = 2 then ["one", "other"] else [], fun f => 0, fun c => if c = 0 then E0 else if c = 1 then E1 else if c = 2 then E2 else E3, fun j _ params body scope => gi.lamk j params body scope = true, [(PP40, ("law" : Str) ++ ".<locals>." ++ "<lambda>")]⟩ gi G15 l.prog w K mg base 17 := A14.add (n := 2) (sem := f14) rfl (Nat.le_refl _) (PySem.W.mg_of X G a14) k14 b14 Y14
  have Y15 := fn_mc rfl F15 sc15 ok15 A15
  have A16 : Around_ ⟨K, fun c => if c = 0 then C0 else if c = 1 then C1 else C2, fun c => if c = 0 then [] else if c = 1 then ["share"] else if c = 2 then ["one", "other"] else [], fun f => 0, fun c => if c = 0 then E0 else if c = 1 then E1 else if c = 2 then E2 else E3, fun j _ params body scope => gi.lamk j params body scope = true, [(PP40, ("law" : Str) ++ ".<locals>." ++ "<lambda>")]⟩ gi G16 l.prog w K mg base 18 := A15.add (n := 3) (sem := f15) rfl (Nat.le_refl _) (PySem.W.mg_of X G a15) k15 b15 Y15
  have Y16 := fn_mc rfl F16 sc16 ok16 A16
  have A17 : Around_ ⟨K, fun c => if c = 0 then C0 else if c = 1 then C1 else C2, fun c => if c = 0 then [] else if c = 1 then ["share"] else if c = 2 then ["one", "other"] else [], fun f => 0, fun c => if c = 0 then E0 else if c = 1 then E1 else if c = 2 then E2 else E3, fun j _ params body scope => gi.lamk j params body scope = true, [(PP40, ("law" : Str) ++ ".<locals>." ++ "<lambda>")]⟩ gi G17 l.prog w K mg base 19 := A16.add (n := 4) (sem := f16) rfl (Nat.le_refl _) (PySem.W.mg_of X G a16) k16 b16 Y16
  have Y17 := fn_mc rfl F17 sc17 ok17 A17
  have A18 : Around_ ⟨K, fun c => if c = 0 then C0 else if c = 1 then C1 else C2, fun c => if c = 0 then [] else if c = 1 then ["share"] else if c = 2 then ["one", "other"] else [], fun f => 0, fun c => if c = 0 then E0 else if c = 1 then E1 else if c = 2 then E2 else E3, fun j _ params body scope => gi.lamk j params body scope = true, [(PP40, ("law" : Str) ++ ".<locals>." ++ "<lambda>")]⟩ gi G18 l.prog w K mg base 20 := A17.add (n := 5) (sem := f17) rfl (Nat.le_refl _) (PySem.W.mg_of X G a17) k17 b17 Y17
  have Y18 := fn_mc rfl F18 sc18 ok18 A18
  have A19 : Around_ ⟨K, fun c => if c = 0 then C0 else if c = 1 then C1 else C2, fun c => if c = 0 then [] else if c = 1 then ["share"] else if c = 2 then ["one", "other"] else [], fun f => 0, fun c => if c = 0 then E0 else if c = 1 then E1 else if c = 2 then E2 else E3, fun j _ params body scope => gi.lamk j params body scope = true, [(PP40, ("law" : Str) ++ ".<locals>." ++ "<lambda>")]⟩ gi G19 l.prog w K mg base 21 := A18.add (n := 12) (sem := f18) rfl (Nat.le_refl _) (PySem.W.mg_of X G a18) k18 b18 Y18
  have Y19 := fn_mc rfl F19 sc19 ok19 A19
  have A20 : Around_ ⟨K, fun c => if c = 0 then C0 else if c = 1 then C1 else C2, fun c => if c = 0 then [] else if c = 1 then ["share"] else if c = 2 then ["one", "other"] else [], fun f => 0, fun c => if c = 0 then E0 else if c = 1 then E1 else if c = 2 then E2 else E3, fun j _ params body scope => gi.lamk j params body scope = true, [(PP40, ("law" : Str) ++ ".<locals>." ++ "<lambda>")]⟩ gi G20 l.prog w K mg base 22 := A19.add (n := 13) (sem := f19) rfl (Nat.le_refl _) (PySem.W.mg_of X G a19) k19 b19 Y19
  have Y20 := fn_mc rfl F20 sc20 ok20 A20
  have A21 : Around_ ⟨K, fun c => if c = 0 then C0 else if c = 1 then C1 else C2, fun c => if c = 0 then [] else if c = 1 then ["share"] else if c = 2 then ["one", "other"] else [], fun f => 0, fun c => if c = 0 then E0 else if c = 1 then E1 else if c = 2 then E2 else E3, fun j _ params body scope => gi.lamk j params body scope = true, [(PP40, ("law" : Str) ++ ".<locals>." ++ "<lambda>")]⟩ gi G21 l.prog w K mg base 23 := A20.add (n := 14) (sem := f20) rfl (Nat.le_refl _) (PySem.W.mg_of X G a20) k20 b20 Y20
  have Y21 := fn_mc rfl F21 sc21 ok21 A21
  have A22 : Around_ ⟨K, fun c => if c = 0 then C0 else if c = 1 then C1 else C2, fun c => if c = 0 then [] else if c = 1 then ["share"] else if c = 2 then ["one", "other"] else [], fun f => 0, fun c => if c = 0 then E0 else if c = 1 then E1 else if c = 2 then E2 else E3, fun j _ params body scope => gi.lamk j params body scope = true, [(PP40, ("law" : Str) ++ ".<locals>." ++ "<lambda>")]⟩ gi G22 l.prog w K mg base 24 := A21.add (n := 22) (sem := f21) rfl (Nat.le_refl _) (PySem.W.mg_of X G a21) k21 b21 Y21
  have Y22 := fn_mc rfl F22 sc22 ok22 A22
  have A23 : Around_ ⟨K, fun c => if c = 0 then C0 else if c = 1 then C1 else C2, fun c => if c = 0 then [] else if c = 1 then ["share"] else if c = 2 then ["one", "other"] else [], fun f => 0, fun c => if c = 0 then E0 else if c = 1 then E1 else if c = 2 then E2 else E3, fun j _ params body scope => gi.lamk j params body scope = true, [(PP40, ("law" : Str) ++ ".<locals>." ++ "<lambda>")]⟩ gi G23 l.prog w K mg base 25 := A22.add (n := 23) (sem := f22) rfl (Nat.le_refl _) (PySem.W.mg_of X G a22) k22 b22 Y22
  have Y23 := fn_mc rfl F23 sc23 ok23 A23
  have A24 : Around_ ⟨K, fun c => if c = 0 then C0 else if c = 1 then C1 else C2, fun c => if c = 0 then [] else if c = 1 then ["share"] else if c = 2 then ["one", "other"] else [], fun f => 0, fun c => if c = 0 then E0 else if c = 1 then E1 else if c = 2 then E2 else E3, fun j _ params body scope => gi.lamk j params body scope = true, [(PP40, ("law" : Str) ++ ".<locals>." ++ "<lambda>")]⟩ gi G24 l.prog w K mg base 26 := A23.add (n := 24) (sem := f23) rfl (Nat.le_refl _) (PySem.W.mg_of X G a23) k23 b23 Y23
  have Y24 := fn_mc rfl F24 sc24 ok24 A24
  have A25 : Around_ ⟨K, fun c => if c = 0 then C0 else if c = 1 then C1 else C2, fun c => if c = 0 then [] else if c = 1 then ["share"] else if c = 2 then ["one", "other"] else [], fun f => 0, fun c => if c = 0 then E0 else if c = 1 then E1 else if c = 2 then E2 else E3, fun j _ params body scope => gi.lamk j params body scope = true, [(PP40, ("law" : Str) ++ ".<locals>." ++ "<lambda>")]⟩ gi G25 l.prog w K mg base 27 := A24.add (n := 25) (sem := f24) rfl (Nat.le_refl _) (PySem.W.mg_of X G a24) k24 b24 Y24
  have Y25 := fn_mc rfl F25 sc25 ok25 A25
  have A26 : Around_ ⟨K, fun c => if c = 0 then C0 else if c = 1 then C1 else C2, fun c => if c = 0 then [] else if c = 1 then ["share"] else if c = 2 then ["one", "other"] else [], fun f => 0, fun c => if c = 0 then E0 else if c = 1 then E1 else if c = 2 then E2 else E3, fun j _ params body scope => gi.lamk j params body scope = true, [(PP40, ("law" : Str) ++ ".<locals>." ++ "<lambda>")]⟩ gi G26 l.prog w K mg base 28 := A25.add (n := 26) (sem := f25) rfl (Nat.le_refl _) (PySem.W.mg_of X G a25) k25 b25 Y25
  have A27 : Around_ ⟨K, fun c => if c = 0 then C0 else if c = 1 then C1 else C2, fun c => if c = 0 then [] else if c = 1 then ["share"] else if c = 2 then ["one", "other"] else [], fun f => 0, fun c => if c = 0 then E0 else if c = 1 then E1 else if c = 2 then E2 else E3, fun j _ params body scope => gi.lamk j params body scope = true, [(PP40, ("law" : Str) ++ ".<locals>." ++ "<lambda>")]⟩ gi G27 l.prog w K mg base 29 := A26.addL (n := 300) rfl (by decide) (Nat.le_refl _) fun qq params body scope hh => lam_mc (g := gi0) (W := ⟨K, fun c => if c = 0 then C0 else if c = 1 then C1 else C2, fun c => if c = 0 then [] else if c = 1 then ["share"] else if c = 2 then ["one", "other"] else [], fun f => 0, fun c => if c = 0 then E0 else if c = 1 then E1 else if c = 2 then E2 else E3, fun j _ params body scope => gi.lamk j params body scope = true, [(PP40, ("law" : Str) ++ ".<locals>." ++ "<lambda>")]⟩) rfl (fnScB_ok (lk300 hh).2.1) (lb300 (lk300 hh).1) (lk300 hh).2.2 (A26.plain)
  have A28 : Around_ ⟨K, fun c => if c = 0 then C0 else if c = 1 then C1 else C2, fun c => if c = 0 then [] else if c = 1 then ["share"] else if c = 2 then ["one", "other"] else [], fun f => 0, fun c => if c = 0 then E0 else if c = 1 then E1 else if c = 2 then E2 else E3, fun j _ params body scope => gi.lamk j params body scope = true, [(PP40, ("law" : Str) ++ ".<locals>." ++ "<lambda>")]⟩ gi G28 l.prog w K mg base 30 := A27.addL (n := 301) rfl (by decide) (Nat.le_refl _) fun qq params body scope hh => lam_mc (g := gi0) (W := ⟨K, fun c => if c = 0 then C0 else if c = 1 then C1 else C2, fun c => if c = 0 then [] else if c = 1 then ["share"] else if c = 2 then ["one", "other"] else [], fun f => 0, fun c => if c = 0 then E0 else if c = 1 then E1 else if c = 2 then E2 else E3, fun j _ params body scope => gi.lamk j params body scope = true, [(PP40, ("law" : Str) ++ ".<locals>." ++ "<lambda>")]⟩) rfl (fnScB_ok (lk301 hh).2.1) (lb301 (lk301 hh).1) (lk301 hh).2.2 (A27.plain)
  have A29 : Around_ ⟨K, fun c => if c = 0 then C0 else if c = 1 then C1 else C2, fun c => if c = 0 then [] else if c = 1 then ["share"] else if c = 2 then ["one", "other"] else [], fun f => 0, fun c => if c = 0 then E0 else if c = 1 then E1 else if c = 2 then E2 else E3, fun j _ params body scope => gi.lamk j params body scope = true, [(PP40, ("law" : Str) ++ ".<locals>." ++ "<lambda>")]⟩ gi G29 l.prog w K mg base 31 := A28.addL (n := 302) rfl (by decide) (Nat.le_refl _) fun qq params body scope hh => lam_mc (g := gi0) (W := ⟨K, fun c => if c = 0 then C0 else if c = 1 then C1 else C2, fun c => if c = 0 then [] else if c = 1 then ["share"] else if c = 2 then ["one", "other"] else [], fun f => 0, fun c => if c = 0 then E0 else if c = 1 then E1 else if c = 2 then E2 else E3, fun j _ params body scope => gi.lamk j params body scope = true, [(PP40, ("law" : Str) ++ ".<locals>." ++ "<lambda>")]⟩) rfl (fnScB_ok (lk302 hh).2.1) (lb302 (lk302 hh).1) (lk302 hh).2.2 (A28.plain)
  have A30 : Around_ ⟨K, fun c => if c = 0 then C0 else if c = 1 then C1 else C2, fun c => if c = 0 then [] else if c = 1 then ["share"] else if c = 2 then ["one", "other"] else [], fun f => 0, fun c => if c = 0 then E0 else if c = 1 then E1 else if c = 2 then E2 else E3, fun j _ params body scope => gi.lamk j params body scope = true, [(PP40, ("law" : Str) ++ ".<locals>." ++ "<lambda>")]⟩ gi G30 l.prog w K mg base 32 := A29.addL (n := 303) rfl (by decide) (Nat.le_refl _) fun qq params body scope hh => lam_mc (g := gi0) (W := ⟨K, fun c => if c = 0 then C0 else if c = 1 then C1 else C2, fun c => if c = 0 then [] else if c = 1 then ["share"] else if c = 2 then ["one", "other"] else [], fun f => 0, fun c => if c = 0 then E0 else if c = 1 then E1 else if c = 2 then E2 else E3, fun j _ params body scope => gi.lamk j params body scope = true, [(PP40, ("law" : Str) ++ ".<locals>." ++ "<lambda>")]⟩) rfl (fnScB_ok (lk303 hh).2.1) (lb303 (lk303 hh).1) (lk303 hh).2.2 (A29.plain)
  have A31 : Around_ ⟨K, fun c => if c = 0 then C0 else if c = 1 then C1 else C2, fun c => if c = 0 then [] else if c = 1 then ["share"] else if c = 2 then ["one", "other"] else [], fun f => 0, fun c => if c = 0 then E0 else if c = 1 then E1 else if c = 2 then E2 else E3, fun j _ params body scope => gi.lamk j params body scope = true, [(PP40, ("law" : Str) ++ ".<locals>." ++ "<lambda>")]⟩ gi G31 l.prog w K mg base 33 := A30.addL (n := 304) rfl (by decide) (Nat.le_refl _) fun qq params body scope hh => lam_mc (g := gi0) (W := ⟨K, fun c => if c = 0 then C0 else if c = 1 then C1 else C2, fun c => if c = 0 then [] else if c = 1 then ["share"] else if c = 2 then ["one", "other"] else [], fun f => 0, fun c => if c = 0 then E0 else if c = 1 then E1 else if c = 2 then E2 else E3, fun j _ params body scope => gi.lamk j params body scope = true, [(PP40, ("law" : Str) ++ ".<locals>." ++ "<lambda>")]⟩) rfl (fnScB_ok (lk304 hh).2.1) (lb304 (lk304 hh).1) (lk304 hh).2.2 (A30.plain)
  have A32 : Around_ ⟨K, fun c => if c = 0 then C0 else if c = 1 then C1 else C2, fun c => if c = 0 then [] else if c = 1 then ["share"] else if c = 2 then ["one", "other"] else [], fun f => 0, fun c => if c = 0 then E0 else if c = 1 then E1 else if c = 2 then E2 else E3, fun j _ params body scope => gi.lamk j params body scope = true, [(PP40, ("law" : Str) ++ ".<locals>." ++ "<lambda>")]⟩ gi G32 l.prog w K mg base 34 := A31.addL (n := 305) rfl (by decide) (Nat.le_refl _) fun qq params body scope hh => lam_mc (g := gi0) (W := ⟨K, fun c => if c = 0 then C0 else if c = 1 then C1 else C2, fun c => if c = 0 then [] else if c = 1 then ["share"] else if c = 2 then ["one", "other"] else [], fun f => 0, fun c => if c = 0 then E0 else if c = 1 then E1 else if c = 2 then E2 else E3, fun j _ params body scope => gi.lamk j params body scope = true, [(PP40, ("law" : Str) ++ ".<locals>." ++ "<lambda>")]⟩) rfl (fnScB_ok (lk305 hh).2.1) (lb305 (lk305 hh).1) (lk305 hh).2.2 (A31.plain)
  have Y32 := fn_mc rfl F32 sc32 ok32 A32
  have A33 : Around_ ⟨K, fun c => if c = 0 then C0 else if c = 1 then C1 else C2, fun c => if c = 0 then [] else if c = 1 then ["share"] else if c = 2 then ["one", "other"] else [], fun f => 0, fun c => if c = 0 then E0 else if c = 1 then E1 else if c = 2 then E2 else E3, fun j _ params body scope => gi.lamk j params body scope = true, [(PP40, ("law" : Str) ++ ".<locals>." ++ "<lambda>")]⟩ gi G33 l.prog w K mg base 35 := A32.add (n := 43) (sem := f32) rfl (Nat.le_refl _) (PySem.W.mg_of X G a32) k32 b32 Y32
  have Y33 := fn_mc rfl F33 sc33 ok33 A33
  have A34 : Around_ ⟨K, fun c => if c = 0 then C0 else if c = 1 then C1 else C2, fun c => if c = 0 then [] else if c = 1 then ["share"] else if c = 2 then ["one", "other"] else [], fun f => 0, fun c => if c = 0 then E0 else if c = 1 then E1 else if c = 2 then E2 else E3, fun j _ params body scope => gi.lamk j params body scope = true, [(PP40, ("law" : Str) ++ ".<locals>." ++ "<lambda>")]⟩ gi G34 l.prog w K mg base 36 := A33.add (n := 43) (sem := f33) rfl (Nat.le_refl _) (PySem.W.mg_of X G a33) k33 b33 Y33
  have Y34 := spoiled_fn rfl F34 A34
  have A35 : Around_ ⟨K, fun c => if c = 0 then C0 else if c = 1 then C1 else C2, fun c => if c = 0 then [] else if c = 1 then ["share"] else if c = 2 then ["one", "other"] else [], fun f => 0, fun c => if c = 0 then E0 else if c = 1 then E1 else if c = 2 then E2 else E3, fun j _ params body scope => gi.lamk j params body scope = true, [(PP40, ("law" : Str) ++ ".<locals>." ++ "<lambda>")]⟩ gi G35 l.prog w K mg base 37 := A34.addU (n := 500) (sem := f34) rfl (by decide) (Nat.le_refl _) (PySem.W.mg_of X G a34) k34 b34 Y34
  have Y35 := fn_mcM rfl F35 sc35 ok35 (by decide) (by decide) A35
  have A36 : Around_ ⟨K, fun c => if c = 0 then C0 else if c = 1 then C1 else C2, fun c => if c = 0 then [] else if c = 1 then ["share"] else if c = 2 then ["one", "other"] else [], fun f => 0, fun c => if c = 0 then E0 else if c = 1 then E1 else if c = 2 then E2 else E3, fun j _ params body scope => gi.lamk j params body scope = true, [(PP40, ("law" : Str) ++ ".<locals>." ++ "<lambda>")]⟩ gi G36 l.prog w K mg base 38 := A35.addU (n := 501) (sem := f35) rfl (by decide) (Nat.le_refl _) (PySem.W.mg_of X G a35) k35 b35 Y35
  have Y36 := fn_mc rfl F36 sc36 ok36 A36
  have A37 : Around_ ⟨K, fun c => if c = 0 then C0 else if c = 1 then C1 else C2, fun c => if c = 0 then [] else if c = 1 then ["share"] else if c = 2 then ["one", "other"] else [], fun f => 0, fun c => if c = 0 then E0 else if c = 1 then E1 else if c = 2 then E2 else E3, fun j _ params body scope => gi.lamk j params body scope = true, [(PP40, ("law" : Str) ++ ".<locals>." ++ "<lambda>")]⟩ gi G37 l.prog w K mg base 39 := A36.add (n := 46) (sem := f36) rfl (Nat.le_refl _) (PySem.W.mg_of X G a36) k36 b36 Y36
  have Y37 := fn_mc rfl F37 sc37 ok37 A37
  have A38 : Around_ ⟨K, fun c => if c = 0 then C0 else if c = 1 then C1 else C2, fun c => if c = 0 then [] else if c = 1 then ["share"] else if c = 2 then ["one", "other"] else [], fun f => 0, fun c => if c = 0 then E0 else if c = 1 then E1 else if c = 2 then E2 else E3, fun j _ params body scope => gi.lamk j params body scope = true, [(PP40, ("law" : Str) ++ ".<locals>." ++ "<lambda>")]⟩ gi G38 l.prog w K mg base 40 := A37.add (n := 31) (sem := f37) rfl (Nat.le_refl _) (PySem.W.mg_of X G a37) k37 b37 Y37
  have Y38 := fn_mc rfl F38 sc38 ok38 A38
  have A39 : Around_ ⟨K, fun c => if c = 0 then C0 else if c = 1 then C1 else C2, fun c => if c = 0 then [] else if c = 1 then ["share"] else if c = 2 then ["one", "other"] else [], fun f => 0, fun c => if c = 0 then E0 else if c = 1 then E1 else if c = 2 then E2 else E3, fun j _ params body scope => gi.lamk j params body scope = true, [(PP40, ("law" : Str) ++ ".<locals>." ++ "<lambda>")]⟩ gi G39 l.prog w K mg base 41 := A38.add (n := 47) (sem := f38) rfl (Nat.le_refl _) (PySem.W.mg_of X G a38) k38 b38 Y38
  have Y39 := fn_mc rfl F39 sc39 ok39 A39
  have A40 : Around_ ⟨K, fun c => if c = 0 then C0 else if c = 1 then C1 else C2, fun c => if c = 0 then [] else if c = 1 then ["share"] else if c = 2 then ["one", "other"] else [], fun f => 0, fun c => if c = 0 then E0 else if c = 1 then E1 else if c = 2 then E2 else E3, fun j _ params body scope => gi.lamk j params body scope = true, [(PP40, ("law" : Str) ++ ".<locals>." ++ "<lambda>")]⟩ gi G40 l.prog w K mg base 42 := A39.add (n := 48) (sem := f39) rfl (Nat.le_refl _) (PySem.W.mg_of X G a39) k39 b39 Y39
  have Y40 := fn_mcT rfl l40 c40 sc40 ok40 A40 M40
  exact script_okT Y40
end K10
open PySem PySem.W PyProof.Rows
set_option maxHeartbeats 0 in
theorem PySem.Challenge.cw_bracketchains_k10_handed_stays_holds : PySem.Challenge.rw_bracketchains_k10_handed_stays.Holds := by
  w_on; o_law; k_head; (case hw => w_witness2)
  k_fill
  refine Mc.walk_ofQ (l := PySem.Challenge.rw_bracketchains_k10_handed_stays) (n := 63) (k := 43) (x := "_law_script") (CX := fun _ => L2.CX0) rfl (by decide) rfl ⟨rfl, by decide, by decide⟩ (fun w h Y => PySem.W.km_in_of Y) ?F (fun _ _ _ _ _ h => h)
  case F =>
    intro w s₀ mg mb fa h KX T hmg
    refine' K10.all_mk (cc40 := 340) (PP40 := 338) KX T.g hmg ?aC0 ?aC1 ?aC2 ?aI1 ?iI1 ?lI1 ?cI1 ?kI1 ?mk1 ?kc1 ?aI2 ?iI2 ?lI2 ?cI2 ?kI2 ?mk2 ?kc2 ?aES ?bES ?iES ?tES ?aE0 ?xE0 ?kE0 ?bE0 ?tE0 ?gE0 ?nE0 ?dE0 ?cE0 ?mE0 ?sE0 ?aE1 ?xE1 ?kE1 ?bE1 ?tE1 ?gE1 ?nE1 ?dE1 ?cE1 ?mE1 ?sE1 ?aE2 ?xE2 ?kE2 ?bE2 ?tE2 ?gE2 ?nE2 ?dE2 ?cE2 ?mE2 ?sE2 ?aE3 ?xE3 ?kE3 ?bE3 ?tE3 ?gE3 ?nE3 ?dE3 ?cE3 ?mE3 ?sE3 ?isE0_0 ?isE0_1 ?isE0_2 ?isE0_3 ?isV0 ?isE1_0 ?isE1_1 ?isE1_2 ?isE1_3 ?isV1 ?isE2_0 ?isE2_1 ?isE2_2 ?isE2_3 ?isV2 ?isE3_0 ?isE3_1 ?isE3_2 ?isE3_3 ?isV3 ?zV ?a0 ?l0 ?c0 ?k0 ?a1 ?l1 ?c1 ?k1 ?a2 ?l2 ?c2 ?k2 ?a3 ?l3 ?c3 ?k3 ?a4 ?l4 ?c4 ?k4 ?a5 ?l5 ?c5 ?k5 ?a6 ?l6 ?c6 ?k6 ?a7 ?l7 ?c7 ?k7 ?a8 ?l8 ?c8 ?k8 ?a9 ?l9 ?c9 ?k9 ?a10 ?i10 ?l10 ?c10 ?k10 ?a11 ?i11 ?l11 ?c11 ?k11 ?a12 ?l12 ?c12 ?k12 ?a13 ?l13 ?c13 ?k13 ?a14 ?l14 ?c14 ?k14 ?a15 ?l15 ?c15 ?k15 ?a16 ?l16 ?c16 ?k16 ?a17 ?l17 ?c17 ?k17 ?a18 ?l18 ?c18 ?k18 ?a19 ?l19 ?c19 ?k19 ?a20 ?l20 ?c20 ?k20 ?a21 ?l21 ?c21 ?k21 ?a22 ?l22 ?c22 ?k22 ?a23 ?l23 ?c23 ?k23 ?a24 ?l24 ?c24 ?k24 ?a25 ?l25 ?c25 ?k25 ?a32 ?l32 ?c32 ?k32 ?a33 ?l33 ?c33 ?k33 ?a34 ?l34 ?c34 ?k34 ?a35 ?l35 ?c35 ?k35 ?a36 ?l36 ?c36 ?k36 ?a37 ?l37 ?c37 ?k37 ?a38 ?l38 ?c38 ?k38 ?a39 ?l39 ?c39 ?k39 ?a40 ?l40 ?c40 ?k40 ?cd40e ?ch40 ?cn40 ?pg0 ?hd0 ?po0 ?sa0 ?ha0 ?hm0 ?pg1 ?hd1 ?po1 ?sa1 ?ha1 ?hm1 ?nf1_0 ?pg2 ?hd2 ?po2 ?sa2 ?ha2 ?hm2 ?nf2_0 ?nf2_1 ?hn ?htk ?is0_0 ?is1_0 ?is2_0 ?is0_1 ?is1_1 ?is2_1 ?is0_2 ?is1_2 ?is2_2 ?z0 ?z1 ?z2 ?z3 ?z4 ?z5 ?z6 ?z7 ?z8 ?z9 ?z10 ?z11 ?z12 ?z13 ?z14 ?z15 ?z16 ?y0 ?y1
    (case aC0 => k_is); (case aC1 => k_is); (case aC2 => k_is); (case aI1 => k_is); (case iI1 => k_is); (case lI1 => k_is); (case cI1 => k_is); (case kI1 => k_is); (case mk1 => k_is); (case kc1 => k_is); (case aI2 => k_is); (case iI2 => k_is); (case lI2 => k_is); (case cI2 => k_is); (case kI2 => k_is); (case mk2 => k_is); (case kc2 => k_is); (case aES => k_is); (case bES => k_is); (case iES => k_is); (case tES => k_is); (case aE0 => k_is); (case xE0 => k_exc); (case kE0 => k_is); (case bE0 => k_is); (case tE0 => k_is); (case gE0 => k_is); (case nE0 => k_is); (case dE0 => k_is); (case cE0 => k_is); (case mE0 => k_is); (case sE0 => (first | rfl | k_is)); (case aE1 => k_is); (case xE1 => k_exc); (case kE1 => k_is); (case bE1 => k_is); (case tE1 => k_is); (case gE1 => k_is); (case nE1 => k_is); (case dE1 => k_is); (case cE1 => k_is); (case mE1 => k_is); (case sE1 => (first | rfl | k_is)); (case aE2 => k_is); (case xE2 => k_exc); (case kE2 => k_is); (case bE2 => k_is); (case tE2 => k_is); (case gE2 => k_is); (case nE2 => k_is); (case dE2 => k_is); (case cE2 => k_is); (case mE2 => k_is); (case sE2 => (first | rfl | k_is)); (case aE3 => k_is); (case xE3 => k_exc); (case kE3 => k_is); (case bE3 => k_is); (case tE3 => k_is); (case gE3 => k_is); (case nE3 => k_is); (case dE3 => k_is); (case cE3 => k_is); (case mE3 => k_is); (case sE3 => (first | rfl | k_is)); (case isE0_0 => kit_is); (case isE0_1 => kit_is); (case isE0_2 => kit_is); (case isE0_3 => kit_is); (case isV0 => kit_is); (case isE1_0 => kit_is); (case isE1_1 => kit_is); (case isE1_2 => kit_is); (case isE1_3 => kit_is); (case isV1 => kit_is); (case isE2_0 => kit_is); (case isE2_1 => kit_is); (case isE2_2 => kit_is); (case isE2_3 => kit_is); (case isV2 => kit_is); (case isE3_0 => kit_is); (case isE3_1 => kit_is); (case isE3_2 => kit_is); (case isE3_3 => kit_is); (case isV3 => kit_is); (case zV => k_is); (case a0 => k_is); (case l0 => k_is); (case c0 => k_is); (case k0 => k_is); (case a1 => k_is); (case l1 => k_is); (case c1 => k_is); (case k1 => k_is); (case a2 => k_is); (case l2 => k_is); (case c2 => k_is); (case k2 => k_is); (case a3 => k_is); (case l3 => k_is); (case c3 => k_is); (case k3 => k_is); (case a4 => k_is); (case l4 => k_is); (case c4 => k_is); (case k4 => k_is); (case a5 => k_is); (case l5 => k_is); (case c5 => k_is); (case k5 => k_is); (case a6 => k_is); (case l6 => k_is); (case c6 => k_is); (case k6 => k_is); (case a7 => k_is); (case l7 => k_is); (case c7 => k_is); (case k7 => k_is); (case a8 => k_is); (case l8 => k_is); (case c8 => k_is); (case k8 => k_is); (case a9 => k_is); (case l9 => k_is); (case c9 => k_is); (case k9 => k_is); (case a10 => k_is); (case i10 => k_is); (case l10 => k_is); (case c10 => k_is); (case k10 => k_is); (case a11 => k_is); (case i11 => k_is); (case l11 => k_is); (case c11 => k_is); (case k11 => k_is); (case a12 => k_is); (case l12 => k_is); (case c12 => k_is); (case k12 => k_is); (case a13 => k_is); (case l13 => k_is); (case c13 => k_is); (case k13 => k_is); (case a14 => k_is); (case l14 => k_is); (case c14 => k_is); (case k14 => k_is); (case a15 => k_is); (case l15 => k_is); (case c15 => k_is); (case k15 => k_is); (case a16 => k_is); (case l16 => k_is); (case c16 => k_is); (case k16 => k_is); (case a17 => k_is); (case l17 => k_is); (case c17 => k_is); (case k17 => k_is); (case a18 => k_is); (case l18 => k_is); (case c18 => k_is); (case k18 => k_is); (case a19 => k_is); (case l19 => k_is); (case c19 => k_is); (case k19 => k_is); (case a20 => k_is); (case l20 => k_is); (case c20 => k_is); (case k20 => k_is); (case a21 => k_is); (case l21 => k_is); (case c21 => k_is); (case k21 => k_is); (case a22 => k_is); (case l22 => k_is); (case c22 => k_is); (case k22 => k_is); (case a23 => k_is); (case l23 => k_is); (case c23 => k_is); (case k23 => k_is); (case a24 => k_is); (case l24 => k_is); (case c24 => k_is); (case k24 => k_is); (case a25 => k_is); (case l25 => k_is); (case c25 => k_is); (case k25 => k_is); (case a32 => k_is); (case l32 => k_is); (case c32 => k_is); (case k32 => k_is); (case a33 => k_is); (case l33 => k_is); (case c33 => k_is); (case k33 => k_is); (case a34 => k_is); (case l34 => k_is); (case c34 => k_is); (case k34 => k_is); (case a35 => k_is); (case l35 => k_is); (case c35 => k_is); (case k35 => k_is); (case a36 => k_is); (case l36 => k_is); (case c36 => k_is); (case k36 => k_is); (case a37 => k_is); (case l37 => k_is); (case c37 => k_is); (case k37 => k_is); (case a38 => k_is); (case l38 => k_is); (case c38 => k_is); (case k38 => k_is); (case a39 => k_is); (case l39 => k_is); (case c39 => k_is); (case k39 => k_is); (case a40 => k_is); (case l40 => k_is); (case c40 => k_is); (case k40 => k_is); (case cd40e => exact rfl); (case ch40 => exact tab_of (x := "law") (c := 340) (P := 338) T KX rfl (by kernel_rfl)); (case cn40 => kernel_rfl); (case pg0 => k_is); (case hd0 => k_is); (case po0 => k_is); (case sa0 => k_is); (case ha0 => k_is); (case hm0 => k_is); (case pg1 => k_is); (case hd1 => k_is); (case po1 => k_is); (case sa1 => k_is); (case ha1 => k_is); (case hm1 => k_is); (case nf1_0 => k_is); (case pg2 => k_is); (case hd2 => k_is); (case po2 => k_is); (case sa2 => k_is); (case ha2 => k_is); (case hm2 => k_is); (case nf2_0 => k_is); (case nf2_1 => k_is); (case hn => k_is); (case htk => k_is); (case is0_0 => kit_is); (case is1_0 => kit_is); (case is2_0 => kit_is); (case is0_1 => kit_is); (case is1_1 => kit_is); (case is2_1 => kit_is); (case is0_2 => kit_is); (case is1_2 => kit_is); (case is2_2 => kit_is); (case z0 => k_is); (case z1 => k_is); (case z2 => k_is); (case z3 => k_is); (case z4 => k_is); (case z5 => k_is); (case z6 => k_is); (case z7 => k_is); (case z8 => k_is); (case z9 => k_is); (case z10 => k_is); (case z11 => k_is); (case z12 => k_is); (case z13 => k_is); (case z14 => k_is); (case z15 => k_is); (case z16 => k_is); (case y0 => k_is); (case y1 => k_is)
