import PyProof.Rows.All
import Wide.All
import OpenK.AllK
import Wide.FinOn
import HandS.ForMost
import HandS.Walk
import HandS.Zip
import HandS.TupAny
import HandS.TupMul
import HandS.Deep
import HandS.IsInst
import HandS.Conv
import HandS.Flow
import HandS.Exc
import HandS.ExcOwn
import HandS.WordsExc
import HandS.CallSlots
import HandS.Style
import HandS.Wide
import KE.LtData
import HandS.ExcIs
import HandS.HotCalls
import HandS.EndOwn
import KE.KNestM
import PySem.Challenge.RW_everytree_k01_paths
set_option Elab.async false
set_option linter.all false
set_option maxRecDepth 100000
set_option autoImplicit false
set_option maxHeartbeats 4000000
namespace Den
open PySem PySem.Spec PyProof.Rows L2

abbrev D := PyData

def sOk (x : Str) : Prop := PyData.strOk x = true ∧ x.length ≤ sizeLine

def keyD : Key → D
  | .inl i => .int i
  | .inr x => .str x
def keyTD (k : List Key) : D := .tuple (k.map keyD)

/-- a list that the module's top has written -/
def InK (K : PySem.W.Frag) (a : Addr) (xs : List V) : Prop := ∃ (o : Obj) (its : Array Value) (n : Nat), K.lookup a = some o ∧ o.cls = .type "list" ∧ o.dict = none ∧ o.data = .seq its n ∧ its.size ≤ sizeLine ∧ Vals xs its.toList
mutual
/-- the value v stands for the data d in the heap H; every list and dict in it lies at an address that ok allows -/
inductive Rp (K : PySem.W.Frag) (H : Hp) (ok : Addr → Prop) : V → D → Prop
  | non : Rp K H ok .non .none
  | bl (b : Bool) : Rp K H ok (.bl b) (.bool b)
  | int (i : Int) : Rp K H ok (.int i) (.int i)
  | str {x : Str} : sOk x → Rp K H ok (.str x) (.str x)
  | lst {a : Addr} {xs : List V} {ds : List D} : ok a → Rd H a (.lst xs) → RpAll K H ok xs ds → Rp K H ok (.ref a) (.list ds)
  | lstK {a : Addr} {xs : List V} {ds : List D} : InK K a xs → RpAll K H ok xs ds → Rp K H ok (.ref a) (.list ds)
  | tup {a : Addr} {xs : List V} {ds : List D} : SqT K H a xs → RpAll K H ok xs ds → Rp K H ok (.ref a) (.tuple ds)
  | dK {a : Addr} {kvs : List (Key × V)} {es : List (D × D)} : ok a → Rd H a (.dK kvs) → RpKV K H ok kvs es → Rp K H ok (.ref a) (.dict es)
  | dT {a : Addr} {kvs : List (List Key × V)} {es : List (D × D)} : ok a → Rd H a (.dT kvs) → RpKT K H ok kvs es → Rp K H ok (.ref a) (.dict es)
inductive RpAll (K : PySem.W.Frag) (H : Hp) (ok : Addr → Prop) : List V → List D → Prop
  | nil : RpAll K H ok [] []
  | cons {v : V} {vs : List V} {d : D} {ds : List D} : Rp K H ok v d → RpAll K H ok vs ds → RpAll K H ok (v :: vs) (d :: ds)
inductive RpKV (K : PySem.W.Frag) (H : Hp) (ok : Addr → Prop) : List (Key × V) → List (D × D) → Prop
  | nil : RpKV K H ok [] []
  | cons {k : Key} {v : V} {r : List (Key × V)} {d : D} {es : List (D × D)} : (∀ x, k = .inr x → sOk x) → Rp K H ok v d → RpKV K H ok r es → RpKV K H ok ((k, v) :: r) ((keyD k, d) :: es)
inductive RpKT (K : PySem.W.Frag) (H : Hp) (ok : Addr → Prop) : List (List Key × V) → List (D × D) → Prop
  | nil : RpKT K H ok [] []
  | cons {k : List Key} {v : V} {r : List (List Key × V)} {d : D} {es : List (D × D)} : (∀ x, .inr x ∈ k → sOk x) → Rp K H ok v d → RpKT K H ok r es → RpKT K H ok ((k, v) :: r) ((keyTD k, d) :: es)
end

/-- what is never changed: a tuple -/
def tupO : HO → Prop
  | .tup _ => True
  | .frz _ (.tup _) => True
  | _ => False

theorem sqT_keep {K : PySem.W.Frag} {H H' : Hp} {a : Addr} {xs : List V} (k : ∀ b o, H b = some o → tupO o → H' b = some o) (h : SqT K H a xs) : SqT K H' a xs := by
  rcases h with (h | ⟨o, h⟩) | h
  · exact .inl (.inl (k _ _ h trivial))
  · exact .inl (.inr ⟨o, k _ _ h trivial⟩)
  · exact .inr h
theorem sqL_keep {K : PySem.W.Frag} {H H' : Hp} {a : Addr} {xs : List V} (k : ∀ o, H a = some o → H' a = some o) (h : SqL K H a xs) : SqL K H' a xs := by
  rcases h with (h | ⟨o, h⟩) | h
  · exact .inl (.inl (k _ h))
  · exact .inl (.inr ⟨o, k _ h⟩)
  · exact .inr h
theorem rd_keep {H H' : Hp} {a : Addr} {u : HO} (k : ∀ o, H a = some o → H' a = some o) (h : Rd H a u) : Rd H' a u := by
  rcases h with h | ⟨o, h⟩
  · exact .inl (k _ h)
  · exact .inr ⟨o, k _ h⟩

section
variable {K : PySem.W.Frag} {H H' : Hp} {ok ok' : Addr → Prop}
theorem rd_ok {a : Addr} {u : HO} (w : ∀ b o, H b = some o → ok b → ok' b) (h : Rd H a u) (q : ok a) : ok' a := by
  rcases h with h | ⟨o, h⟩
  · exact w _ _ h q
  · exact w _ _ h q
mutual
theorem Rp.keep (k : ∀ b o, H b = some o → ok b ∨ tupO o → H' b = some o) (w : ∀ b o, H b = some o → ok b → ok' b) : ∀ {v : V} {d : D}, Rp K H ok v d → Rp K H' ok' v d
  | _, _, .non => .non
  | _, _, .bl b => .bl b
  | _, _, .int i => .int i
  | _, _, .str h => .str h
  | _, _, .lst a s r => .lst (rd_ok w s a) (rd_keep (fun o e => k _ o e (.inl a)) s) (RpAll.keep k w r)
  | _, _, .lstK s r => .lstK s (RpAll.keep k w r)
  | _, _, .tup s r => .tup (sqT_keep (fun b o e t => k b o e (.inr t)) s) (RpAll.keep k w r)
  | _, _, .dK a s r => .dK (rd_ok w s a) (rd_keep (fun o e => k _ o e (.inl a)) s) (RpKV.keep k w r)
  | _, _, .dT a s r => .dT (rd_ok w s a) (rd_keep (fun o e => k _ o e (.inl a)) s) (RpKT.keep k w r)
theorem RpAll.keep (k : ∀ b o, H b = some o → ok b ∨ tupO o → H' b = some o) (w : ∀ b o, H b = some o → ok b → ok' b) : ∀ {v : List V} {d : List D}, RpAll K H ok v d → RpAll K H' ok' v d
  | _, _, .nil => .nil
  | _, _, .cons h r => .cons (Rp.keep k w h) (RpAll.keep k w r)
theorem RpKV.keep (k : ∀ b o, H b = some o → ok b ∨ tupO o → H' b = some o) (w : ∀ b o, H b = some o → ok b → ok' b) : ∀ {v : List (Key × V)} {d : List (D × D)}, RpKV K H ok v d → RpKV K H' ok' v d
  | _, _, .nil => .nil
  | _, _, .cons q h r => .cons q (Rp.keep k w h) (RpKV.keep k w r)
theorem RpKT.keep (k : ∀ b o, H b = some o → ok b ∨ tupO o → H' b = some o) (w : ∀ b o, H b = some o → ok b → ok' b) : ∀ {v : List (List Key × V)} {d : List (D × D)}, RpKT K H ok v d → RpKT K H' ok' v d
  | _, _, .nil => .nil
  | _, _, .cons q h r => .cons q (Rp.keep k w h) (RpKT.keep k w r)
end
theorem Rp.same (e : Same H H') {v : V} {d : D} (h : Rp K H ok v d) : Rp K H' ok v d := h.keep (fun b o q _ => e b o q) fun _ _ _ q => q
theorem Rp.wide (w : ∀ b, ok b → ok' b) {v : V} {d : D} (h : Rp K H ok v d) : Rp K H ok' v d := h.keep (fun b o q _ => q) fun b _ _ q => w b q
theorem RpAll.same (e : Same H H') {v : List V} {d : List D} (h : RpAll K H ok v d) : RpAll K H' ok v d := h.keep (fun b o q _ => e b o q) fun _ _ _ q => q
theorem RpAll.wide (w : ∀ b, ok b → ok' b) {v : List V} {d : List D} (h : RpAll K H ok v d) : RpAll K H ok' v d := h.keep (fun b o q _ => q) fun b _ _ q => w b q
end

/-! ### no list, no dict within: nothing that changes -/
mutual
def plain : D → Bool
  | .none => true
  | .bool _ => true
  | .int _ => true
  | .str _ => true
  | .list _ => false
  | .tuple l => plainAll l
  | .dict _ => false
def plainAll : List D → Bool
  | [] => true
  | d :: r => plain d && plainAll r
end
mutual
/-- no dict within -/
def nd : D → Bool
  | .none => true
  | .bool _ => true
  | .int _ => true
  | .str _ => true
  | .list l => ndAll l
  | .tuple l => ndAll l
  | .dict _ => false
def ndAll : List D → Bool
  | [] => true
  | d :: r => nd d && ndAll r
end
section
variable {K : PySem.W.Frag} {H : Hp} {ok ok' : Addr → Prop}
mutual
theorem Rp.plain_ok : ∀ {v : V} {d : D}, Rp K H ok v d → plain d = true → Rp K H ok' v d
  | _, _, .non, _ => .non
  | _, _, .bl b, _ => .bl b
  | _, _, .int i, _ => .int i
  | _, _, .str h, _ => .str h
  | _, _, .lst a s r, e => by simp [plain] at e
  | _, _, .lstK s r, e => by simp [plain] at e
  | _, _, .tup s r, e => .tup s (RpAll.plain_ok r (by simpa [plain] using e))
  | _, _, .dK a s r, e => by simp [plain] at e
  | _, _, .dT a s r, e => by simp [plain] at e
theorem RpAll.plain_ok : ∀ {v : List V} {d : List D}, RpAll K H ok v d → plainAll d = true → RpAll K H ok' v d
  | _, _, .nil, _ => .nil
  | _, _, .cons h r, e => by
    simp only [plainAll, Bool.and_eq_true] at e
    exact .cons (Rp.plain_ok h e.1) (RpAll.plain_ok r e.2)
end
mutual
theorem Rp.dp : ∀ {v : V} {d : D}, Rp K H ok v d → nd d = true → Dp K H v d ∧ d.canLay0 = true
  | _, _, .non, _ => ⟨.non, by simp [PyData.canLay0]⟩
  | _, _, .bl b, _ => ⟨.bl b, by simp [PyData.canLay0]⟩
  | _, _, .int i, _ => ⟨.int i, by simp [PyData.canLay0]⟩
  | _, _, .str h, _ => ⟨.str _, by simpa [PyData.canLay0] using h.1⟩
  | _, _, .lst a s r, e => by
    obtain ⟨h1, h2⟩ := RpAll.dp r (by simpa [nd] using e)
    exact ⟨.lst (.inl s) h1, by simpa [PyData.canLay0] using h2⟩
  | _, _, .lstK s r, e => by
    obtain ⟨h1, h2⟩ := RpAll.dp r (by simpa [nd] using e)
    exact ⟨.lst (.inr s) h1, by simpa [PyData.canLay0] using h2⟩
  | _, _, .tup s r, e => by
    obtain ⟨h1, h2⟩ := RpAll.dp r (by simpa [nd] using e)
    exact ⟨.tup s h1, by simpa [PyData.canLay0] using h2⟩
  | _, _, .dK a s r, e => by simp [nd] at e
  | _, _, .dT a s r, e => by simp [nd] at e
theorem RpAll.dp : ∀ {v : List V} {d : List D}, RpAll K H ok v d → ndAll d = true → DpAll K H v d ∧ PyData.canLayAll0 d = true
  | _, _, .nil, _ => ⟨.nil, by simp [PyData.canLayAll0]⟩
  | _, _, .cons h r, e => by
    simp only [ndAll, Bool.and_eq_true] at e
    obtain ⟨h1, h2⟩ := Rp.dp h e.1
    obtain ⟨h3, h4⟩ := RpAll.dp r e.2
    exact ⟨.cons h1 h3, by simp [PyData.canLayAll0, h2, h4]⟩
end
theorem RpAll.len : ∀ {v : List V} {d : List D}, RpAll K H ok v d → v.length = d.length
  | _, _, .nil => rfl
  | _, _, .cons h r => by simp [RpAll.len r]
theorem RpAll.get : ∀ {v : List V} {d : List D} {i : Nat} {x : V}, RpAll K H ok v d → v[i]? = some x → ∃ y, d[i]? = some y ∧ Rp K H ok x y
  | _, _, _, _, .nil, e => by simp at e
  | _, _, 0, _, .cons h r, e => by simp at e; subst e; exact ⟨_, rfl, h⟩
  | _, _, i + 1, _, .cons h r, e => by
    obtain ⟨y, h1, h2⟩ := RpAll.get (i := i) r (by simpa using e)
    exact ⟨y, by simpa using h1, h2⟩
theorem RpAll.getD : ∀ {v : List V} {d : List D} {i : Nat} {y : D}, RpAll K H ok v d → d[i]? = some y → ∃ x, v[i]? = some x ∧ Rp K H ok x y
  | _, _, _, _, .nil, e => by simp at e
  | _, _, 0, _, .cons h r, e => by simp at e; subst e; exact ⟨_, rfl, h⟩
  | _, _, i + 1, _, .cons h r, e => by
    obtain ⟨y, h1, h2⟩ := RpAll.getD (i := i) r (by simpa using e)
    exact ⟨y, by simpa using h1, h2⟩
theorem RpAll.app : ∀ {v v' : List V} {d d' : List D}, RpAll K H ok v d → RpAll K H ok v' d' → RpAll K H ok (v ++ v') (d ++ d')
  | _, _, _, _, .nil, s => s
  | _, _, _, _, .cons h r, s => .cons h (RpAll.app r s)
theorem RpAll.take : ∀ {v : List V} {d : List D} (n : Nat), RpAll K H ok v d → RpAll K H ok (v.take n) (d.take n)
  | _, _, 0, _ => .nil
  | _, _, _ + 1, .nil => .nil
  | _, _, n + 1, .cons h r => .cons h (RpAll.take n r)
theorem RpAll.drop : ∀ {v : List V} {d : List D} (n : Nat), RpAll K H ok v d → RpAll K H ok (v.drop n) (d.drop n)
  | _, _, 0, r => r
  | _, _, _ + 1, .nil => .nil
  | _, _, n + 1, .cons _ r => RpAll.drop n r
end
end Den

namespace Den
open PySem PySem.Spec PyProof.Rows L2

/-- what a slot holds: data that nobody changes, or a list or dict that this slot alone holds -/
inductive Sl where
  | val (d : D)
  | own (d : D)
  | exc (x : Str)
abbrev Rho := List (Option Sl)
abbrev Re := Option (Except Str D)
abbrev Ex := Rho → Re
abbrev Own := Nat → Option Addr

/-- where a body runs: the context, what is wanted of an exception, the heap at the entry, which of its lists and dicts may be read, which of its objects may be changed -/
structure C where
  X : Cx
  W : WX
  H0 : Hp
  ok : Addr → Prop
  pm : Addr → Prop
def C.okF (c : C) (a : Addr) : Prop := c.ok a ∨ c.H0 a = none
def C.gd (c : C) (O : Own) (a : Addr) : Prop := c.okF a ∧ ∀ i, O i ≠ some a

/-- the list or dict at a, as data -/
def Cont (K : PySem.W.Frag) (H : Hp) (g : Addr → Prop) (a : Addr) : D → Prop
  | .list ds => ∃ xs, H a = some (.lst xs) ∧ RpAll K H g xs ds
  | .dict es => (∃ kvs, H a = some (.dK kvs) ∧ RpKV K H g kvs es) ∨ ∃ kvs, H a = some (.dT kvs) ∧ RpKT K H g kvs es
  | _ => False

/-- slot i holds the handled exception, of the class that the module calls x -/
def ExAt (X : Cx) (σ : L2.St) (i : Nat) (x : Str) : Prop := ∃ (a : Addr) (oe : Obj) (D : Addr), σ[i]? = some (some (.ref a)) ∧ (a, oe) ∈ X.pn ∧ X.mg x = some (.ref D) ∧ Zc (.ref D) none oe ∧ ∃ vs, oe.data = .fields vs
structure SR (c : C) (σ : L2.St) (H : Hp) (ρ : Rho) (O : Own) : Prop where
  base : ∀ b o, c.H0 b = some o → ¬ c.pm b → H b = some o
  there : ∀ b o, c.H0 b = some o → ∃ o', H b = some o'
  val : ∀ (i : Nat) (d : D), ρ[i]? = some (some (Sl.val d)) → ∃ v, σ[i]? = some (some v) ∧ Rp c.X.K H (c.gd O) v d
  own : ∀ (i : Nat) (d : D), ρ[i]? = some (some (Sl.own d)) → ∃ a, σ[i]? = some (some (.ref a)) ∧ O i = some a ∧ Cont c.X.K H (c.gd O) a d
  inj : ∀ i j a, O i = some a → O j = some a → i = j
  fr : ∀ i a, O i = some a → c.okF a ∧ (c.H0 a = none ∨ c.pm a)
  dom : ∀ (i : Nat) (a : Addr), O i = some a → ∃ d : D, ρ[i]? = some (some (Sl.own d))
  len : ρ.length = σ.length
  exc : c.X.calm = false → ∀ (i : Nat) (x : Str), ρ[i]? = some (some (Sl.exc x)) → ExAt c.X σ i x

section
variable {c : C} {σ : L2.St} {H H' : Hp} {ρ : Rho} {O : Own}
theorem Cont.same {K : PySem.W.Frag} {g : Addr → Prop} {a : Addr} {d : D} (e : Same H H') (h : Cont K H g a d) : Cont K H' g a d := by
  cases d with
  | list ds => obtain ⟨xs, h1, h2⟩ := h; exact ⟨xs, e _ _ h1, h2.same e⟩
  | dict es =>
    rcases h with ⟨kvs, h1, h2⟩ | ⟨kvs, h1, h2⟩
    · exact .inl ⟨kvs, e _ _ h1, h2.keep (fun b o q _ => e b o q) fun _ _ _ q => q⟩
    · exact .inr ⟨kvs, e _ _ h1, h2.keep (fun b o q _ => e b o q) fun _ _ _ q => q⟩
  | none => exact h.elim
  | bool _ => exact h.elim
  | int _ => exact h.elim
  | str _ => exact h.elim
  | tuple _ => exact h.elim
theorem Cont.some {K : PySem.W.Frag} {g : Addr → Prop} {a : Addr} {d : D} (h : Cont K H g a d) : ∃ o, H a = some o := by
  cases d with
  | list ds => obtain ⟨xs, h1, h2⟩ := h; exact ⟨_, h1⟩
  | dict es =>
    rcases h with ⟨kvs, h1, h2⟩ | ⟨kvs, h1, h2⟩
    · exact ⟨_, h1⟩
    · exact ⟨_, h1⟩
  | none => exact h.elim
  | bool _ => exact h.elim
  | int _ => exact h.elim
  | str _ => exact h.elim
  | tuple _ => exact h.elim
theorem SR.same (S : SR c σ H ρ O) (e : Same H H') : SR c σ H' ρ O where
  base := fun b o h n => e _ _ (S.base b o h n)
  there := fun b o h => let ⟨o', q⟩ := S.there b o h; ⟨o', e _ _ q⟩
  val := fun i d h => let ⟨v, h1, h2⟩ := S.val i d h; ⟨v, h1, h2.same e⟩
  own := fun i d h => let ⟨a, h1, h2, h3⟩ := S.own i d h; ⟨a, h1, h2, h3.same e⟩
  inj := S.inj
  fr := S.fr
  dom := S.dom
  len := S.len
  exc := S.exc
/-- what is owned is tracked, what stood stands -/
structure Trk (c : C) (O : Own) (H : Hp) : Prop where
  own : ∀ i a, O i = some a → (∃ o, H a = some o) ∧ c.okF a
  there : ∀ b o, c.H0 b = some o → ∃ o', H b = some o'
theorem SR.trk (S : SR c σ H ρ O) : Trk c O H := ⟨fun i a h => by
  obtain ⟨d, hd⟩ := S.dom i a h
  obtain ⟨b, h1, h2, h3⟩ := S.own i d hd
  rw [h] at h2; cases h2
  exact ⟨h3.some, (S.fr i a h).1⟩, S.there⟩
theorem Trk.same (t : Trk c O H) (e : Same H H') : Trk c O H' :=
  ⟨fun i a h => let ⟨⟨o, q⟩, k⟩ := t.own i a h; ⟨⟨o, e _ _ q⟩, k⟩, fun b o h => let ⟨o', q⟩ := t.there b o h; ⟨o', e _ _ q⟩⟩
/-- a new address is nobody's own -/
theorem Trk.free (t : Trk c O H) {p : Addr} (h : H p = none) : ∀ i, O i ≠ some p := fun i e => by
  obtain ⟨⟨o, q⟩, _⟩ := t.own i p e
  rw [h] at q; cases q
end

theorem same_upd {H : Hp} {p : Addr} {o : HO} (h : H p = none) : Same H (upd H p o) := fun b q e => by
  rw [upd_ne (ne_of_none e h)]; exact e

/-! ### judgements -/
/-- the strongest reading of an expression -/
def De (X : Cx) (e : Expr) : TE := fun σ H Q => ∀ pins s, Inv X pins σ H s → wpAny (model X.prog X.w) X.A (eval e X.env) (EP X pins σ Q) X.xe s
theorem pe_de {X : Cx} {e : Expr} : PE X e (De X e) := ⟨fun pins s σ H Q I h => h pins s I⟩
theorem de_of {X : Cx} {e : Expr} {t : TE} (h : PE X e t) {σ : L2.St} {H : Hp} {Q : VK} (q : t σ H Q) : De X e σ H Q := fun pins s I => h.run pins s σ H Q I q
def DeT (X : Cx) (e : Expr) : TT := fun σ H Q => ∀ pins s, Inv X pins σ H s → wpAny (model X.prog X.w) X.A (isTrue e X.env (eval e X.env)) (TP X pins σ Q) X.xe s
theorem pt_de {X : Cx} {e : Expr} : PT X e (DeT X e) := ⟨fun pins s σ H Q I h => h pins s I⟩
def DeA (X : Cx) (es : List Expr) : TA := fun σ H Q => ∀ pos pins s, Inv X pins σ H s → wpAny (model X.prog X.w) X.A (spliced (backTo pos (starEach es X.env))) (AP X pins σ Q) X.xe s
theorem pa_de {X : Cx} {es : List Expr} : PA X es (DeA X es) := ⟨fun pos pins s σ H Q I h => h pos pins s I⟩
theorem dea_of {X : Cx} {es : List Expr} {t : TA} (h : PA X es t) {σ : L2.St} {H : Hp} {Q : List V → Hp → Prop} (q : t σ H Q) : DeA X es σ H Q := fun pos pins s I => h.run pos pins s σ H Q I q

/-- clean, or a slot's own object (lent) -/
def RB (c : C) (O : Own) (H : Hp) (v : V) (d : D) : Prop := Rp c.X.K H (c.gd O) v d ∨ ∃ i a, O i = some a ∧ v = .ref a ∧ Cont c.X.K H (c.gd O) a d
/-- true: clean; false: may be lent -/
def RL (c : C) (O : Own) : Bool → Hp → V → D → Prop
  | true => fun H v d => Rp c.X.K H (c.gd O) v d
  | false => RB c O
inductive RLA (c : C) (O : Own) (lv : Bool) (H : Hp) : List V → List D → Prop
  | nil : RLA c O lv H [] []
  | cons {v : V} {vs : List V} {d : D} {ds : List D} : RL c O lv H v d → RLA c O lv H vs ds → RLA c O lv H (v :: vs) (d :: ds)
section
variable {c : C} {O : Own} {H H' : Hp} {v : V} {d : D} {lv : Bool}
theorem RB.same (e : Same H H') (h : RB c O H v d) : RB c O H' v d := by
  rcases h with h | ⟨i, a, h1, h2, h3⟩
  · exact .inl (h.same e)
  · exact .inr ⟨i, a, h1, h2, h3.same e⟩
theorem RL.same (e : Same H H') (h : RL c O lv H v d) : RL c O lv H' v d := by
  cases lv with
  | true => exact Rp.same e h
  | false => exact RB.same e h
theorem RL.b (h : RL c O lv H v d) : RB c O H v d := by
  cases lv with
  | true => exact .inl h
  | false => exact h
theorem RL.of (h : Rp c.X.K H (c.gd O) v d) : RL c O lv H v d := by
  cases lv with
  | true => exact h
  | false => exact .inl h
theorem RLA.same {vs : List V} {ds : List D} (e : Same H H') (h : RLA c O lv H vs ds) : RLA c O lv H' vs ds := by
  induction h with
  | nil => exact .nil
  | cons h _ ih => exact .cons (h.same e) ih
theorem RLA.all {vs : List V} {ds : List D} (h : RLA c O true H vs ds) : RpAll c.X.K H (c.gd O) vs ds := by
  induction h with
  | nil => exact .nil
  | cons h _ ih => exact .cons h ih
/-- with what is owned among the readable -/
theorem RB.okF (t : Trk c O H) (h : RB c O H v d) : Rp c.X.K H c.okF v d := by
  rcases h with h | ⟨i, a, h1, rfl, h3⟩
  · exact h.wide fun _ q => q.1
  · have ha := (t.own i a h1).2
    cases d with
    | list ds => obtain ⟨xs, q1, q2⟩ := h3; exact .lst ha (.inl q1) (q2.wide fun _ q => q.1)
    | dict es =>
      rcases h3 with ⟨kvs, q1, q2⟩ | ⟨kvs, q1, q2⟩
      · exact .dK ha (.inl q1) (q2.keep (fun _ _ q _ => q) fun _ _ _ q => q.1)
      · exact .dT ha (.inl q1) (q2.keep (fun _ _ q _ => q) fun _ _ _ q => q.1)
    | none => exact h3.elim
    | bool _ => exact h3.elim
    | int _ => exact h3.elim
    | str _ => exact h3.elim
    | tuple _ => exact h3.elim
theorem RLA.okF {vs : List V} {ds : List D} (t : Trk c O H) (h : RLA c O lv H vs ds) : RpAll c.X.K H c.okF vs ds := by
  induction h with
  | nil => exact .nil
  | cons h _ ih => exact .cons (h.b.okF t) ih
/-! the forms -/
theorem RB.int {i : Int} (h : RB c O H v (.int i)) : v = .int i := by
  rcases h with h | ⟨_, _, _, _, h⟩
  · cases h; rfl
  · exact h.elim
theorem RB.bl {b : Bool} (h : RB c O H v (.bool b)) : v = .bl b := by
  rcases h with h | ⟨_, _, _, _, h⟩
  · cases h; rfl
  · exact h.elim
theorem RB.non (h : RB c O H v .none) : v = .non := by
  rcases h with h | ⟨_, _, _, _, h⟩
  · cases h; rfl
  · exact h.elim
theorem RB.str {x : Str} (h : RB c O H v (.str x)) : v = .str x ∧ sOk x := by
  rcases h with h | ⟨_, _, _, _, h⟩
  · cases h with | str q => exact ⟨rfl, q⟩
  · exact h.elim
theorem RB.tup {ds : List D} (h : RB c O H v (.tuple ds)) : ∃ a xs, v = .ref a ∧ SqT c.X.K H a xs ∧ RpAll c.X.K H (c.gd O) xs ds := by
  rcases h with h | ⟨_, _, _, _, h⟩
  · cases h with | tup s r => exact ⟨_, _, rfl, s, r⟩
  · exact h.elim
theorem RB.lst {ds : List D} (h : RB c O H v (.list ds)) : ∃ a xs, v = .ref a ∧ SqL c.X.K H a xs ∧ RpAll c.X.K H (c.gd O) xs ds := by
  rcases h with h | ⟨i, a, _, rfl, xs, h1, h2⟩
  · cases h with
    | lst _ s r => exact ⟨_, _, rfl, .inl s, r⟩
    | lstK s r => exact ⟨_, _, rfl, .inr s, r⟩
  · exact ⟨a, xs, rfl, SqL.of h1, h2⟩
theorem RB.dic {es : List (D × D)} (h : RB c O H v (.dict es)) : ∃ a, v = .ref a ∧ ((∃ kvs, Rd H a (.dK kvs) ∧ RpKV c.X.K H (c.gd O) kvs es) ∨ ∃ kvs, Rd H a (.dT kvs) ∧ RpKT c.X.K H (c.gd O) kvs es) := by
  rcases h with h | ⟨i, a, _, rfl, h⟩
  · cases h with
    | dK _ s r => exact ⟨_, rfl, .inl ⟨_, s, r⟩⟩
    | dT _ s r => exact ⟨_, rfl, .inr ⟨_, s, r⟩⟩
  · rcases h with ⟨kvs, h1, h2⟩ | ⟨kvs, h1, h2⟩
    · exact ⟨a, rfl, .inl ⟨kvs, .inl h1, h2⟩⟩
    · exact ⟨a, rfl, .inr ⟨kvs, .inl h1, h2⟩⟩
/-! new objects -/
theorem Trk.gd {p : Addr} (t : Trk c O H) (h : H p = none) : c.gd O p := by
  refine ⟨.inr ?_, t.free h⟩
  cases e : c.H0 p with
  | none => rfl
  | some o =>
    obtain ⟨o', q⟩ := t.there p o e
    rw [h] at q; cases q
/-- a new tuple, a new list -/
theorem Rp.newT {p : Addr} {xs : List V} {ds : List D} (h : H p = none) (r : RpAll c.X.K H (c.gd O) xs ds) : Rp c.X.K (upd H p (.tup xs)) (c.gd O) (.ref p) (.tuple ds) :=
  .tup (SqT.of upd_same) (r.same (same_upd h))
theorem Rp.newL {p : Addr} {xs : List V} {ds : List D} (t : Trk c O H) (h : H p = none) (r : RpAll c.X.K H (c.gd O) xs ds) : Rp c.X.K (upd H p (.lst xs)) (c.gd O) (.ref p) (.list ds) :=
  .lst (t.gd h) (.inl upd_same) (r.same (same_upd h))
end

/-- what an expression's outcome asks -/
def EvP (c : C) (e : Expr) (σ : L2.St) (H : Hp) (P : Hp → V → D → Prop) : Except Str D → Prop
  | .ok d => ∀ Q : VK, (∀ v H', Same H H' → P H' v d → Q v H') → De c.X e σ H Q
  | .error x => (∀ A H', Same H H' → c.X.mg x = some (.ref A) → c.W (.ref A) none σ H') → ∀ Q, De c.X e σ H Q
/-- e is worth f, clean (true) or lent (false) -/
def Snd (c : C) (lv : Bool) (e : Expr) (f : Ex) : Prop := ∀ ρ σ H O, SR c σ H ρ O → ∀ r, f ρ = some r → EvP c e σ H (RL c O lv) r
theorem Snd.ok {c : C} {lv : Bool} {e : Expr} {f : Ex} (h : Snd c lv e f) {ρ : Rho} {σ : L2.St} {H : Hp} {O : Own} (S : SR c σ H ρ O) {d : D} (hf : f ρ = some (.ok d)) {Q : VK}
    (q : ∀ v H', Same H H' → RL c O lv H' v d → Q v H') : De c.X e σ H Q := h ρ σ H O S _ hf Q q
theorem Snd.er {c : C} {lv : Bool} {e : Expr} {f : Ex} (h : Snd c lv e f) {ρ : Rho} {σ : L2.St} {H : Hp} {O : Own} (S : SR c σ H ρ O) {x : Str} (hf : f ρ = some (.error x))
    (q : ∀ A H', Same H H' → c.X.mg x = some (.ref A) → c.W (.ref A) none σ H') {Q : VK} : De c.X e σ H Q := h ρ σ H O S _ hf q Q
theorem Snd.lend {c : C} {e : Expr} {f : Ex} (h : Snd c true e f) : Snd c false e f := fun ρ σ H O S r hf => by
  cases r with
  | ok d => exact fun Q q => h.ok S hf fun v H' e r => q v H' e (.inl r)
  | error x => exact fun q Q => h.er S hf q

/-! ### outcomes one after another -/
def eb {α β : Type} (x : Option (Except Str α)) (k : α → Option (Except Str β)) : Option (Except Str β) :=
  match x with
  | none => none
  | some (.error c) => some (.error c)
  | some (.ok a) => k a
theorem eb_ok {α β : Type} {x : Option (Except Str α)} {k : α → Option (Except Str β)} {b : β} (h : eb x k = some (.ok b)) : ∃ a, x = some (.ok a) ∧ k a = some (.ok b) := by
  cases x with
  | none => cases h
  | some y => cases y with
    | error e => cases h
    | ok a => exact ⟨a, rfl, h⟩
theorem eb_er {α β : Type} {x : Option (Except Str α)} {k : α → Option (Except Str β)} {e : Str} (h : eb x k = some (.error e)) : x = some (.error e) ∨ ∃ a, x = some (.ok a) ∧ k a = some (.error e) := by
  cases x with
  | none => cases h
  | some y => cases y with
    | error e' =>
      have : some (Except.error e') = some (.error e) := h
      cases this
      exact .inl rfl
    | ok a => exact .inr ⟨a, rfl, h⟩
/-- a plain function's answer -/
def pu (o : Option D) : Re := o.map .ok
theorem pu_ok {o : Option D} {d : D} (h : pu o = some (.ok d)) : o = some d := by
  cases o with
  | none => cases h
  | some x => cases h; rfl
theorem pu_er {o : Option D} {x : Str} (h : pu o = some (.error x)) : False := by
  cases o with
  | none => cases h
  | some y => cases h

/-! ### arguments -/
def cArgs : List Ex → Rho → Option (Except Str (List D))
  | [], _ => some (.ok [])
  | f :: r, ρ => eb (f ρ) fun d => eb (cArgs r ρ) fun ds => some (.ok (d :: ds))
def EvA (c : C) (es : List Expr) (σ : L2.St) (H : Hp) (P : Hp → List V → List D → Prop) : Except Str (List D) → Prop
  | .ok ds => ∀ Q : List V → Hp → Prop, (∀ vs H', Same H H' → P H' vs ds → Q vs H') → DeA c.X es σ H Q
  | .error x => (∀ A H', Same H H' → c.X.mg x = some (.ref A) → c.W (.ref A) none σ H') → ∀ Q, DeA c.X es σ H Q
def SndA (c : C) (lv : Bool) (es : List Expr) (fs : List Ex) : Prop := ∀ ρ σ H O, SR c σ H ρ O → ∀ r, cArgs fs ρ = some r → EvA c es σ H (RLA c O lv) r
def noStar : Expr → Bool
  | .Starred _ _ => false
  | _ => true
theorem star_cons {e : Expr} {es : List Expr} {env : Env} (h : noStar e = true) : starEach (e :: es) env = (false, eval e env) :: starEach es env := by
  cases e <;> first | rfl | cases h
theorem star_none {env : Env} (pos : Pos) : ∀ {es : List Expr}, es.all noStar = true → (backTo pos (starEach es env)).any (·.1) = false
  | [], _ => rfl
  | e :: es, h => by
    rw [List.all_cons, Bool.and_eq_true] at h
    rw [star_cons h.1]
    show (false || (backTo pos (starEach es env)).any (·.1)) = false
    rw [star_none pos h.2]
    rfl
theorem sndA_nil {c : C} {lv : Bool} : SndA c lv [] [] := fun ρ σ H O S r h => by
  cases h
  exact fun Q q => dea_of pa_nil (q [] H (Same.refl _) .nil)
theorem sndA_cons {c : C} {lv : Bool} {e : Expr} {es : List Expr} {f : Ex} {fs : List Ex} (hn : noStar e = true) (he : Snd c lv e f) (hs : SndA c lv es fs) : SndA c lv (e :: es) (f :: fs) := fun ρ σ H O S r h => by
  have pp := pa_cons (X := c.X) (pe_de (X := c.X) (e := e)) (pa_de (X := c.X) (es := es)) (star_cons hn)
  cases r with
  | ok ds =>
    obtain ⟨d, h1, h2⟩ := eb_ok h
    obtain ⟨ds', h3, h4⟩ := eb_ok h2
    cases h4
    intro Q q
    refine dea_of pp ?_
    refine he.ok S h1 fun v H1 e1 r1 => ?_
    refine hs ρ σ H1 O (S.same e1) _ h3 _ fun vs H2 e2 r2 => ?_
    exact q _ H2 (e1.trans e2) (.cons (r1.same e2) r2)
  | error x =>
    intro q Q
    refine dea_of pp ?_
    rcases eb_er h with h1 | ⟨d, h1, h2⟩
    · exact he.er S h1 q
    · refine he.ok S h1 fun v H1 e1 r1 => ?_
      rcases eb_er h2 with h3 | ⟨ds', h3, h4⟩
      · exact hs ρ σ H1 O (S.same e1) _ h3 (fun A H' e' m => q A H' (e1.trans e') m) _
      · cases h4
end Den

namespace Den
open PySem PySem.Spec PyProof.Rows L2
section
variable {c : C} {lv : Bool} {a b e : Expr} {f g : Ex} {pos : Pos}

/-! ### constants, names -/
def cD (d : D) : Ex := fun _ => some (.ok d)
theorem cD_inv {d : D} {ρ : Rho} {r : Except Str D} (h : cD d ρ = some r) : r = .ok d := by cases h; rfl
theorem snd_none {j} : Snd c lv (.Constant .none j pos) (cD .none) := fun ρ σ H O S r h => by
  rw [cD_inv h]; exact fun Q q => de_of pe_non (q _ _ (Same.refl _) (.of .non))
theorem snd_bool {j} {k : Bool} : Snd c lv (.Constant (.bool k) j pos) (cD (.bool k)) := fun ρ σ H O S r h => by
  rw [cD_inv h]; exact fun Q q => de_of pe_bl (q _ _ (Same.refl _) (.of (.bl k)))
theorem snd_int {j} {k : Int} : Snd c lv (.Constant (.int k) j pos) (cD (.int k)) := fun ρ σ H O S r h => by
  rw [cD_inv h]; exact fun Q q => de_of pe_int (q _ _ (Same.refl _) (.of (.int k)))
theorem snd_str {j} {x : Str} (hx : sOk x) : Snd c lv (.Constant (.str x) j pos) (cD (.str x)) := fun ρ σ H O S r h => by
  rw [cD_inv h]; exact fun Q q => de_of pe_str (q _ _ (Same.refl _) (.of (.str hx)))
/-- a name of the def; lent: a list or dict of its own too -/
def cVar (lv : Bool) (i : Nat) : Ex := fun ρ => match ρ[i]? with
  | some (some (Sl.val d)) => some (.ok d)
  | some (some (Sl.own d)) => if lv then none else some (.ok d)
  | _ => none
theorem snd_var {i : Nat} {x : Str} (hN : c.X.N[i]? = some x) (hv : Vis c.X.env.scope x) (hd : (x == ("__debug__" : Str)) = false) (hcd : (x == ("__classdict__" : Str)) = false) : Snd c lv (.Name x pos) (cVar lv i) := fun ρ σ H O S r h => by
  unfold cVar at h
  split at h
  · rename_i d hd'
    cases h
    obtain ⟨v, h1, h2⟩ := S.val i d hd'
    exact fun Q q => de_of (pe_var hN hv hd hcd) ⟨v, h1, q v H (Same.refl _) (.of h2)⟩
  · rename_i d hd'
    cases lv with
    | true => cases h
    | false =>
      cases h
      obtain ⟨u, h1, h2, h3⟩ := S.own i d hd'
      exact fun Q q => de_of (pe_var hN hv hd hcd) ⟨.ref u, h1, q _ H (Same.refl _) (.inr ⟨i, u, h2, rfl, h3⟩)⟩
  · cases h
/-- a constant of the module -/
theorem snd_glob {x : Str} {d : D} {v : V} {u : Value} (hg : Gl c.X x) (hm : c.X.mg x = some u) (r : RelV v u) (hr : ∀ H ok, Rp c.X.K H ok v d) (hd : (x == ("__debug__" : Str)) = false) : Snd c lv (.Name x pos) (cD d) := fun ρ σ H O S r' h => by
  rw [cD_inv h]; exact fun Q q => de_of (pe_glob hg hm r hd) (q _ _ (Same.refl _) (.of (hr _ _)))

/-! ### displays -/
def cTup (fs : List Ex) : Ex := fun ρ => eb (cArgs fs ρ) fun ds => some (.ok (.tuple ds))
def cLst (fs : List Ex) : Ex := fun ρ => eb (cArgs fs ρ) fun ds => some (.ok (.list ds))
theorem cArgs_len : ∀ {fs : List Ex} {ρ : Rho} {ds : List D}, cArgs fs ρ = some (.ok ds) → ds.length = fs.length
  | [], _, _, h => by cases h; rfl
  | f :: fs, ρ, ds, h => by
    obtain ⟨d, h1, h2⟩ := eb_ok h
    obtain ⟨ds', h3, h4⟩ := eb_ok h2
    cases h4
    simp [cArgs_len h3]
theorem snd_tup {es : List Expr} {fs : List Ex} {k} (hl : fs.length ≤ sizeLine) (h : SndA c true es fs) : Snd c lv (.Tuple es k pos) (cTup fs) := fun ρ σ H O S r hr => by
  cases r with
  | ok d =>
    obtain ⟨ds, h1, h2⟩ := eb_ok hr
    cases h2
    intro Q q
    refine de_of (pe_tup pa_de) ?_
    refine h ρ σ H O S _ h1 _ fun vs H1 e1 r1 => ⟨?_, fun p hp => ?_⟩
    · have := r1.all.len
      have h3 := cArgs_len h1
      omega
    · exact q _ _ (e1.trans (same_upd hp)) (.of (Rp.newT hp r1.all))
  | error x =>
    intro q Q
    refine de_of (pe_tup pa_de) ?_
    rcases eb_er hr with h1 | ⟨ds, _, h2⟩
    · exact h ρ σ H O S _ h1 q _
    · cases h2
theorem snd_lst {es : List Expr} {fs : List Ex} (hl : fs.length ≤ sizeLine) (h : SndA c true es fs) : Snd c lv (.List es pos) (cLst fs) := fun ρ σ H O S r hr => by
  cases r with
  | ok d =>
    obtain ⟨ds, h1, h2⟩ := eb_ok hr
    cases h2
    intro Q q
    refine de_of (pe_lst pa_de) ?_
    refine h ρ σ H O S _ h1 _ fun vs H1 e1 r1 => ⟨?_, fun p hp => ?_⟩
    · have := r1.all.len
      have h3 := cArgs_len h1
      omega
    · exact q _ _ (e1.trans (same_upd hp)) (.of (Rp.newL ((S.same e1).trk) hp r1.all))
  | error x =>
    intro q Q
    refine de_of (pe_lst pa_de) ?_
    rcases eb_er hr with h1 | ⟨ds, _, h2⟩
    · exact h ρ σ H O S _ h1 q _
    · cases h2

/-! ### operators -/
def cOp (op : D → D → Option D) (f g : Ex) : Ex := fun ρ => eb (f ρ) fun x => eb (g ρ) fun y => pu (op x y)
/-- the operation f does op on data -/
def OpD (c : C) (f : Value → Value → Sem Value) (op : D → D → Option D) : Prop :=
  ∃ r : R2, OpR c.X f r ∧ ∀ (O : Own) (H : Hp) (x y : V) (a b d : D), Trk c O H → RB c O H x a → RB c O H y b → op a b = some d →
    ∀ Q : VK, (∀ v H', Same H H' → Rp c.X.K H' (c.gd O) v d → Q v H') → r x y H Q
/-- two parts, from the left -/
theorem two_ok {lv1 lv2 : Bool} (ha : Snd c lv1 a f) (hb : Snd c lv2 b g) {ρ : Rho} {σ : L2.St} {H : Hp} {O : Own} (S : SR c σ H ρ O) {x y : D} (h1 : f ρ = some (.ok x)) (h2 : g ρ = some (.ok y)) {R : V → V → Hp → Prop}
    (q : ∀ v w H2, Same H H2 → RB c O H2 v x → RB c O H2 w y → R v w H2) : De c.X a σ H fun v H1 => De c.X b σ H1 fun w H2 => R v w H2 :=
  ha.ok S h1 fun v H1 e1 r1 => hb.ok (S.same e1) h2 fun w H2 e2 r2 => q v w H2 (e1.trans e2) (r1.b.same e2) r2.b
theorem two_er {lv1 lv2 : Bool} (ha : Snd c lv1 a f) (hb : Snd c lv2 b g) {ρ : Rho} {σ : L2.St} {H : Hp} {O : Own} (S : SR c σ H ρ O) {z : Str} (h : f ρ = some (.error z) ∨ ∃ x, f ρ = some (.ok x) ∧ g ρ = some (.error z))
    (q : ∀ A H', Same H H' → c.X.mg z = some (.ref A) → c.W (.ref A) none σ H') {R : V → V → Hp → Prop} : De c.X a σ H fun v H1 => De c.X b σ H1 fun w H2 => R v w H2 := by
  rcases h with h | ⟨x, h1, h2⟩
  · exact ha.er S h q
  · exact ha.ok S h1 fun v H1 e1 r1 => hb.er (S.same e1) h2 fun A H' e' m => q A H' (e1.trans e') m
theorem cOp_ok {op : D → D → Option D} {ρ : Rho} {d : D} (h : cOp op f g ρ = some (.ok d)) : ∃ x y, f ρ = some (.ok x) ∧ g ρ = some (.ok y) ∧ op x y = some d := by
  obtain ⟨x, h1, h2⟩ := eb_ok h
  obtain ⟨y, h3, h4⟩ := eb_ok h2
  exact ⟨x, y, h1, h3, pu_ok h4⟩
theorem cOp_er {op : D → D → Option D} {ρ : Rho} {z : Str} (h : cOp op f g ρ = some (.error z)) : f ρ = some (.error z) ∨ ∃ x, f ρ = some (.ok x) ∧ g ρ = some (.error z) := by
  rcases eb_er h with h | ⟨x, h1, h2⟩
  · exact .inl h
  · rcases eb_er h2 with h | ⟨y, h3, h4⟩
    · exact .inr ⟨x, h1, h⟩
    · exact (pu_er h4).elim
theorem snd_bin {op : Operator} {o : D → D → Option D} (ho : OpD c (binaryOp op) o) (ha : Snd c false a f) (hb : Snd c false b g) : Snd c lv (.BinOp a op b pos) (cOp o f g) := fun ρ σ H O S r h => by
  obtain ⟨rr, h1, h2⟩ := ho
  cases r with
  | ok d =>
    obtain ⟨x, y, e1, e2, e3⟩ := cOp_ok h
    intro Q q
    exact de_of (pe_op h1 pe_de pe_de) (two_ok ha hb S e1 e2 fun v w H2 s rv rw' => h2 O H2 v w x y d (S.same s).trk rv rw' e3 Q fun v' H' s' r' => q v' H' (s.trans s') (.of r'))
  | error z => exact fun q Q => de_of (pe_op h1 pe_de pe_de) (two_er ha hb S (cOp_er h) q)
def notSet : Expr → Bool
  | .Set _ _ _ => false
  | _ => true
theorem mark_ok {op : CmpOp} {b : Expr} (h : notSet b = true) : behindInMarks op b = false := by
  cases b <;> first | rfl | cases h
theorem snd_cmp {op : CmpOp} {o : D → D → Option D} (ho : OpD c (compareOp op) o) (ha : Snd c false a f) (hb : Snd c false b g) (hm : notSet b = true) : Snd c lv (.Compare a [op] [b] pos) (cOp o f g) := fun ρ σ H O S r h => by
  obtain ⟨rr, h1, h2⟩ := ho
  cases r with
  | ok d =>
    obtain ⟨x, y, e1, e2, e3⟩ := cOp_ok h
    intro Q q
    exact de_of (pe_cmpR h1 pe_de pe_de (mark_ok hm)) (two_ok ha hb S e1 e2 fun v w H2 s rv rw' => h2 O H2 v w x y d (S.same s).trk rv rw' e3 Q fun v' H' s' r' => q v' H' (s.trans s') (.of r'))
  | error z => exact fun q Q => de_of (pe_cmpR h1 pe_de pe_de (mark_ok hm)) (two_er ha hb S (cOp_er h) q)
end
end Den

namespace Den
open PySem PySem.Spec PyProof.Rows L2
/-! ### a text times an int -/
def repS (z : Str) (n : Nat) : Str := ⟨(List.replicate n z.cps).foldl (· ++ ·) #[]⟩
def rRepS : R2 := fun x y H Q => ∃ (z : Str) (k : Int), x = .str z ∧ y = .int k ∧ 1 ≤ k ∧ k ≤ 1000 ∧ z.length ≤ 1000 ∧ Q (.str (repS z k.toNat)) H
theorem foldl_rep (a : Array Nat) : ∀ (n : Nat) (b : Array Nat), ((List.replicate n a).foldl (· ++ ·) b).toList = b.toList ++ (List.replicate n a.toList).flatten
  | 0, b => by simp
  | n + 1, b => by
    rw [List.replicate_succ, List.foldl_cons, foldl_rep a n (b ++ a), List.replicate_succ, List.flatten_cons, Array.toList_append, List.append_assoc]
theorem repS_list (z : Str) (n : Nat) : (repS z n).cps.toList = (List.replicate n z.cps.toList).flatten := by
  have := foldl_rep z.cps n #[]
  rw [show (#[] : Array Nat).toList = [] from rfl, List.nil_append] at this
  exact this
theorem repS_len (z : Str) (n : Nat) : (repS z n).length = n * z.length := by
  have h : (repS z n).cps.toList.length = n * z.cps.toList.length := by rw [repS_list]; simp
  simpa [Str.length] using h
theorem repS_one (z : Str) : repS z 1 = z := by
  cases z
  unfold repS
  simp
theorem repS_nil (z : Str) (n : Nat) (h : z.length = 0) : repS z n = z := by
  obtain ⟨a⟩ := z
  have e : a = #[] := by simpa [Str.length] using h
  subst e
  have : (repS ⟨#[]⟩ n).cps.toList = [] := by rw [repS_list]; simp
  have h2 : (repS ⟨#[]⟩ n).cps = #[] := by simpa using this
  show (⟨(repS ⟨#[]⟩ n).cps⟩ : Str) = _
  rw [h2]
theorem sOk_rep {z : Str} {n : Nat} (hz : sOk z) (h : n * z.length ≤ sizeLine) : sOk (repS z n) := by
  refine ⟨?_, by rw [repS_len]; exact h⟩
  have h1 := hz.1
  unfold PyData.strOk at h1 ⊢
  rw [Array.all_eq_true'] at h1 ⊢
  intro k hk
  have hk : k ∈ (repS z n).cps.toList := Array.mem_toList_iff.mpr hk
  rw [repS_list] at hk
  simp only [List.mem_flatten, List.mem_replicate] at hk
  obtain ⟨l, ⟨_, rfl⟩, hl⟩ := hk
  exact h1 k (Array.mem_toList_iff.mp hl)
theorem op_repS {X : Cx} : OpR X (binaryOp .Mult) rRepS := by
  intro pins s σ H x y v u Q I rx ry h
  obtain ⟨z, k, rfl, rfl, h1, h2, h3, q⟩ := h
  obtain ⟨t, rfl⟩ := rx
  obtain ⟨t', rfl⟩ := ry
  refine PySem.P.mul_str ?_ ?_ ?_ ?_
  · rw [decide_eq_false (by omega), decide_eq_false (by omega)]; rfl
  · intro _ _
    have : (1000 : Int) ≤ (2 ^ 63 - 1) / k := by
      rw [Int.le_ediv_iff_mul_le (by omega)]
      omega
    omega
  · intro _ _
    show decide (_ > sizeLine) = false
    have hh : z.length * k.toNat ≤ 1000 * 1000 := Nat.mul_le_mul h3 (by omega)
    have := sizeLine_eq
    simp only [decide_eq_false_iff_not]
    omega
  · rw [if_neg (by omega)]
    have fin : ∀ tk, (EP X pins σ Q) (.str (repS z k.toNat) tk) { s with toks := s.toks + 1 } := fun tk => ⟨.str (repS z k.toNat), H, I.kept (t' := s.toks + 1) fun _ _ z => z, ⟨tk, rfl⟩, q⟩
    split
    · rename_i hc
      have e : repS z k.toNat = z := by
        rw [Bool.or_eq_true] at hc
        rcases hc with hc | hc
        · have : k = 1 := by simpa using hc
          subst this
          exact repS_one z
        · exact repS_nil z _ (by simpa using hc)
      exact ⟨.str z, H, I, ⟨t, rfl⟩, by rw [← e]; exact q⟩
    · exact ⟨by have e := repS_len z k.toNat; have := sizeLine_eq; have h9 : k.toNat * z.length ≤ 1000 * 1000 := Nat.mul_le_mul (by omega) h3; show (repS z k.toNat).length ≤ sizeLine; omega, fin _⟩
end Den

namespace Den
open PySem PySem.Spec PyProof.Rows L2

theorem same_nil {H : Hp} : Same H H := Same.refl H

/-! ### the operations on data -/
def bI (b : Bool) : Int := if b then 1 else 0
def dAdd : D → D → Option D
  | .int i, .int j => some (.int (i + j))
  | .int i, .bool b => some (.int (i + b2i b))
  | .str x, .str y => if x.length + y.length ≤ sizeLine then some (.str (x ++ y)) else none
  | .tuple a, .tuple b => if a.length + b.length ≤ sizeLine then some (.tuple (a ++ b)) else none
  | .list a, .list b => if a.length + b.length ≤ sizeLine then some (.list (a ++ b)) else none
  | _, _ => none
def dSub : D → D → Option D
  | .int i, .int j => some (.int (i - j))
  | _, _ => none
def small64 (i : Int) : Bool := decide (-(2 ^ 64) < i) && decide (i < 2 ^ 64)
def dMul : D → D → Option D
  | .int i, .int j => if small64 i || small64 j then some (.int (i * j)) else none
  | .tuple l, .int k => if !l.isEmpty && decide (2 ≤ k) && decide (k ≤ 1000) && decide (l.length ≤ 1000) then some (.tuple (List.replicate k.toNat l).flatten) else none
  | .str z, .int k => if decide (1 ≤ k) && decide (k ≤ 1000) && decide (z.length ≤ 1000) then some (.str (repS z k.toNat)) else none
  | _, _ => none
def dFdiv : D → D → Option D
  | .int i, .int j => if decide (0 < j) && small64 j then some (.int (i / j)) else none
  | _, _ => none
def dMod : D → D → Option D
  | .int i, .int j => if 0 < j then some (.int (i % j)) else none
  | _, _ => none
def dPow : D → D → Option D
  | .int i, .int j => if decide (0 ≤ j) && decide (j ≤ 1000000) && decide (i.natAbs < 2 ^ 64) then some (.int (i ^ j.toNat)) else none
  | _, _ => none
def dEq (a b : D) : Option D := if nd a && nd b && decide (min a.depth b.depth ≤ 64) then some (.bool (PyData.eqv a b)) else none
def dNe (a b : D) : Option D := if nd a && nd b && decide (min a.depth b.depth ≤ 64) then some (.bool (!PyData.eqv a b)) else none
def dLt (a b : D) : Option D := match a, b with
  | .int i, .int j => some (.bool (decide (i < j)))
  | .tuple x, .tuple y => if nd (.tuple x) && nd (.tuple y) && PySem.W.alike (.tuple x) (.tuple y) && decide (min (PyData.tuple x).depth (PyData.tuple y).depth ≤ 64) then some (.bool (PySem.W.dataLt (.tuple x) (.tuple y))) else none
  | _, _ => none
def dLe : D → D → Option D
  | .int i, .int j => some (.bool (decide (i ≤ j)))
  | _, _ => none
def dGt : D → D → Option D
  | .int i, .int j => some (.bool (decide (j < i)))
  | _, _ => none
def dGe : D → D → Option D
  | .int i, .int j => some (.bool (decide (j ≤ i)))
  | _, _ => none
def dIs : D → D → Option D
  | .bool a, .bool b => some (.bool (decide (a = b)))
  | .none, .none => some (.bool true)
  | .bool _, .none => some (.bool false)
  | .int _, .none => some (.bool false)
  | .str _, .none => some (.bool false)
  | .list _, .none => some (.bool false)
  | .tuple _, .none => some (.bool false)
  | .dict _, .none => some (.bool false)
  | _, _ => none
def dNot1 : Option D → Option D
  | some (.bool b) => some (.bool (!b))
  | _ => none
def dIsNot (a b : D) : Option D := dNot1 (dIs a b)
/-- x in y, y no dict -/
def dIn (x y : D) : Option D := match y with
  | .str s => match x with
    | .str t => match t.cps.toList with
      | [k] => some (.bool (decide (k ∈ s.cps.toList)))
      | _ => none
    | _ => none
  | .tuple l => if nd x && ndAll l && decide (min (PyData.depthAll l) x.depth ≤ 64) then some (.bool (l.any fun y => PyData.eqv y x)) else none
  | .list l => if nd x && ndAll l && decide (min (PyData.depthAll l) x.depth ≤ 64) then some (.bool (l.any fun y => PyData.eqv y x)) else none
  | _ => none
def dNotIn (x y : D) : Option D := dNot1 (dIn x y)

/-! ### texts stay sound -/
theorem strOk_app {x y : Str} (hx : PyData.strOk x = true) (hy : PyData.strOk y = true) : PyData.strOk (x ++ y) = true := by
  have e : (x ++ y).cps = x.cps ++ y.cps := rfl
  unfold PyData.strOk at *
  rw [e, Array.all_append, hx, hy]
  rfl
theorem len_app (x y : Str) : (x ++ y).length = x.length + y.length := by
  show (x.cps ++ y.cps).size = _
  rw [Array.size_append]
  rfl

section
variable {c : C}
/-- a list read, concatenated -/
def rCatS (K : PySem.W.Frag) : R2 := fun x y H Q => ∃ a b xs zs, x = .ref a ∧ y = .ref b ∧ SqL K H a xs ∧ SqL K H b zs ∧ xs.length + zs.length ≤ sizeLine ∧ ∀ p, H p = none → Q (.ref p) (upd H p (.lst (xs ++ zs)))
theorem op_catS {X : Cx} : OpR X (binaryOp .Add) (rCatS X.K) := by
  intro pins s σ H x y v u Q I rx ry h
  obtain ⟨l, b, xs, zs, rfl, rfl, hH, hB, hz, q⟩ := h
  cases rx
  cases ry
  obtain ⟨its, r, p, hl⟩ := I.list hH
  obtain ⟨its2, r2, p2, hl2⟩ := I.list hB
  obtain ⟨⟨cls, dd, data, sl⟩, n, ho, hc, hd0, hd⟩ := p
  obtain ⟨⟨cls2, dd2, data2, sl2⟩, n2, ho2, hc2, hd02, hd2⟩ := p2
  simp only at hc hd hc2 hd2
  subst hc hd hc2 hd2
  have e : its.toArray ++ its2.toArray = (its ++ its2).toArray := by simp
  have z1 := r.length
  have z2 := r2.length
  refine concat_meets ⟨_, ho, rfl⟩ ⟨_, ho2, rfl⟩ noFill_list_add seq_list_add PySem.F.slot_list_add PySem.F.entry_list_add (PySem.F.args_list_add_2 _ _) (list_addW l b its.toArray its2.toArray n n2 dd dd2 sl sl2 (by simp; omega)) ⟨ho, ho2, ?_⟩
  rw [e]
  exact ⟨.ref _, _, I.lnew (t' := s.toks) (r.append r2) (by rw [List.length_append]; omega), rfl, q _ I.fresh⟩

theorem RpAll.isNil {K : PySem.W.Frag} {H : Hp} {ok : Addr → Prop} {xs : List V} {ds : List D} (r : RpAll K H ok xs ds) : xs = [] ↔ ds = [] := by
  cases r <;> simp

theorem opd_add : OpD c (binaryOp .Add) dAdd := by
  refine ⟨_, OpR.or op_add (OpR.or op_add_ib (OpR.or op_add_str (OpR.or op_catA op_catS))), ?_⟩
  intro O H x y a b d t ra rb e Q q
  unfold dAdd at e
  split at e
  · cases e
    rw [ra.int, rb.int]
    exact .inl ⟨_, _, rfl, rfl, q _ _ same_nil (.int _)⟩
  · cases e
    rw [ra.int, rb.bl]
    exact .inr (.inl ⟨_, _, rfl, rfl, q _ _ same_nil (.int _)⟩)
  · split at e
    · rename_i hl
      cases e
      obtain ⟨rfl, h1⟩ := ra.str
      obtain ⟨rfl, h2⟩ := rb.str
      exact .inr (.inr (.inl ⟨_, _, rfl, rfl, hl, q _ _ same_nil (.str ⟨strOk_app h1.1 h2.1, by rw [len_app]; exact hl⟩)⟩))
    · cases e
  · split at e
    · rename_i hl
      cases e
      obtain ⟨p1, xs, rfl, s1, r1⟩ := ra.tup
      obtain ⟨p2, ys, rfl, s2, r2⟩ := rb.tup
      have z1 := r1.len
      have z2 := r2.len
      refine .inr (.inr (.inr (.inl ⟨p1, p2, xs, ys, rfl, rfl, s1, s2, by omega, fun hx => ?_, fun hx hy => ?_, fun hx hy p hp => ?_⟩)))
      · subst hx
        cases r1
        exact q _ _ same_nil (.tup s2 r2)
      · subst hy
        cases r2
        rw [List.append_nil] at q
        exact q _ _ same_nil (.tup s1 r1)
      · exact q _ _ (same_upd hp) (Rp.newT hp (r1.app r2))
    · cases e
  · split at e
    · rename_i hl
      cases e
      obtain ⟨p1, xs, rfl, s1, r1⟩ := ra.lst
      obtain ⟨p2, ys, rfl, s2, r2⟩ := rb.lst
      have z1 := r1.len
      have z2 := r2.len
      exact .inr (.inr (.inr (.inr ⟨p1, p2, xs, ys, rfl, rfl, s1, s2, by omega, fun p hp => q _ _ (same_upd hp) (Rp.newL t hp (r1.app r2))⟩)))
    · cases e
  · cases e
theorem opd_sub : OpD c (binaryOp .Sub) dSub := by
  refine ⟨_, op_sub, ?_⟩
  intro O H x y a b d t ra rb e Q q
  unfold dSub at e
  split at e
  · cases e
    rw [ra.int, rb.int]
    exact ⟨_, _, rfl, rfl, q _ _ same_nil (.int _)⟩
  · cases e
theorem small64_iff {i : Int} (h : small64 i = true) : -(2 ^ 64) < i ∧ i < 2 ^ 64 := by
  unfold small64 at h
  rw [Bool.and_eq_true] at h
  exact ⟨of_decide_eq_true h.1, of_decide_eq_true h.2⟩
theorem RpAll.rep {K : PySem.W.Frag} {H : Hp} {ok : Addr → Prop} {xs : List V} {ds : List D} (h : RpAll K H ok xs ds) : ∀ k : Nat, RpAll K H ok (List.replicate k xs).flatten (List.replicate k ds).flatten
  | 0 => .nil
  | k + 1 => by
    rw [List.replicate_succ, List.replicate_succ, List.flatten_cons, List.flatten_cons]
    exact h.app (RpAll.rep h k)
theorem opd_mul : OpD c (binaryOp .Mult) dMul := by
  refine ⟨_, OpR.or (OpR.or op_mul op_repT) op_repS, ?_⟩
  intro O H x y a b d t ra rb e Q q
  unfold dMul at e
  split at e
  · split at e
    · rename_i hl
      cases e
      rw [ra.int, rb.int]
      rw [Bool.or_eq_true] at hl
      exact .inl (.inl ⟨_, _, rfl, rfl, hl.imp small64_iff small64_iff, q _ _ same_nil (.int _)⟩)
    · cases e
  · split at e
    · rename_i l k hl
      cases e
      simp only [Bool.and_eq_true, decide_eq_true_eq, Bool.not_eq_true', List.isEmpty_eq_false_iff] at hl
      obtain ⟨⟨⟨h1, h2⟩, h3⟩, h4⟩ := hl
      obtain ⟨p1, xs, rfl, s1, r1⟩ := ra.tup
      rw [rb.int]
      have z1 := r1.len
      exact .inl (.inr ⟨p1, _, xs, rfl, rfl, s1, fun z => h1 (r1.isNil.mp z), h2, h3, by omega, fun p hp => q _ _ (same_upd hp) (Rp.newT hp (r1.rep _))⟩)
    · cases e
  · split at e
    · rename_i z k hl
      cases e
      simp only [Bool.and_eq_true, decide_eq_true_eq] at hl
      obtain ⟨⟨h1, h2⟩, h3⟩ := hl
      obtain ⟨rfl, hz⟩ := ra.str
      rw [rb.int]
      refine .inr ⟨z, k, rfl, rfl, h1, h2, h3, q _ _ same_nil (.str (sOk_rep hz ?_))⟩
      have := sizeLine_eq
      have h9 : k.toNat * z.length ≤ 1000 * 1000 := Nat.mul_le_mul (by omega) h3
      omega
    · cases e
  · cases e
theorem opd_fdiv : OpD c (binaryOp .FloorDiv) dFdiv := by
  refine ⟨_, op_fdivW, ?_⟩
  intro O H x y a b d t ra rb e Q q
  unfold dFdiv at e
  split at e
  · split at e
    · rename_i hl
      cases e
      rw [ra.int, rb.int]
      rw [Bool.and_eq_true] at hl
      obtain ⟨h1, h2⟩ := hl
      have h1 := of_decide_eq_true h1
      have h2 := small64_iff h2
      exact ⟨_, _, rfl, rfl, wide_div (b := 64) h1 (by omega) (by decide) (by decide), q _ _ same_nil (.int _)⟩
    · cases e
  · cases e
theorem opd_mod : OpD c (binaryOp .Mod) dMod := by
  refine ⟨_, op_mod, ?_⟩
  intro O H x y a b d t ra rb e Q q
  unfold dMod at e
  split at e
  · split at e
    · rename_i hl
      cases e
      rw [ra.int, rb.int]
      exact ⟨_, _, rfl, rfl, hl, q _ _ same_nil (.int _)⟩
    · cases e
  · cases e
theorem opd_pow : OpD c (binaryOp .Pow) dPow := by
  refine ⟨_, op_pow, ?_⟩
  intro O H x y a b d t ra rb e Q q
  unfold dPow at e
  split at e
  · split at e
    · rename_i hl
      cases e
      rw [ra.int, rb.int]
      simp only [Bool.and_eq_true, decide_eq_true_eq] at hl
      exact ⟨_, _, rfl, rfl, ⟨hl.1.1, hl.1.2, hl.2⟩, q _ _ same_nil (.int _)⟩
    · cases e
  · cases e

/-! ### == and != of data -/
def rEqM (K : PySem.W.Frag) (neg : Bool) : R2 := fun x y H Q => ∃ d e, Dp K H x d ∧ Dp K H y e ∧ d.canLay0 = true ∧ e.canLay0 = true ∧ min d.depth e.depth ≤ 64 ∧ Q (.bl (if neg then !PyData.eqv d e else PyData.eqv d e)) H
theorem op_eqM {X : Cx} (hu : X.A.units + 64 < cLine) : OpR X (compareOp .Eq) (rEqM X.K false) := by
  intro pins s σ H x y v u Q I rx ry h
  obtain ⟨d, e, hd, he, l1, l2, hm, q⟩ := h
  obtain ⟨as, r1⟩ := Dp.reads I d x v hd rx
  obtain ⟨bs, r2⟩ := Dp.reads I e y u he ry
  exact SeqAt.compareEq_reads r1 r2 l1 l2 (by omega) ⟨.bl _, H, I, rfl, q⟩
theorem op_neM {X : Cx} (hu : X.A.units + 64 < cLine) : OpR X (compareOp .NotEq) (rEqM X.K true) := by
  intro pins s σ H x y v u Q I rx ry h
  obtain ⟨d, e, hd, he, l1, l2, hm, q⟩ := h
  obtain ⟨as, r1⟩ := Dp.reads I d x v hd rx
  obtain ⟨bs, r2⟩ := Dp.reads I e y u he ry
  exact SeqAt.compareNe_reads r1 r2 l1 l2 (by omega) ⟨.bl _, H, I, rfl, q⟩
theorem opd_eq (hu : c.X.A.units + 64 < cLine) : OpD c (compareOp .Eq) dEq := by
  refine ⟨_, op_eqM hu, ?_⟩
  intro O H x y a b d t ra rb e Q q
  unfold dEq at e
  split at e
  · rename_i hl
    cases e
    simp only [Bool.and_eq_true, decide_eq_true_eq] at hl
    obtain ⟨h1, h2⟩ := (ra.okF t).dp hl.1.1
    obtain ⟨h3, h4⟩ := (rb.okF t).dp hl.1.2
    exact ⟨a, b, h1, h3, h2, h4, hl.2, q _ _ same_nil (.bl _)⟩
  · cases e
theorem opd_ne (hu : c.X.A.units + 64 < cLine) : OpD c (compareOp .NotEq) dNe := by
  refine ⟨_, op_neM hu, ?_⟩
  intro O H x y a b d t ra rb e Q q
  unfold dNe at e
  split at e
  · rename_i hl
    cases e
    simp only [Bool.and_eq_true, decide_eq_true_eq] at hl
    obtain ⟨h1, h2⟩ := (ra.okF t).dp hl.1.1
    obtain ⟨h3, h4⟩ := (rb.okF t).dp hl.1.2
    exact ⟨a, b, h1, h3, h2, h4, hl.2, q _ _ same_nil (.bl _)⟩
  · cases e
/-! ### order -/
def rLtM (K : PySem.W.Frag) : R2 := fun x y H Q => ∃ d e, Dp K H x d ∧ Dp K H y e ∧ PySem.W.alike d e = true ∧ d ≠ .none ∧ min d.depth e.depth ≤ 64 ∧ Q (.bl (PySem.W.dataLt d e)) H
theorem op_ltM {X : Cx} (hu : X.A.units + 64 < cLine) : OpR X (compareOp .Lt) (rLtM X.K) := by
  intro pins s σ H x y v u Q I rx ry h
  obtain ⟨d, e, hd, he, l1, l2, hm, q⟩ := h
  obtain ⟨as, r1⟩ := Dp.reads I d x v hd rx
  obtain ⟨bs, r2⟩ := Dp.reads I e y u he ry
  exact PySem.W.rcLt_alike d e X.A s v u as bs r1 r2 l1 l2 (by omega) _ _ _ _ ⟨.bl _, H, I, rfl, q⟩
theorem opd_lt (hu : c.X.A.units + 64 < cLine) : OpD c (compareOp .Lt) dLt := by
  refine ⟨_, OpR.or op_lt (op_ltM hu), ?_⟩
  intro O H x y a b d t ra rb e Q q
  unfold dLt at e
  split at e
  · cases e
    rw [ra.int, rb.int]
    exact .inl ⟨_, _, rfl, rfl, q _ _ same_nil (.bl _)⟩
  · split at e
    · rename_i hl
      cases e
      simp only [Bool.and_eq_true, decide_eq_true_eq] at hl
      obtain ⟨h1, h2⟩ := (ra.okF t).dp hl.1.1.1
      obtain ⟨h3, h4⟩ := (rb.okF t).dp hl.1.1.2
      exact .inr ⟨_, _, h1, h3, hl.1.2, (by intro z; cases z), hl.2, q _ _ same_nil (.bl _)⟩
    · cases e
  · cases e
theorem opd_le : OpD c (compareOp .LtE) dLe := by
  refine ⟨_, op_le, ?_⟩
  intro O H x y a b d t ra rb e Q q
  unfold dLe at e
  split at e
  · cases e
    rw [ra.int, rb.int]
    exact ⟨_, _, rfl, rfl, q _ _ same_nil (.bl _)⟩
  · cases e
theorem opd_gt : OpD c (compareOp .Gt) dGt := by
  refine ⟨_, op_gt, ?_⟩
  intro O H x y a b d t ra rb e Q q
  unfold dGt at e
  split at e
  · cases e
    rw [ra.int, rb.int]
    exact ⟨_, _, rfl, rfl, q _ _ same_nil (.bl _)⟩
  · cases e
theorem opd_ge : OpD c (compareOp .GtE) dGe := by
  refine ⟨_, op_ge, ?_⟩
  intro O H x y a b d t ra rb e Q q
  unfold dGe at e
  split at e
  · cases e
    rw [ra.int, rb.int]
    exact ⟨_, _, rfl, rfl, q _ _ same_nil (.bl _)⟩
  · cases e
/-! ### is -/
theorem dIs_cases {a b d : D} (h : dIs a b = some d) : (∃ i j, a = .bool i ∧ b = .bool j ∧ d = .bool (decide (i = j))) ∨ (b = .none ∧ a = .none ∧ d = .bool true) ∨ (b = .none ∧ a ≠ .none ∧ d = .bool false) := by
  unfold dIs at h
  split at h <;> first
    | (cases h; exact .inl ⟨_, _, rfl, rfl, rfl⟩)
    | (cases h; exact .inr (.inl ⟨rfl, rfl, rfl⟩))
    | (cases h; exact .inr (.inr ⟨rfl, (by intro z; cases z), rfl⟩))
    | cases h
theorem RB.non_iff {O : Own} {H : Hp} {v : V} {a : D} (h : RB c O H v a) (n : a ≠ .none) : v ≠ .non := by
  rintro rfl
  rcases h with h | ⟨_, _, _, h, _⟩
  · cases h; exact n rfl
  · cases h
theorem opd_is : OpD c (compareOp .Is) dIs := by
  refine ⟨_, OpR.or op_isBl op_isN, ?_⟩
  intro O H x y a b d t ra rb e Q q
  rcases dIs_cases e with ⟨i, j, rfl, rfl, rfl⟩ | ⟨rfl, rfl, rfl⟩ | ⟨rfl, n, rfl⟩
  · rw [ra.bl, rb.bl]
    exact .inl ⟨_, _, rfl, rfl, q _ _ same_nil (.bl _)⟩
  · rw [ra.non, rb.non]
    exact .inr ⟨rfl, q _ _ same_nil (.bl _)⟩
  · rw [rb.non]
    refine .inr ⟨rfl, ?_⟩
    rw [decide_eq_false (ra.non_iff n)]
    exact q _ _ same_nil (.bl _)
theorem dNot1_some {o : Option D} {d : D} (h : dNot1 o = some d) : ∃ b, o = some (.bool b) ∧ d = .bool (!b) := by
  unfold dNot1 at h
  split at h
  · cases h; exact ⟨_, rfl, rfl⟩
  · cases h
theorem opd_isnot : OpD c (compareOp .IsNot) dIsNot := by
  refine ⟨_, OpR.or op_notBl op_notN, ?_⟩
  intro O H x y a b d t ra rb e Q q
  obtain ⟨k, e1, rfl⟩ := dNot1_some e
  rcases dIs_cases e1 with ⟨i, j, rfl, rfl, e2⟩ | ⟨rfl, rfl, e2⟩ | ⟨rfl, n, e2⟩
  · cases e2
    rw [ra.bl, rb.bl]
    exact .inl ⟨_, _, rfl, rfl, q _ _ same_nil (.bl _)⟩
  · cases e2
    rw [ra.non, rb.non]
    exact .inr ⟨rfl, q _ _ same_nil (.bl _)⟩
  · cases e2
    rw [rb.non]
    refine .inr ⟨rfl, ?_⟩
    rw [decide_eq_false (ra.non_iff n)]
    exact q _ _ same_nil (.bl _)
/-! ### in -/
def rInM (K : PySem.W.Frag) (neg : Bool) : R2 := fun x y H Q => ∃ d l, Dp K H x d ∧ (Dp K H y (.list l) ∨ Dp K H y (.tuple l)) ∧ d.canLay0 = true ∧ PyData.canLayAll0 l = true ∧ min (PyData.depthAll l) d.depth ≤ 64 ∧
  Q (.bl (if neg then !l.any (fun z => PyData.eqv z d) else l.any fun z => PyData.eqv z d)) H
theorem op_inM {X : Cx} (hu : X.A.units + 65 < cLine) : OpR X (compareOp .In) (rInM X.K false) := by
  intro pins s σ H x y v u Q I rx ry h
  obtain ⟨d, l, hd, hl, l1, l2, hm, q⟩ := h
  obtain ⟨as, r1⟩ := Dp.reads I d x v hd rx
  rcases hl with he | he
  · obtain ⟨bs, r2⟩ := Dp.reads I _ y u he ry
    exact SeqAt.in_list_reads r2 r1 l2 l1 (by omega) ⟨.bl _, H, I, rfl, q⟩
  · obtain ⟨bs, r2⟩ := Dp.reads I _ y u he ry
    exact SeqAt.in_tuple_reads r2 r1 l2 l1 (by omega) ⟨.bl _, H, I, rfl, q⟩
theorem op_notInM {X : Cx} (hu : X.A.units + 65 < cLine) : OpR X (compareOp .NotIn) (rInM X.K true) := by
  intro pins s σ H x y v u Q I rx ry h
  obtain ⟨d, l, hd, hl, l1, l2, hm, q⟩ := h
  obtain ⟨as, r1⟩ := Dp.reads I d x v hd rx
  rcases hl with he | he
  · obtain ⟨bs, r2⟩ := Dp.reads I _ y u he ry
    exact SeqAt.notIn_list_reads r2 r1 l2 l1 (by omega) ⟨.bl _, H, I, rfl, q⟩
  · obtain ⟨bs, r2⟩ := Dp.reads I _ y u he ry
    exact SeqAt.notIn_tuple_reads r2 r1 l2 l1 (by omega) ⟨.bl _, H, I, rfl, q⟩
theorem str_one {t : Str} {k : Nat} (h : t.cps.toList = [k]) : t = ⟨#[k]⟩ := by
  obtain ⟨cps⟩ := t
  have : cps = #[k] := by
    have e := congrArg List.toArray h
    simpa using e
  rw [this]
theorem dIn_cases {x y d : D} (h : dIn x y = some d) : (∃ s k, y = .str s ∧ x = .str ⟨#[k]⟩ ∧ d = .bool (decide (k ∈ s.cps.toList))) ∨
    ∃ l, (y = .list l ∨ y = .tuple l) ∧ nd x = true ∧ ndAll l = true ∧ min (PyData.depthAll l) x.depth ≤ 64 ∧ d = .bool (l.any fun z => PyData.eqv z x) := by
  unfold dIn at h
  split at h
  · split at h
    · split at h
      · rename_i hk
        cases h
        exact .inl ⟨_, _, rfl, by rw [str_one hk], rfl⟩
      · cases h
    · cases h
  · split at h
    · rename_i hl
      cases h
      simp only [Bool.and_eq_true, decide_eq_true_eq] at hl
      exact .inr ⟨_, .inr rfl, hl.1.1, hl.1.2, hl.2, rfl⟩
    · cases h
  · split at h
    · rename_i hl
      cases h
      simp only [Bool.and_eq_true, decide_eq_true_eq] at hl
      exact .inr ⟨_, .inl rfl, hl.1.1, hl.1.2, hl.2, rfl⟩
    · cases h
  · cases h
theorem opd_in (hu : c.X.A.units + 65 < cLine) : OpD c (compareOp .In) dIn := by
  refine ⟨_, OpR.or op_in_sign (op_inM hu), ?_⟩
  intro O H x y a b d t ra rb e Q q
  rcases dIn_cases e with ⟨s, k, rfl, rfl, rfl⟩ | ⟨l, hb, n1, n2, hm, rfl⟩
  · obtain ⟨rfl, _⟩ := ra.str
    obtain ⟨rfl, _⟩ := rb.str
    exact .inl ⟨k, s, rfl, rfl, q _ _ same_nil (.bl _)⟩
  · obtain ⟨h1, h2⟩ := (ra.okF t).dp n1
    rcases hb with rfl | rfl
    · obtain ⟨h3, h4⟩ := (rb.okF t).dp (by simpa [nd] using n2)
      exact .inr ⟨a, l, h1, .inl h3, h2, by simpa [PyData.canLay0] using h4, hm, q _ _ same_nil (.bl _)⟩
    · obtain ⟨h3, h4⟩ := (rb.okF t).dp (by simpa [nd] using n2)
      exact .inr ⟨a, l, h1, .inr h3, h2, by simpa [PyData.canLay0] using h4, hm, q _ _ same_nil (.bl _)⟩
theorem opd_notin (hu : c.X.A.units + 65 < cLine) : OpD c (compareOp .NotIn) dNotIn := by
  refine ⟨_, OpR.or op_notIn_sign (op_notInM hu), ?_⟩
  intro O H x y a b d t ra rb e Q q
  obtain ⟨k0, e1, rfl⟩ := dNot1_some e
  rcases dIn_cases e1 with ⟨s, k, rfl, rfl, e2⟩ | ⟨l, hb, n1, n2, hm, e2⟩
  · cases e2
    obtain ⟨rfl, _⟩ := ra.str
    obtain ⟨rfl, _⟩ := rb.str
    exact .inl ⟨k, s, rfl, rfl, q _ _ same_nil (.bl _)⟩
  · cases e2
    obtain ⟨h1, h2⟩ := (ra.okF t).dp n1
    rcases hb with rfl | rfl
    · obtain ⟨h3, h4⟩ := (rb.okF t).dp (by simpa [nd] using n2)
      exact .inr ⟨a, l, h1, .inl h3, h2, by simpa [PyData.canLay0] using h4, hm, q _ _ same_nil (.bl _)⟩
    · obtain ⟨h3, h4⟩ := (rb.okF t).dp (by simpa [nd] using n2)
      exact .inr ⟨a, l, h1, .inr h3, h2, by simpa [PyData.canLay0] using h4, hm, q _ _ same_nil (.bl _)⟩
end
end Den

namespace Den
open PySem PySem.Spec PyProof.Rows L2

/-! ### tests -/
abbrev Tx := Rho → Option (Except Str Bool)
def EvT (c : C) (D1 : TT) (σ : L2.St) (H : Hp) : Except Str Bool → Prop
  | .ok b => ∀ Q : Bool → Hp → Prop, (∀ H', Same H H' → Q b H') → D1 σ H Q
  | .error x => (∀ A H', Same H H' → c.X.mg x = some (.ref A) → c.W (.ref A) none σ H') → ∀ Q, D1 σ H Q
def SndT (c : C) (e : Expr) (f : Tx) : Prop := ∀ ρ σ H O, SR c σ H ρ O → ∀ r, f ρ = some r → EvT c (DeT c.X e) σ H r
/-- whatever the whole is -/
def DeW (X : Cx) (e : Expr) : TT := fun σ H Q => ∀ whole pins s, Inv X pins σ H s → wpAny (model X.prog X.w) X.A (isTrue e X.env whole) (TP X pins σ Q) X.xe s
theorem pw_de {X : Cx} {e : Expr} : PW X e (DeW X e) := ⟨fun whole pins s σ H Q I h => h whole pins s I⟩
theorem dew_of {X : Cx} {e : Expr} {t : TT} (h : PW X e t) {σ : L2.St} {H : Hp} {Q : Bool → Hp → Prop} (q : t σ H Q) : DeW X e σ H Q := fun whole pins s I => h.run whole pins s σ H Q I q
theorem det_of {X : Cx} {e : Expr} {t : TT} (h : PT X e t) {σ : L2.St} {H : Hp} {Q : Bool → Hp → Prop} (q : t σ H Q) : DeT X e σ H Q := fun pins s I => h.run pins s σ H Q I q
def SndW (c : C) (e : Expr) (f : Tx) : Prop := ∀ ρ σ H O, SR c σ H ρ O → ∀ r, f ρ = some r → EvT c (DeW c.X e) σ H r
theorem SndW.t {c : C} {e : Expr} {f : Tx} (h : SndW c e f) : SndT c e f := fun ρ σ H O S r hr => by
  cases r with
  | ok b => exact fun Q q => det_of pw_de.pt (h ρ σ H O S _ hr Q q)
  | error x => exact fun q Q => det_of pw_de.pt (h ρ σ H O S _ hr q Q)
def asB : D → Option (Except Str Bool)
  | .bool b => some (.ok b)
  | _ => none
/-- a value that is a bool, as a test -/
def cT (f : Ex) : Tx := fun ρ => eb (f ρ) asB
theorem asB_ok {d : D} {b : Bool} (h : asB d = some (.ok b)) : d = .bool b := by
  unfold asB at h; split at h <;> cases h; rfl
theorem asB_er {d : D} {x : Str} (h : asB d = some (.error x)) : False := by
  unfold asB at h; split at h <;> cases h
section
variable {c : C} {lv : Bool} {a b e : Expr} {f g : Ex} {p q : Tx} {pos : Pos}
/-- expressions whose test is their value's truth -/
def plainT : Expr → Bool
  | .Name _ _ => true
  | .Call _ _ _ _ => true
  | .Subscript _ _ _ => true
  | .Constant _ _ _ => true
  | _ => false
theorem plainT_eq {env : Env} (h : plainT e = true) (whole : Sem Value) : isTrue e env whole = (do let v ← whole; standAt e.pos; holding [v] (truthy v)) := by
  cases e <;> first | rfl | cases h
theorem sndT_val (h : Snd c false e f) (he : plainT e = true) : SndT c e (cT f) := fun ρ σ H O S r hr => by
  cases r with
  | ok k =>
    obtain ⟨d, h1, h2⟩ := eb_ok hr
    have := asB_ok h2
    subst this
    intro Q q
    exact det_of (pt_val pe_de (plainT_eq he)) (h.ok S h1 fun v H' s r => ⟨k, r.b.bl, q H' s⟩)
  | error x =>
    intro q Q
    rcases eb_er hr with h1 | ⟨d, _, h2⟩
    · exact det_of (pt_val pe_de (plainT_eq he)) (h.er S h1 q)
    · exact (asB_er h2).elim
theorem sndT_cmp {op : CmpOp} {o : D → D → Option D} (ho : OpD c (compareOp op) o) (ha : Snd c false a f) (hb : Snd c false b g) (hm : notSet b = true) : SndT c (.Compare a [op] [b] pos) (cT (cOp o f g)) := fun ρ σ H O S r hr => by
  obtain ⟨rr, h1, h2⟩ := ho
  cases r with
  | ok k =>
    obtain ⟨d, h3, h4⟩ := eb_ok hr
    have := asB_ok h4
    subst this
    obtain ⟨x, y, e1, e2, e3⟩ := cOp_ok h3
    intro Q q
    refine det_of (pt_cmpR h1 pe_de pe_de (mark_ok hm)) ?_
    refine two_ok ha hb S e1 e2 fun v w H2 s rv rw' => h2 O H2 v w x y _ (S.same s).trk rv rw' e3 _ fun v' H' s' r' => ?_
    exact ⟨k, RB.bl (.inl r'), q H' (s.trans s')⟩
  | error x =>
    intro q Q
    rcases eb_er hr with h3 | ⟨d, _, h4⟩
    · exact det_of (pt_cmpR h1 pe_de pe_de (mark_ok hm)) (two_er ha hb S (cOp_er h3) q)
    · exact (asB_er h4).elim
/-! ### and, or, not as tests -/
def cAndT (p q : Tx) : Tx := fun ρ => eb (p ρ) fun b => if b then q ρ else some (.ok false)
def cOrT (p q : Tx) : Tx := fun ρ => eb (p ρ) fun b => if b then some (.ok true) else q ρ
def cNotT (p : Tx) : Tx := fun ρ => eb (p ρ) fun b => some (.ok (!b))
variable {rest : List Expr}
theorem sndW_and1 (ha : SndT c a p) : SndW c (.BoolOp .And [a] pos) p := fun ρ σ H O S r hr => by
  cases r with
  | ok b => exact fun Q q => dew_of (pw_and1 pt_de) (ha ρ σ H O S _ hr Q q)
  | error x => exact fun q Q => dew_of (pw_and1 pt_de) (ha ρ σ H O S _ hr q Q)
theorem sndW_or1 (ha : SndT c a p) : SndW c (.BoolOp .Or [a] pos) p := fun ρ σ H O S r hr => by
  cases r with
  | ok b => exact fun Q q => dew_of (pw_or1 pt_de) (ha ρ σ H O S _ hr Q q)
  | error x => exact fun q Q => dew_of (pw_or1 pt_de) (ha ρ σ H O S _ hr q Q)
theorem sndW_and (ha : SndT c a p) (hb : SndW c (.BoolOp .And (b :: rest) pos) q) : SndW c (.BoolOp .And (a :: b :: rest) pos) (cAndT p q) := fun ρ σ H O S r hr => by
  cases r with
  | ok k =>
    obtain ⟨x, h1, h2⟩ := eb_ok hr
    intro Q qq
    refine dew_of (pw_and pt_de pw_de) (ha ρ σ H O S _ h1 _ fun H1 s1 => ?_)
    cases x with
    | true =>
      simp only [if_true] at h2 ⊢
      exact hb ρ σ H1 O (S.same s1) _ h2 _ fun H2 s2 => qq H2 (s1.trans s2)
    | false =>
      simp only [Bool.false_eq_true, if_false] at h2 ⊢
      cases h2
      exact qq H1 s1
  | error z =>
    intro qq Q
    rcases eb_er hr with h1 | ⟨x, h1, h2⟩
    · exact dew_of (pw_and pt_de pw_de) (ha ρ σ H O S _ h1 qq _)
    · refine dew_of (pw_and pt_de pw_de) (ha ρ σ H O S _ h1 _ fun H1 s1 => ?_)
      cases x with
      | true =>
        simp only [if_true] at h2 ⊢
        exact hb ρ σ H1 O (S.same s1) _ h2 (fun A H' s' m => qq A H' (s1.trans s') m) _
      | false => cases h2
theorem sndW_or (ha : SndT c a p) (hb : SndW c (.BoolOp .Or (b :: rest) pos) q) : SndW c (.BoolOp .Or (a :: b :: rest) pos) (cOrT p q) := fun ρ σ H O S r hr => by
  cases r with
  | ok k =>
    obtain ⟨x, h1, h2⟩ := eb_ok hr
    intro Q qq
    refine dew_of (pw_or pt_de pw_de) (ha ρ σ H O S _ h1 _ fun H1 s1 => ?_)
    cases x with
    | false =>
      simp only [Bool.false_eq_true, if_false] at h2 ⊢
      exact hb ρ σ H1 O (S.same s1) _ h2 _ fun H2 s2 => qq H2 (s1.trans s2)
    | true =>
      simp only [if_true] at h2 ⊢
      cases h2
      exact qq H1 s1
  | error z =>
    intro qq Q
    rcases eb_er hr with h1 | ⟨x, h1, h2⟩
    · exact dew_of (pw_or pt_de pw_de) (ha ρ σ H O S _ h1 qq _)
    · refine dew_of (pw_or pt_de pw_de) (ha ρ σ H O S _ h1 _ fun H1 s1 => ?_)
      cases x with
      | false =>
        simp only [Bool.false_eq_true, if_false] at h2 ⊢
        exact hb ρ σ H1 O (S.same s1) _ h2 (fun A H' s' m => qq A H' (s1.trans s') m) _
      | true => cases h2
theorem sndT_not (ha : SndT c a p) : SndT c (.UnaryOp .Not a pos) (cNotT p) := fun ρ σ H O S r hr => by
  cases r with
  | ok k =>
    obtain ⟨x, h1, h2⟩ := eb_ok hr
    cases h2
    intro Q qq
    exact det_of (pt_not pt_de) (ha ρ σ H O S _ h1 _ fun H1 s1 => qq H1 s1)
  | error z =>
    intro qq Q
    rcases eb_er hr with h1 | ⟨x, h1, h2⟩
    · exact det_of (pt_not pt_de) (ha ρ σ H O S _ h1 qq _)
    · cases h2
/-! ### as values -/
def cAnd (f g : Ex) : Ex := fun ρ => eb (f ρ) fun d => match d with | .bool true => g ρ | .bool false => some (.ok (.bool false)) | _ => none
def cOr (f g : Ex) : Ex := fun ρ => eb (f ρ) fun d => match d with | .bool true => some (.ok (.bool true)) | .bool false => g ρ | _ => none
def cNot (f : Ex) : Ex := fun ρ => eb (f ρ) fun d => match d with | .bool b => some (.ok (.bool (!b))) | _ => none
theorem snd_one {op} (h : Snd c lv a f) : Snd c lv (.BoolOp op [a] pos) f := fun ρ σ H O S r hr => by
  cases r with
  | ok b => exact fun Q q => de_of (pe_one pe_de) (h ρ σ H O S _ hr Q q)
  | error x => exact fun q Q => de_of (pe_one pe_de) (h ρ σ H O S _ hr q Q)
theorem snd_and (ha : Snd c false a f) (hb : Snd c lv (.BoolOp .And (b :: rest) pos) g) : Snd c lv (.BoolOp .And (a :: b :: rest) pos) (cAnd f g) := fun ρ σ H O S r hr => by
  cases r with
  | ok k =>
    obtain ⟨x, h1, h2⟩ := eb_ok hr
    intro Q qq
    refine de_of (pe_and pe_de pe_de) (ha.ok S h1 fun v H1 s1 r1 => ?_)
    split at h2
    · refine ⟨true, r1.b.bl, ?_⟩
      rw [if_pos rfl]
      exact hb.ok (S.same s1) h2 fun v' H2 s2 r2 => qq v' H2 (s1.trans s2) r2
    · cases h2
      refine ⟨false, r1.b.bl, ?_⟩
      rw [if_neg (by simp)]
      exact qq _ H1 s1 (.of (.bl _))
    · cases h2
  | error z =>
    intro qq Q
    rcases eb_er hr with h1 | ⟨x, h1, h2⟩
    · exact de_of (pe_and pe_de pe_de) (ha.er S h1 qq)
    · refine de_of (pe_and pe_de pe_de) (ha.ok S h1 fun v H1 s1 r1 => ?_)
      split at h2
      · refine ⟨true, r1.b.bl, ?_⟩
        rw [if_pos rfl]
        exact hb.er (S.same s1) h2 fun A H' s' m => qq A H' (s1.trans s') m
      · cases h2
      · cases h2
theorem snd_or (ha : Snd c false a f) (hb : Snd c lv (.BoolOp .Or (b :: rest) pos) g) : Snd c lv (.BoolOp .Or (a :: b :: rest) pos) (cOr f g) := fun ρ σ H O S r hr => by
  cases r with
  | ok k =>
    obtain ⟨x, h1, h2⟩ := eb_ok hr
    intro Q qq
    refine de_of (pe_or pe_de pe_de) (ha.ok S h1 fun v H1 s1 r1 => ?_)
    split at h2
    · cases h2
      refine ⟨true, r1.b.bl, ?_⟩
      rw [if_pos rfl]
      exact qq _ H1 s1 (.of (.bl _))
    · refine ⟨false, r1.b.bl, ?_⟩
      rw [if_neg (by simp)]
      exact hb.ok (S.same s1) h2 fun v' H2 s2 r2 => qq v' H2 (s1.trans s2) r2
    · cases h2
  | error z =>
    intro qq Q
    rcases eb_er hr with h1 | ⟨x, h1, h2⟩
    · exact de_of (pe_or pe_de pe_de) (ha.er S h1 qq)
    · refine de_of (pe_or pe_de pe_de) (ha.ok S h1 fun v H1 s1 r1 => ?_)
      split at h2
      · cases h2
      · refine ⟨false, r1.b.bl, ?_⟩
        rw [if_neg (by simp)]
        exact hb.er (S.same s1) h2 fun A H' s' m => qq A H' (s1.trans s') m
      · cases h2
theorem snd_not (ha : Snd c false a f) : Snd c lv (.UnaryOp .Not a pos) (cNot f) := fun ρ σ H O S r hr => by
  cases r with
  | ok k =>
    obtain ⟨x, h1, h2⟩ := eb_ok hr
    intro Q qq
    refine de_of (pe_not pe_de) (ha.ok S h1 fun v H1 s1 r1 => ?_)
    split at h2
    · cases h2
      exact ⟨_, r1.b.bl, qq _ H1 s1 (.of (.bl _))⟩
    · cases h2
  | error z =>
    intro qq Q
    rcases eb_er hr with h1 | ⟨x, h1, h2⟩
    · exact de_of (pe_not pe_de) (ha.er S h1 qq)
    · split at h2 <;> cases h2
/-- x if t else y -/
def cIf (p : Tx) (f g : Ex) : Ex := fun ρ => eb (p ρ) fun b => if b then f ρ else g ρ
theorem snd_if {t : Expr} (ht : SndT c t p) (ha : Snd c lv a f) (hb : Snd c lv b g) : Snd c lv (.IfExp t a b pos) (cIf p f g) := fun ρ σ H O S r hr => by
  cases r with
  | ok k =>
    obtain ⟨x, h1, h2⟩ := eb_ok hr
    intro Q qq
    refine de_of (pe_ifExp pt_de pe_de pe_de) (ht ρ σ H O S _ h1 _ fun H1 s1 => ?_)
    cases x with
    | true => exact ha.ok (S.same s1) h2 fun v' H2 s2 r2 => qq v' H2 (s1.trans s2) r2
    | false => exact hb.ok (S.same s1) h2 fun v' H2 s2 r2 => qq v' H2 (s1.trans s2) r2
  | error z =>
    intro qq Q
    rcases eb_er hr with h1 | ⟨x, h1, h2⟩
    · exact de_of (pe_ifExp pt_de pe_de pe_de) (ht ρ σ H O S _ h1 qq _)
    · refine de_of (pe_ifExp pt_de pe_de pe_de) (ht ρ σ H O S _ h1 _ fun H1 s1 => ?_)
      cases x with
      | true => exact ha.er (S.same s1) h2 fun A H' s' m => qq A H' (s1.trans s') m
      | false => exact hb.er (S.same s1) h2 fun A H' s' m => qq A H' (s1.trans s') m
/-! ### a op b op c -/
def cChain (o o' : D → D → Option D) (f g h : Ex) : Ex := fun ρ => eb (f ρ) fun x => eb (g ρ) fun y => match o x y with
  | some (.bool true) => eb (h ρ) fun z => pu (o' y z)
  | some (.bool false) => some (.ok (.bool false))
  | _ => none
theorem chain_run {op op' : CmpOp} {o o' : D → D → Option D} {d : Expr} {h : Ex} (ho : OpD c (compareOp op) o) (ho' : OpD c (compareOp op') o') (ha : Snd c false a f) (hb : Snd c false b g) (hd : Snd c false d h)
    {ρ : Rho} {σ : L2.St} {H : Hp} {O : Own} (S : SR c σ H ρ O) {r : Except Str D} (hr : cChain o o' f g h ρ = some r) : ∃ rr rr', OpR c.X (compareOp op) rr ∧ OpR c.X (compareOp op') rr' ∧ match r with
      | .ok x => ∀ Q : VK, (∀ v H', Same H H' → Rp c.X.K H' (c.gd O) v x → Q v H') → tChain rr rr' (De c.X a) (De c.X b) (De c.X d) σ H Q
      | .error z => (∀ A H', Same H H' → c.X.mg z = some (.ref A) → c.W (.ref A) none σ H') → ∀ Q : VK, tChain rr rr' (De c.X a) (De c.X b) (De c.X d) σ H Q := by
  obtain ⟨rr, h1, h2⟩ := ho
  obtain ⟨rr', h3, h4⟩ := ho'
  refine ⟨rr, rr', h1, h3, ?_⟩
  cases r with
  | ok w =>
    obtain ⟨x, e1, hr2⟩ := eb_ok hr
    obtain ⟨y, e2, hr3⟩ := eb_ok hr2
    intro Q qq
    refine ha.ok S e1 fun v1 H1 s1 r1 => hb.ok (S.same s1) e2 fun v2 H2 s2 r2 => ?_
    have S2 := (S.same s1).same s2
    split at hr3
    · rename_i e3
      obtain ⟨z, e4, hr4⟩ := eb_ok hr3
      refine h2 O H2 v1 v2 x y _ S2.trk (r1.b.same s2) r2.b e3 _ fun v3 H3 s3 r3 => ?_
      refine ⟨true, RB.bl (.inl r3), ?_⟩
      rw [if_pos rfl]
      refine hd.ok (S2.same s3) e4 fun v4 H4 s4 r4 => ?_
      exact h4 O H4 v2 v4 y z _ ((S2.same s3).same s4).trk ((r2.b.same s3).same s4) r4.b (pu_ok hr4) _ fun v5 H5 s5 r5 => qq v5 H5 ((((s1.trans s2).trans s3).trans s4).trans s5) r5
    · rename_i e3
      cases hr3
      refine h2 O H2 v1 v2 x y _ S2.trk (r1.b.same s2) r2.b e3 _ fun v3 H3 s3 r3 => ?_
      refine ⟨false, RB.bl (.inl r3), ?_⟩
      rw [if_neg (by simp)]
      exact qq _ H3 ((s1.trans s2).trans s3) (.bl _)
    · cases hr3
  | error z =>
    intro qq Q
    rcases eb_er hr with e1 | ⟨x, e1, hr2⟩
    · exact ha.er S e1 qq
    · rcases eb_er hr2 with e2 | ⟨y, e2, hr3⟩
      · exact ha.ok S e1 fun v1 H1 s1 r1 => hb.er (S.same s1) e2 fun A H' s' m => qq A H' (s1.trans s') m
      · refine ha.ok S e1 fun v1 H1 s1 r1 => hb.ok (S.same s1) e2 fun v2 H2 s2 r2 => ?_
        have S2 := (S.same s1).same s2
        split at hr3
        · rename_i e3
          refine h2 O H2 v1 v2 x y _ S2.trk (r1.b.same s2) r2.b e3 _ fun v3 H3 s3 r3 => ?_
          refine ⟨true, RB.bl (.inl r3), ?_⟩
          rw [if_pos rfl]
          rcases eb_er hr3 with e4 | ⟨w, e4, hr4⟩
          · exact hd.er (S2.same s3) e4 fun A H' s' m => qq A H' (((s1.trans s2).trans s3).trans s') m
          · exact (pu_er hr4).elim
        · cases hr3
        · cases hr3
theorem chainMark {op op' : CmpOp} {b d : Expr} (hm : notSet d = true) : lastMarks [op, op'] [b, d] = false := by
  show behindInMarks op' d = false
  exact mark_ok hm
theorem snd_chain {op op' : CmpOp} {o o' : D → D → Option D} {d : Expr} {h : Ex} (ho : OpD c (compareOp op) o) (ho' : OpD c (compareOp op') o') (ha : Snd c false a f) (hb : Snd c false b g) (hd : Snd c false d h) (hm : notSet d = true) :
    Snd c lv (.Compare a [op, op'] [b, d] pos) (cChain o o' f g h) := fun ρ σ H O S r hr => by
  obtain ⟨rr, rr', h1, h2, h3⟩ := chain_run ho ho' ha hb hd S hr
  cases r with
  | ok x => exact fun Q q => de_of (pe_chain h1 h2 pe_de pe_de pe_de (chainMark hm)) (h3 Q fun v H' s r => q v H' s (.of r))
  | error z => exact fun q Q => de_of (pe_chain h1 h2 pe_de pe_de pe_de (chainMark hm)) (h3 q Q)
theorem sndT_chain {op op' : CmpOp} {o o' : D → D → Option D} {d : Expr} {h : Ex} (ho : OpD c (compareOp op) o) (ho' : OpD c (compareOp op') o') (ha : Snd c false a f) (hb : Snd c false b g) (hd : Snd c false d h) (hm : notSet d = true) :
    SndT c (.Compare a [op, op'] [b, d] pos) (cT (cChain o o' f g h)) := fun ρ σ H O S r hr => by
  cases r with
  | ok k =>
    obtain ⟨x, e1, e2⟩ := eb_ok hr
    have := asB_ok e2
    subst this
    obtain ⟨rr, rr', h1, h2, h3⟩ := chain_run ho ho' ha hb hd S e1
    exact fun Q q => det_of (pt_chain h1 h2 pe_de pe_de pe_de (chainMark hm)) (h3 _ fun v H' s r => ⟨k, RB.bl (.inl r), q H' s⟩)
  | error z =>
    rcases eb_er hr with e1 | ⟨x, _, e2⟩
    · obtain ⟨rr, rr', h1, h2, h3⟩ := chain_run ho ho' ha hb hd S e1
      exact fun q Q => det_of (pt_chain h1 h2 pe_de pe_de pe_de (chainMark hm)) (h3 q _)
    · exact (asB_er e2).elim
/-! ### one place -/
def cUn (o : D → Option D) (f : Ex) : Ex := fun ρ => eb (f ρ) fun x => pu (o x)
def dNeg : D → Option D
  | .int i => some (.int (-i))
  | _ => none
theorem snd_neg (ha : Snd c false a f) : Snd c lv (.UnaryOp .USub a pos) (cUn dNeg f) := fun ρ σ H O S r hr => by
  cases r with
  | ok k =>
    obtain ⟨x, h1, h2⟩ := eb_ok hr
    have h3 := pu_ok h2
    intro Q qq
    refine de_of (pe_un un_neg pe_de) (ha.ok S h1 fun v H1 s1 r1 => ?_)
    unfold dNeg at h3
    split at h3
    · cases h3
      exact ⟨_, r1.b.int, qq _ H1 s1 (.of (.int _))⟩
    · cases h3
  | error z =>
    intro qq Q
    rcases eb_er hr with h1 | ⟨x, h1, h2⟩
    · exact de_of (pe_un un_neg pe_de) (ha.er S h1 qq)
    · exact (pu_er h2).elim
/-! ### a[b] -/
def notSlice : Expr → Bool
  | .Slice _ _ _ _ => false
  | _ => true
theorem plainIx_of {b : Expr} (h : notSlice b = true) : PlainIx b := fun _ _ => by
  cases b <;> first | rfl | cases h
/-- an item by its place -/
def dIx : D → D → Option D
  | .list l, .int i => atI l i
  | .tuple l, .int i => atI l i
  | .str z, .int i => (atI z.cps.toList i).map fun k => .str ⟨#[k]⟩
  | _, _ => none
theorem RpAll.atI {K : PySem.W.Frag} {H : Hp} {ok : Addr → Prop} {xs : List V} {ds : List D} {i : Int} {d : D} (r : RpAll K H ok xs ds) (h : L2.atI ds i = some d) : ∃ x, L2.atI xs i = some x ∧ Rp K H ok x d := by
  unfold L2.atI at *
  rw [r.len]
  cases e : ixN ds.length i with
  | none => rw [e] at h; cases h
  | some j =>
    rw [e] at h
    exact r.getD h
theorem sOk_one {z : Str} {k : Nat} {i : Int} (hz : sOk z) (h : L2.atI z.cps.toList i = some k) : sOk ⟨#[k]⟩ := by
  unfold L2.atI at h
  cases e : ixN z.cps.toList.length i with
  | none => rw [e] at h; cases h
  | some j =>
    rw [e] at h
    have h' : z.cps.toList[j]? = some k := h
    have hm : k ∈ z.cps := by
      have := List.mem_of_getElem? h'
      simpa using this
    refine ⟨?_, ?_⟩
    · have h1 := hz.1
      unfold PyData.strOk at h1 ⊢
      rw [Array.all_eq_true'] at h1
      simpa using h1 k hm
    · show 1 ≤ sizeLine
      rw [sizeLine_eq]; decide
theorem snd_ix (ha : Snd c false a f) (hb : Snd c false b g) (hs : notSlice b = true) : Snd c lv (.Subscript a b pos) (cOp dIx f g) := fun ρ σ H O S r h => by
  cases r with
  | ok d =>
    obtain ⟨x, y, e1, e2, e3⟩ := cOp_ok h
    intro Q q
    refine de_of (pe_ix ix_seq pe_de pe_de (plainIx_of hs)) (two_ok ha hb S e1 e2 fun v w H2 s rv rw' => ?_)
    unfold dIx at e3
    split at e3
    · obtain ⟨p, xs, rfl, h1, h2⟩ := rv.lst
      rw [rw'.int]
      obtain ⟨z, h3, h4⟩ := h2.atI e3
      exact .inl ⟨p, xs, _, z, rfl, rfl, h1, h3, q _ _ s (.of h4)⟩
    · obtain ⟨p, xs, rfl, h1, h2⟩ := rv.tup
      rw [rw'.int]
      obtain ⟨z, h3, h4⟩ := h2.atI e3
      exact .inr (.inl ⟨p, xs, _, z, rfl, rfl, h1, h3, q _ _ s (.of h4)⟩)
    · obtain ⟨rfl, h1⟩ := rv.str
      rw [rw'.int]
      cases e4 : L2.atI _ _ with
      | none => rw [e4] at e3; cases e3
      | some k =>
        rw [e4] at e3
        cases e3
        exact .inr (.inr ⟨_, _, k, rfl, rfl, h1.2, e4, q _ _ s (.of (.str (sOk_one h1 e4)))⟩)
    · cases e3
  | error z => exact fun q Q => de_of (pe_ix ix_seq pe_de pe_de (plainIx_of hs)) (two_er ha hb S (cOp_er h) q)
end
end Den

namespace Den
open PySem PySem.Spec PyProof.Rows L2

/-! ### slices -/
def cutL {α : Type} (xs : List α) (lo hi : Option Int) : List α := (xs.drop (HT.sIx xs.length 0 lo)).take (HT.sIx xs.length xs.length hi - HT.sIx xs.length 0 lo)
def dSl (d : D) (lo hi : Option Int) : Option D := match d with
  | .str z => some (.str (cutS z lo hi))
  | .tuple l => some (.tuple (cutL l lo hi))
  | .list l => some (.list (cutL l lo hi))
  | _ => none
def cPart : Option Ex → Rho → Option (Except Str (Option Int))
  | none, _ => some (.ok none)
  | some f, ρ => eb (f ρ) fun d => match d with | .int i => some (.ok (some i)) | _ => none
def cSl (f : Ex) (lo hi : Option Ex) : Ex := fun ρ => eb (f ρ) fun x => eb (cPart lo ρ) fun l => eb (cPart hi ρ) fun u => pu (dSl x l u)
def DeO (X : Cx) (e : Option Expr) : TO := fun σ H Q => ∀ pins s, Inv X pins σ H s → wpAny (model X.prog X.w) X.A (evalPart e X.env) (fun u s' => ∃ o H', Inv X pins σ H' s' ∧ IsPart u o ∧ Q o H') X.xe s
theorem po_de {X : Cx} {e : Option Expr} : PO X e (DeO X e) := ⟨fun pins s σ H Q I h => h pins s I⟩
theorem deo_of {X : Cx} {e : Option Expr} {t : TO} (h : PO X e t) {σ : L2.St} {H : Hp} {Q : Option Int → Hp → Prop} (q : t σ H Q) : DeO X e σ H Q := fun pins s I => h.run pins s σ H Q I q
def SndO (c : C) (e : Option Expr) (f : Option Ex) : Prop := ∀ ρ σ H O, SR c σ H ρ O → ∀ r, cPart f ρ = some r → match r with
  | .ok o => ∀ Q : Option Int → Hp → Prop, (∀ H', Same H H' → Q o H') → DeO c.X e σ H Q
  | .error x => (∀ A H', Same H H' → c.X.mg x = some (.ref A) → c.W (.ref A) none σ H') → ∀ Q, DeO c.X e σ H Q
theorem sndO_none {c : C} : SndO c none none := fun ρ σ H O S r h => by
  cases h
  exact fun Q q => deo_of po_none (q H (Same.refl _))
theorem sndO_some {c : C} {e : Expr} {f : Ex} (h : Snd c false e f) : SndO c (some e) (some f) := fun ρ σ H O S r hr => by
  cases r with
  | ok o =>
    obtain ⟨d, h1, h2⟩ := eb_ok hr
    intro Q q
    refine deo_of (po_some pe_de) (h.ok S h1 fun v H' s r => ?_)
    split at h2
    · cases h2
      exact ⟨_, r.b.int, q H' s⟩
    · cases h2
  | error x =>
    intro q Q
    rcases eb_er hr with h1 | ⟨d, h1, h2⟩
    · exact deo_of (po_some pe_de) (h.er S h1 q)
    · split at h2 <;> cases h2
theorem sOk_cut {z : Str} {lo hi : Option Int} (h : sOk z) : sOk (cutS z lo hi) := by
  refine ⟨?_, Nat.le_trans (cutS_length z lo hi) h.2⟩
  have h1 := h.1
  unfold PyData.strOk at *
  rw [Array.all_eq_true'] at *
  intro x hx
  refine h1 x ?_
  have : x ∈ ((z.cps.toList.drop (HT.sIx z.length 0 lo)).take (HT.sIx z.length z.length hi - HT.sIx z.length 0 lo)) := by simpa [cutS] using hx
  have := List.mem_of_mem_drop (List.mem_of_mem_take this)
  simpa using this
theorem RpAll.cut {K : PySem.W.Frag} {H : Hp} {ok : Addr → Prop} {xs : List V} {ds : List D} (r : RpAll K H ok xs ds) (lo hi : Option Int) : RpAll K H ok (cutV xs lo hi) (cutL ds lo hi) := by
  unfold cutV cutL
  rw [r.len]
  exact (r.drop _).take _
theorem cutL_whole {α : Type} {xs : List α} {lo hi : Option Int} (h : HT.sIx xs.length 0 lo = 0 ∧ HT.sIx xs.length xs.length hi = xs.length) : cutL xs lo hi = xs := by
  unfold cutL
  rw [h.1, h.2]
  simp
theorem snd_sl {c : C} {lv : Bool} {e : Expr} {lo hi : Option Expr} {f : Ex} {l u : Option Ex} {pos p2 : Pos} (he : Snd c false e f) (hl : SndO c lo l) (hu : SndO c hi u) : Snd c lv (.Subscript e (.Slice lo hi none p2) pos) (cSl f l u) := fun ρ σ H O S r h => by
  have pp := pe_slice (X := c.X) (p2 := p2) (pos := pos) (SlR.or sl_tupA (SlR.or sl_list sl_str)) (pe_de (e := e)) (po_de (e := lo)) (po_de (e := hi))
  cases r with
  | ok d =>
    obtain ⟨x, h1, h2⟩ := eb_ok h
    obtain ⟨i, h3, h4⟩ := eb_ok h2
    obtain ⟨j, h5, h6⟩ := eb_ok h4
    have h7 := pu_ok h6
    intro Q q
    refine de_of pp (he.ok S h1 fun v H1 s1 r1 => ?_)
    refine hl ρ σ H1 O (S.same s1) _ h3 _ fun H2 s2 => ?_
    refine hu ρ σ H2 O ((S.same s1).same s2) _ h5 _ fun H3 s3 => ?_
    have S3 := ((S.same s1).same s2).same s3
    have s13 := (s1.trans s2).trans s3
    have rb := (r1.b.same s2).same s3
    unfold dSl at h7
    split at h7
    · cases h7
      obtain ⟨rfl, hz⟩ := rb.str
      exact .inr (.inr ⟨_, rfl, hz.2, q _ _ s13 (.of (.str (sOk_cut hz)))⟩)
    · cases h7
      obtain ⟨p, xs, rfl, g1, g2⟩ := rb.tup
      refine .inl ⟨p, xs, rfl, g1, fun hw => ?_, fun hw p' hp => ?_⟩
      · rw [g2.len] at hw
        rw [cutL_whole hw] at q
        exact q _ _ s13 (.of (.tup g1 g2))
      · exact q _ _ (s13.trans (same_upd hp)) (.of (Rp.newT hp (g2.cut i j)))
    · cases h7
      obtain ⟨p, xs, rfl, g1, g2⟩ := rb.lst
      exact .inr (.inl ⟨p, xs, rfl, g1, fun p' hp => q _ _ (s13.trans (same_upd hp)) (.of (Rp.newL S3.trk hp (g2.cut i j)))⟩)
    · cases h7
  | error z =>
    intro qq Q
    rcases eb_er h with h1 | ⟨x, h1, h2⟩
    · exact de_of pp (he.er S h1 qq)
    · refine de_of pp (he.ok S h1 fun v H1 s1 r1 => ?_)
      rcases eb_er h2 with h3 | ⟨i, h3, h4⟩
      · exact hl ρ σ H1 O (S.same s1) _ h3 (fun A H' s' m => qq A H' (s1.trans s') m) _
      · refine hl ρ σ H1 O (S.same s1) _ h3 _ fun H2 s2 => ?_
        rcases eb_er h4 with h5 | ⟨j, h5, h6⟩
        · exact hu ρ σ H2 O ((S.same s1).same s2) _ h5 (fun A H' s' m => qq A H' ((s1.trans s2).trans s') m) _
        · exact (pu_er h6).elim

/-! ### calls of what is built in -/
def cFn (o : List D → Option D) (fs : List Ex) : Ex := fun ρ => eb (cArgs fs ρ) fun ds => pu (o ds)
def CallD (c : C) (f : Value) (o : List D → Option D) : Prop :=
  ∃ r : List V → Hp → VK → Prop, CallR c.X f r ∧ ∀ (O : Own) (H : Hp) (xs : List V) (ds : List D) (d : D), Trk c O H → RLA c O false H xs ds → o ds = some d →
    ∀ Q : VK, (∀ v H', Same H H' → Rp c.X.K H' (c.gd O) v d → Q v H') → r xs H Q
section
variable {c : C} {lv : Bool} {e : Expr} {es : List Expr} {fs : List Ex} {x : Str} {p pos : Pos} {o : List D → Option D}
theorem cFn_run (h : SndA c false es fs) {ρ : Rho} {σ : L2.St} {H : Hp} {O : Own} (S : SR c σ H ρ O) {r : Except Str D} (hr : cFn o fs ρ = some r) {rr : List V → Hp → VK → Prop}
    (hc : ∀ (O : Own) (H : Hp) (xs : List V) (ds : List D) (d : D), Trk c O H → RLA c O false H xs ds → o ds = some d → ∀ Q : VK, (∀ v H', Same H H' → Rp c.X.K H' (c.gd O) v d → Q v H') → rr xs H Q) : match r with
      | .ok d => ∀ Q : VK, (∀ v H', Same H H' → Rp c.X.K H' (c.gd O) v d → Q v H') → DeA c.X es σ H fun vs H1 => rr vs H1 Q
      | .error z => (∀ A H', Same H H' → c.X.mg z = some (.ref A) → c.W (.ref A) none σ H') → ∀ Q : VK, DeA c.X es σ H fun vs H1 => rr vs H1 Q := by
  cases r with
  | ok d =>
    obtain ⟨ds, h1, h2⟩ := eb_ok hr
    intro Q q
    refine h ρ σ H O S _ h1 _ fun vs H1 s1 r1 => ?_
    exact hc O H1 vs ds d (S.same s1).trk r1 (pu_ok h2) Q fun v H' s' r' => q v H' (s1.trans s') r'
  | error z =>
    intro q Q
    rcases eb_er hr with h1 | ⟨ds, _, h2⟩
    · exact h ρ σ H O S _ h1 q _
    · exact (pu_er h2).elim
theorem snd_callB {id : String} (hc : CallD c (.builtin id) o) (hg : Gl c.X x) (hm : c.X.mg x = none) (hv : bootBuiltins x = some (.builtin id)) (hn : x ≠ "__name__") (hd : (x == ("__debug__" : Str)) = false) (hs : (e :: es).all noStar = true)
    (h : SndA c false (e :: es) fs) : Snd c lv (.Call (.Name x p) (e :: es) [] pos) (cFn o fs) := fun ρ σ H O S r hr => by
  obtain ⟨rr, h1, h2⟩ := hc
  rw [List.all_cons, Bool.and_eq_true] at hs
  have pp := pe_callB (X := c.X) (p := p) (pos := pos) h1 hg hm hv (pa_de (es := e :: es)) hn hd (star_cons hs.1) (star_none pos hs.2)
  have run := cFn_run h S hr h2
  cases r with
  | ok d => exact fun Q q => de_of pp (run Q fun v H' s r => q v H' s (.of r))
  | error z => exact fun q Q => de_of pp (run q Q)
theorem snd_callTy {T : String} (hc : CallD c (.type T) o) (hg : Gl c.X x) (hm : c.X.mg x = none) (hv : bootBuiltins x = some (.type T)) (hn : x ≠ "__name__") (hd : (x == ("__debug__" : Str)) = false) (hs : (e :: es).all noStar = true)
    (h : SndA c false (e :: es) fs) : Snd c lv (.Call (.Name x p) (e :: es) [] pos) (cFn o fs) := fun ρ σ H O S r hr => by
  obtain ⟨rr, h1, h2⟩ := hc
  rw [List.all_cons, Bool.and_eq_true] at hs
  have pp := pe_callTy (X := c.X) (p := p) (pos := pos) h1 hg hm hv (pa_de (es := e :: es)) hn hd (star_cons hs.1) (star_none pos hs.2)
  have run := cFn_run h S hr h2
  cases r with
  | ok d => exact fun Q q => de_of pp (run Q fun v H' s r => q v H' s (.of r))
  | error z => exact fun q Q => de_of pp (run q Q)
end
/-! the functions -/
def dLen : List D → Option D
  | [.str x] => some (.int x.length)
  | [.list l] => some (.int l.length)
  | [.tuple l] => some (.int l.length)
  | _ => none
def bools : List D → Option (List Bool)
  | [] => some []
  | .bool b :: r => (bools r).map (b :: ·)
  | _ => none
def dAll : List D → Option D
  | [.list l] => (bools l).map fun bs => .bool (bs.all id)
  | _ => none
def dAny : List D → Option D
  | [.list l] => (bools l).map fun bs => .bool (bs.any id)
  | _ => none
def dTuple : List D → Option D
  | [.list l] => some (.tuple l)
  | [.tuple l] => some (.tuple l)
  | _ => none
def dList : List D → Option D
  | [.list l] => some (.list l)
  | [.tuple l] => some (.list l)
  | _ => none
def dInt : List D → Option D
  | [.int i] => some (.int i)
  | [.bool b] => some (.int (if b then 1 else 0))
  | _ => none
def dMax : List D → Option D
  | [.int i, .int j] => some (.int (if j > i then j else i))
  | _ => none
def dMin : List D → Option D
  | [.int i, .int j] => some (.int (if j < i then j else i))
  | _ => none
section
variable {c : C} {O : Own} {H : Hp}
theorem RLA.one {xs : List V} {d : D} (h : RLA c O false H xs [d]) : ∃ v, xs = [v] ∧ RB c O H v d := by
  cases h with
  | cons h1 h2 => cases h2; exact ⟨_, rfl, h1⟩
theorem RLA.two {xs : List V} {d e : D} (h : RLA c O false H xs [d, e]) : ∃ v w, xs = [v, w] ∧ RB c O H v d ∧ RB c O H w e := by
  cases h with
  | cons h1 h2 =>
    cases h2 with
    | cons h3 h4 => cases h4; exact ⟨_, _, rfl, h1, h3⟩
theorem bools_of {K : PySem.W.Frag} {ok : Addr → Prop} : ∀ {l : List D} {bs : List Bool} {xs : List V}, bools l = some bs → RpAll K H ok xs l → xs = bs.map V.bl
  | [], bs, xs, h, r => by cases h; cases r; rfl
  | d :: l, bs, xs, h, r => by
    unfold bools at h
    split at h
    · cases ‹_ :: _ = []›
    · rename_i b r' hh
      injection hh with e1 e2
      subst e1 e2
      cases e : bools l with
      | none => rw [e] at h; cases h
      | some bs' =>
        rw [e] at h
        cases h
        cases r with
        | cons r1 r2 =>
          cases r1
          rw [bools_of e r2]
          rfl
    · cases h
end
section
variable {c : C}
theorem cd_len : CallD c (.builtin "len") dLen := by
  refine ⟨_, call_len, fun O H xs ds d t r e Q q => ?_⟩
  unfold dLen at e
  split at e
  · cases e
    obtain ⟨v, rfl, h⟩ := r.one
    obtain ⟨rfl, hz⟩ := h.str
    exact ⟨_, _, rfl, ⟨hz.2, rfl⟩, q _ _ same_nil (.int _)⟩
  · cases e
    obtain ⟨v, rfl, h⟩ := r.one
    obtain ⟨p, ys, rfl, h1, h2⟩ := h.lst
    exact ⟨_, _, rfl, .inl ⟨ys, h1, h2.len.symm⟩, q _ _ same_nil (.int _)⟩
  · cases e
    obtain ⟨v, rfl, h⟩ := r.one
    obtain ⟨p, ys, rfl, h1, h2⟩ := h.tup
    exact ⟨_, _, rfl, .inr ⟨ys, h1, h2.len.symm⟩, q _ _ same_nil (.int _)⟩
  · cases e
theorem cd_all (hc : c.X.calm = true) : CallD c (.builtin "all") dAll := by
  refine ⟨_, cr_all hc, fun O H xs ds d t r e Q q => ?_⟩
  unfold dAll at e
  split at e
  · rename_i l
    cases eb : bools l with
    | none => rw [eb] at e; cases e
    | some bs =>
      rw [eb] at e
      cases e
      obtain ⟨v, rfl, h⟩ := r.one
      obtain ⟨p, ys, rfl, h1, h2⟩ := h.lst
      rw [bools_of eb h2] at h1
      exact ⟨_, _, rfl, h1, q _ _ same_nil (.bl _)⟩
  · cases e
theorem cd_any (hc : c.X.calm = true) : CallD c (.builtin "any") dAny := by
  refine ⟨_, cr_any hc, fun O H xs ds d t r e Q q => ?_⟩
  unfold dAny at e
  split at e
  · rename_i l
    cases eb : bools l with
    | none => rw [eb] at e; cases e
    | some bs =>
      rw [eb] at e
      cases e
      obtain ⟨v, rfl, h⟩ := r.one
      obtain ⟨p, ys, rfl, h1, h2⟩ := h.lst
      rw [bools_of eb h2] at h1
      exact ⟨_, _, rfl, h1, q _ _ same_nil (.bl _)⟩
  · cases e
theorem cd_tuple : CallD c (.type "tuple") dTuple := by
  refine ⟨_, call_tuple_of, fun O H xs ds d t r e Q q => ?_⟩
  unfold dTuple at e
  split at e
  · cases e
    obtain ⟨v, rfl, h⟩ := r.one
    obtain ⟨p, ys, rfl, h1, h2⟩ := h.lst
    exact ⟨_, _, rfl, .inl ⟨h1, fun l hl => q _ _ (same_upd hl) (Rp.newT hl h2)⟩⟩
  · cases e
    obtain ⟨v, rfl, h⟩ := r.one
    obtain ⟨p, ys, rfl, h1, h2⟩ := h.tup
    exact ⟨_, _, rfl, .inr ⟨h1, q _ _ same_nil (.tup h1 h2)⟩⟩
  · cases e
theorem cd_list : CallD c (.type "list") dList := by
  refine ⟨_, call_list_of, fun O H xs ds d t r e Q q => ?_⟩
  unfold dList at e
  split at e
  · cases e
    obtain ⟨v, rfl, h⟩ := r.one
    obtain ⟨p, ys, rfl, h1, h2⟩ := h.lst
    exact ⟨_, _, rfl, .inl h1, fun l hl => q _ _ (same_upd hl) (Rp.newL t hl h2)⟩
  · cases e
    obtain ⟨v, rfl, h⟩ := r.one
    obtain ⟨p, ys, rfl, h1, h2⟩ := h.tup
    exact ⟨_, _, rfl, .inr h1, fun l hl => q _ _ (same_upd hl) (Rp.newL t hl h2)⟩
  · cases e
theorem cd_int : CallD c (.type "int") dInt := by
  refine ⟨_, call_int1, fun O H xs ds d t r e Q q => ?_⟩
  unfold dInt at e
  split at e
  · cases e
    obtain ⟨v, rfl, h⟩ := r.one
    rw [h.int]
    exact .inl ⟨_, rfl, q _ _ same_nil (.int _)⟩
  · cases e
    obtain ⟨v, rfl, h⟩ := r.one
    rw [h.bl]
    exact .inr ⟨_, rfl, q _ _ same_nil (.int _)⟩
  · cases e
theorem cd_max (hc : c.X.calm = true) : CallD c (.builtin "max") dMax := by
  refine ⟨_, call_max2 hc, fun O H xs ds d t r e Q q => ?_⟩
  unfold dMax at e
  split at e
  · cases e
    obtain ⟨v, w, rfl, h1, h2⟩ := r.two
    rw [h1.int, h2.int]
    exact ⟨_, _, rfl, q _ _ same_nil (.int _)⟩
  · cases e
theorem cd_min (hc : c.X.calm = true) : CallD c (.builtin "min") dMin := by
  refine ⟨_, call_min2 hc, fun O H xs ds d t r e Q q => ?_⟩
  unfold dMin at e
  split at e
  · cases e
    obtain ⟨v, w, rfl, h1, h2⟩ := r.two
    rw [h1.int, h2.int]
    exact ⟨_, _, rfl, q _ _ same_nil (.int _)⟩
  · cases e
end
end Den

namespace Den
open PySem PySem.Spec PyProof.Rows L2

/-! ### isinstance with a built-in class -/
def isTys : List String := ["str", "tuple", "int", "bool", "list"]
def dIsi (T : String) : D → Option D
  | .none => some (.bool false)
  | .bool _ => some (.bool (decide (T = "bool") || decide (T = "int")))
  | .int _ => some (.bool (decide (T = "int")))
  | .str _ => some (.bool (decide (T = "str")))
  | .list _ => some (.bool (decide (T = "list")))
  | .tuple _ => some (.bool (decide (T = "tuple")))
  | .dict _ => none
theorem kit_none : ∀ T ∈ isTys, kitB "NoneType" T = some false := by decide +kernel
theorem kit_bool : ∀ T ∈ isTys, kitB "bool" T = some (decide (T = "bool") || decide (T = "int")) := by decide +kernel
theorem kit_int : ∀ T ∈ isTys, kitB "int" T = some (decide (T = "int")) := by decide +kernel
theorem kit_str : ∀ T ∈ isTys, kitB "str" T = some (decide (T = "str")) := by decide +kernel
theorem kit_list : ∀ T ∈ isTys, kitB "list" T = some (decide (T = "list")) := by decide +kernel
theorem kit_tuple : ∀ T ∈ isTys, kitB "tuple" T = some (decide (T = "tuple")) := by decide +kernel
section
variable {c : C} {lv : Bool} {a e : Expr} {es : List Expr} {f : Ex} {fs : List Ex} {x : Str} {p p1 p2 pos : Pos}
theorem snd_isi {i T' : Str} {T : String} (hT : T ∈ isTys) (ha : Snd c false a f) (hs : noStar a = true) (hg : Gl c.X i) (hm : c.X.mg i = none) (hv : bootBuiltins i = some (.builtin "isinstance")) (hn : i ≠ "__name__") (hd : (i == ("__debug__" : Str)) = false)
    (hgT : Gl c.X T') (hmT : c.X.mg T' = none) (hvT : bootBuiltins T' = some (.type T)) (hnT : T' ≠ "__name__") (hdT : (T' == ("__debug__" : Str)) = false) :
    Snd c lv (.Call (.Name i p) [a, .Name T' p1] [] pos) (cUn (dIsi T) f) := fun ρ σ H O S r hr => by
  have pp := pe_callB (X := c.X) (p := p) (pos := pos) call_isi hg hm hv (pa_cons (pe_de (e := a)) (pa_cons (pe_bltn (x := T') (v := .ty T) (pos := p1) hgT hmT hvT rfl hnT hdT) pa_nil) (star_cons hs)) hn hd (star_cons hs) rfl
  cases r with
  | ok d =>
    obtain ⟨y, h1, h2⟩ := eb_ok hr
    have h3 := pu_ok h2
    intro Q q
    refine de_of pp (ha.ok S h1 fun v H1 s1 r1 => ?_)
    have rb := r1.b
    have t := (S.same s1).trk
    cases y with
    | none => cases h3; rw [rb.non]; exact ⟨_, _, _, _, _, rfl, .ty T, .base .non, kit_ty (kit_none T hT), q _ _ s1 (.of (.bl _))⟩
    | bool b => cases h3; rw [rb.bl]; exact ⟨_, _, _, _, _, rfl, .ty T, .base (.bl _), kit_ty (kit_bool T hT), q _ _ s1 (.of (.bl _))⟩
    | int b => cases h3; rw [rb.int]; exact ⟨_, _, _, _, _, rfl, .ty T, .base (.int _), kit_ty (kit_int T hT), q _ _ s1 (.of (.bl _))⟩
    | str b => cases h3; rw [rb.str.1]; exact ⟨_, _, _, _, _, rfl, .ty T, .base (.str _), kit_ty (kit_str T hT), q _ _ s1 (.of (.bl _))⟩
    | list b =>
      cases h3
      obtain ⟨p, xs, rfl, g1, g2⟩ := rb.lst
      have ty : TyX c.X.K H1 (.ref p) (.type "list") := by
        rcases g1 with (g | ⟨o, g⟩) | ⟨o, its, n, g, g', _⟩
        · exact .base (.lst g)
        · exact .base (.frz g)
        · exact .kList g g'
      exact ⟨_, _, _, _, _, rfl, .ty T, ty, kit_ty (kit_list T hT), q _ _ s1 (.of (.bl _))⟩
    | tuple b =>
      cases h3
      obtain ⟨p, xs, rfl, g1, g2⟩ := rb.tup
      have ty : TyX c.X.K H1 (.ref p) (.type "tuple") := by
        rcases g1 with (g | ⟨o, g⟩) | ⟨o, its, n, g, g', _⟩
        · exact .base (.tup g)
        · exact .fTuple g
        · exact .kTuple g g'
      exact ⟨_, _, _, _, _, rfl, .ty T, ty, kit_ty (kit_tuple T hT), q _ _ s1 (.of (.bl _))⟩
    | dict b => cases h3
  | error z =>
    intro q Q
    rcases eb_er hr with h1 | ⟨y, h1, h2⟩
    · exact de_of pp (ha.er S h1 q)
    · exact (pu_er h2).elim

/-! ### methods of what is built in -/
def cMt (o : D → List D → Option D) (f : Ex) (fs : List Ex) : Ex := fun ρ => eb (f ρ) fun x => eb (cArgs fs ρ) fun ds => pu (o x ds)
def MtD (c : C) (T : String) (id : String) (o : D → List D → Option D) : Prop :=
  ∃ r : V → List V → Hp → VK → Prop, MtR c.X id r ∧ (∀ (O : Own) (H : Hp) (x : V) (a : D) (ds : List D) (d : D), RB c O H x a → o a ds = some d → tyV c.X.K T x H) ∧
    ∀ (O : Own) (H : Hp) (x : V) (xs : List V) (a : D) (ds : List D) (d : D), Trk c O H → RB c O H x a → RLA c O false H xs ds → o a ds = some d →
    ∀ Q : VK, (∀ v H', Same H H' → Rp c.X.K H' (c.gd O) v d → Q v H') → r x xs H Q
/-- no bare call ahead of the dot -/
def noSuper : Expr → Bool
  | .Call _ [] [] _ => false
  | _ => true
theorem base_of {o : Expr} {n : Str} {env : Env} {w : Sem Value} (h : noSuper o = true) : attributeBase o n env w = w := by
  unfold attributeBase
  split
  · cases h
  · rfl
theorem few_of {es : List Expr} {env : Env} {cpos : Pos} (hs : es.all noStar = true) (hl : es.length < 30) : ((backTo cpos (starEach es env)).all (fun x => !x.1) && (backToKw cpos (keywordEach [] env)).all (fun x => x.1.isSome)
      && decide (es.length + ([] : List Keyword).length + (if ([] : List Keyword).isEmpty then 0 else 1) < 30)) = true := by
  have h1 : ∀ es : List Expr, es.all noStar = true → (backTo cpos (starEach es env)).all (fun x => !x.1) = true := by
    intro es
    induction es with
    | nil => intro _; rfl
    | cons e es ih =>
      intro h
      rw [List.all_cons, Bool.and_eq_true] at h
      rw [star_cons h.1]
      show (!false && (backTo cpos (starEach es env)).all (fun x => !x.1)) = true
      rw [ih h.2]
      rfl
  rw [h1 es hs]
  have : decide (es.length + ([] : List Keyword).length + (if ([] : List Keyword).isEmpty then 0 else 1) < 30) = true := by
    simp
    omega
  rw [this]
  rfl
theorem cMt_run {T id : String} {o : D → List D → Option D} (hm : MtD c T id o) (ha : Snd c false a f) (h : SndA c false es fs) {ρ : Rho} {σ : L2.St} {H : Hp} {O : Own} (S : SR c σ H ρ O) {r : Except Str D} (hr : cMt o f fs ρ = some r) :
    ∃ rr, MtR c.X id rr ∧ match r with
      | .ok d => ∀ Q : VK, (∀ v H', Same H H' → Rp c.X.K H' (c.gd O) v d → Q v H') → De c.X a σ H fun x H1 => tyV c.X.K T x H1 ∧ DeA c.X es σ H1 fun xs H2 => rr x xs H2 Q
      | .error z => (∀ A H', Same H H' → c.X.mg z = some (.ref A) → c.W (.ref A) none σ H') → ∀ Q : VK, f ρ = some (.error z) ∨ True := by
  obtain ⟨rr, h1, ht, h2⟩ := hm
  refine ⟨rr, h1, ?_⟩
  cases r with
  | ok d =>
    obtain ⟨x, e1, hr2⟩ := eb_ok hr
    obtain ⟨ds, e2, hr3⟩ := eb_ok hr2
    have e3 := pu_ok hr3
    intro Q q
    refine ha.ok S e1 fun v H1 s1 r1 => ⟨ht O H1 v x ds d r1.b e3, ?_⟩
    refine h ρ σ H1 O (S.same s1) _ e2 _ fun vs H2 s2 r2 => ?_
    exact h2 O H2 v vs x ds d ((S.same s1).same s2).trk (r1.b.same s2) r2 e3 Q fun v' H' s' r' => q v' H' ((s1.trans s2).trans s') r'
  | error z => exact fun _ _ => .inr trivial
/-- only where nothing is raised -/
def okE (x : Re) : Re := match x with
  | some (.ok d) => some (.ok d)
  | _ => none
theorem okE_inv {x : Re} {r : Except Str D} (h : okE x = some r) : ∃ d, r = .ok d ∧ x = some (.ok d) := by
  unfold okE at h
  split at h
  · cases h; exact ⟨_, rfl, rfl⟩
  · cases h
def cMtO (o : D → List D → Option D) (f : Ex) (fs : List Ex) : Ex := fun ρ => okE (cMt o f fs ρ)
theorem snd_mt {T id : String} {o : D → List D → Option D} {name : Str} {apos : Pos} (hm : MtD c T id o) (pa : PlainAttrs T) (slot : Slot T name id) (hty : typeOf (.builtin id) = pure (.type "method_descriptor")) (ha : Snd c false a f) (h : SndA c false (e :: es) fs)
    (hb : noSuper a = true) (hs : (e :: es).all noStar = true) (hl : (e :: es).length < 30) (hline : (apos.endLine == pos.line) = true) : Snd c lv (.Call (.Attribute a name apos) (e :: es) [] pos) (cMtO o f fs) := fun ρ σ H O S r hr => by
  obtain ⟨d, rfl, hr1⟩ := okE_inv (show okE (cMt o f _ ρ) = _ from hr)
  obtain ⟨rr, h1, run⟩ := cMt_run hm ha h S hr1
  have hs' := hs
  rw [List.all_cons, Bool.and_eq_true] at hs'
  have pp := pe_bm (X := c.X) (apos := apos) (cpos := pos) pa slot hty h1 (pe_de (e := a)) (pa_de (es := e :: es)) (base_of hb) (few_of hs hl) hline (star_cons hs'.1) (star_none pos hs'.2)
  exact fun Q q => de_of pp (run Q fun v H' s r => q v H' s (.of r))
theorem snd_mt0 {T id : String} {o : D → List D → Option D} {name : Str} {apos : Pos} (hm : MtD c T id o) (pa : PlainAttrs T) (slot : Slot T name id) (hty : typeOf (.builtin id) = pure (.type "method_descriptor")) (ha : Snd c false a f)
    (hb : noSuper a = true) (hline : (apos.endLine == pos.line) = true) : Snd c lv (.Call (.Attribute a name apos) [] [] pos) (cMtO o f []) := fun ρ σ H O S r hr => by
  obtain ⟨d, rfl, hr1⟩ := okE_inv (show okE (cMt o f _ ρ) = _ from hr)
  obtain ⟨rr, h1, ht, h2⟩ := hm
  have pp := pe_bm0 (X := c.X) (apos := apos) (cpos := pos) pa slot hty h1 (pe_de (e := a)) (base_of hb) hline
  obtain ⟨x, e1, hr2⟩ := eb_ok hr1
  obtain ⟨ds, e2, hr3⟩ := eb_ok hr2
  have e3 := pu_ok hr3
  cases e2
  exact fun Q q => de_of pp (ha.ok S e1 fun v H1 s1 r1 => ⟨ht O H1 v x [] d r1.b e3, h2 O H1 v [] x [] d (S.same s1).trk r1.b .nil e3 Q fun v' H' s' r' => q v' H' (s1.trans s') (.of r')⟩)

/-! texts -/
def strsOf : List D → Option (List Str)
  | [] => some []
  | .str x :: r => (strsOf r).map (x :: ·)
  | _ => none
def dSplit : D → List D → Option D
  | .str a, [.str b] => if !(b.length == 0) && decide (a.length + 2 ≤ sizeLine) then some (.list ((Txt.split a b).map .str)) else none
  | _, _ => none
def joinSz (a : Str) (ys : List Str) : Bool := decide ((ys.map (·.length)).sum + ys.length * a.length ≤ 16777216)
def dJoin : D → List D → Option D
  | .str a, [.list l] => match strsOf l with
    | some ys => if joinSz a ys then some (.str (Txt.join a ys)) else none
    | none => none
  | .str a, [.tuple l] => match strsOf l with
    | some ys => if joinSz a ys then some (.str (Txt.join a ys)) else none
    | none => none
  | _, _ => none
theorem strsOf_rp {K : PySem.W.Frag} {H : Hp} {ok : Addr → Prop} : ∀ {l : List D} {ys : List Str} {xs : List V}, strsOf l = some ys → RpAll K H ok xs l → xs = ys.map V.str ∧ ∀ y ∈ ys, sOk y
  | [], ys, xs, h, r => by cases h; cases r; exact ⟨rfl, by simp⟩
  | d :: l, ys, xs, h, r => by
    unfold strsOf at h
    split at h
    · cases ‹_ :: _ = []›
    · rename_i b r' hh
      injection hh with e1 e2
      subst e1 e2
      cases e : strsOf l with
      | none => rw [e] at h; cases h
      | some bs' =>
        rw [e] at h
        cases h
        cases r with
        | cons r1 r2 =>
          obtain ⟨h1, h2⟩ := strsOf_rp e r2
          cases r1 with
          | str q =>
            subst h1
            exact ⟨rfl, by simpa using ⟨q, h2⟩⟩
    · cases h
/-- the signs of a joined text -/
theorem mem_join {sep : Str} {k : Nat} : ∀ {ys : List Str}, k ∈ (Str.join sep ys).cps → (∃ y ∈ ys, k ∈ y.cps) ∨ k ∈ sep.cps
  | [], h => by simp [Str.join, Str.empty] at h
  | [x], h => .inl ⟨x, by simp, h⟩
  | x :: y :: r, h => by
    have h' : k ∈ (x.cps ++ sep.cps) ++ (Str.join sep (y :: r)).cps := h
    rw [Array.mem_append, Array.mem_append] at h'
    rcases h' with (h' | h') | h'
    · exact .inl ⟨x, by simp, h'⟩
    · exact .inr h'
    · rcases mem_join h' with ⟨z, hz, hk⟩ | hk
      · exact .inl ⟨z, List.mem_cons_of_mem _ hz, hk⟩
      · exact .inr hk
theorem join_mem {sep : Str} {k : Nat} : ∀ {ys : List Str} {y : Str}, y ∈ ys → (k ∈ y.cps → k ∈ (Str.join sep ys).cps) ∧ y.length ≤ (Str.join sep ys).length
  | [x], y, hy => by
    have : y = x := by simpa using hy
    subst this
    exact ⟨fun h => h, Nat.le_refl _⟩
  | x :: z :: r, y, hy => by
    have e : (Str.join sep (x :: z :: r)).cps = (x.cps ++ sep.cps) ++ (Str.join sep (z :: r)).cps := rfl
    have el : (Str.join sep (x :: z :: r)).length = x.length + sep.length + (Str.join sep (z :: r)).length := by
      show (Str.join sep (x :: z :: r)).cps.size = _
      rw [e, Array.size_append, Array.size_append]
      rfl
    rcases List.mem_cons.mp hy with rfl | hy
    · exact ⟨fun h => by rw [e]; simp [h], by omega⟩
    · obtain ⟨h1, h2⟩ := join_mem (sep := sep) (k := k) hy
      exact ⟨fun h => by rw [e]; simp [h1 h], by omega⟩
theorem sOk_join {a : Str} {ys : List Str} (ha : sOk a) (hy : ∀ y ∈ ys, sOk y) (hz : joinSz a ys = true) : sOk (Txt.join a ys) := by
  have e : Txt.join a ys = Str.join a ys := StrLaws.glued_eq_join a ys
  rw [e]
  refine ⟨?_, ?_⟩
  · unfold PyData.strOk
    rw [Array.all_eq_true']
    intro k hk
    rcases mem_join hk with ⟨y, hy', hk⟩ | hk
    · have := (hy y hy').1
      unfold PyData.strOk at this
      rw [Array.all_eq_true'] at this
      exact this k hk
    · have := ha.1
      unfold PyData.strOk at this
      rw [Array.all_eq_true'] at this
      exact this k hk
  · have h1 := StrLaws.join_length_le a ys
    have h2 := of_decide_eq_true hz
    have := sizeLine_eq
    omega
theorem sOk_split {a b y : Str} (ha : sOk a) (h : y ∈ Txt.split a b) : sOk y := by
  have e := StrLaws.join_split a b
  refine ⟨?_, ?_⟩
  · unfold PyData.strOk
    rw [Array.all_eq_true']
    intro k hk
    have h1 := (join_mem (sep := b) (k := k) h).1 hk
    rw [e] at h1
    have := ha.1
    unfold PyData.strOk at this
    rw [Array.all_eq_true'] at this
    exact this k h1
  · have h1 := (join_mem (sep := b) (k := 0) h).2
    rw [e] at h1
    exact Nat.le_trans h1 ha.2
theorem rp_strs {K : PySem.W.Frag} {H : Hp} {ok : Addr → Prop} : ∀ {ys : List Str}, (∀ y ∈ ys, sOk y) → RpAll K H ok (ys.map V.str) (ys.map PyData.str)
  | [], _ => .nil
  | y :: ys, h => .cons (.str (h y (by simp))) (rp_strs fun z hz => h z (List.mem_cons_of_mem _ hz))
theorem md_split : MtD c "str" "str.split" dSplit := by
  refine ⟨_, mt_split, fun O H x a ds d r e => ?_, fun O H x xs a ds d t r rs e Q q => ?_⟩
  · unfold dSplit at e
    split at e
    · rw [r.str.1]; exact (rfl : "str" = "str")
    · cases e
  · unfold dSplit at e
    split at e
    · split at e
      · rename_i hh
        cases e
        rw [Bool.and_eq_true] at hh
        obtain ⟨rfl, h1⟩ := r.str
        obtain ⟨v, rfl, h2⟩ := rs.one
        obtain ⟨rfl, h3⟩ := h2.str
        exact ⟨_, _, rfl, rfl, by simpa using hh.1, of_decide_eq_true hh.2, fun p hp => q _ _ (same_upd hp) (Rp.newL t hp (rp_strs fun y hy => sOk_split h1 hy))⟩
      · cases e
    · cases e
theorem md_join : MtD c "str" "str.join" dJoin := by
  refine ⟨_, mt_join, fun O H x a ds d r e => ?_, fun O H x xs a ds d t r rs e Q q => ?_⟩
  · unfold dJoin at e
    split at e
    · rw [r.str.1]; exact (rfl : "str" = "str")
    · rw [r.str.1]; exact (rfl : "str" = "str")
    · cases e
  · unfold dJoin at e
    split at e
    · split at e
      · rename_i ys hy
        split at e
        · rename_i hz
          cases e
          obtain ⟨rfl, h1⟩ := r.str
          obtain ⟨v, rfl, h2⟩ := rs.one
          obtain ⟨p, zs, rfl, g1, g2⟩ := h2.lst
          obtain ⟨rfl, h3⟩ := strsOf_rp hy g2
          exact ⟨_, _, _, rfl, rfl, .inl g1, of_decide_eq_true hz, q _ _ same_nil (.str (sOk_join h1 h3 hz))⟩
        · cases e
      · cases e
    · split at e
      · rename_i ys hy
        split at e
        · rename_i hz
          cases e
          obtain ⟨rfl, h1⟩ := r.str
          obtain ⟨v, rfl, h2⟩ := rs.one
          obtain ⟨p, zs, rfl, g1, g2⟩ := h2.tup
          obtain ⟨rfl, h3⟩ := strsOf_rp hy g2
          exact ⟨_, _, _, rfl, rfl, .inr g1, of_decide_eq_true hz, q _ _ same_nil (.str (sOk_join h1 h3 hz))⟩
        · cases e
      · cases e
    · cases e

/-! ### calls of the text's own defs -/
abbrev Fn := List D → Option (Except Str D)
/-- the promise: F of the arguments; lists and dicts in the answer are new, or the arguments' -/
def spD (K : PySem.W.Frag) (mg : Str → Option Value) (n : Nat) (F : Fn) : Sp := fun vs H Q E => vs.length = n ∧ ∃ (ok : Addr → Prop) (ds : List D), RpAll K H ok vs ds ∧ ∃ r, F ds = some r ∧ match r with
  | .ok d => ∀ v H', Same H H' → Rp K H' (fun a => ok a ∨ H a = none) v d → Q v H'
  | .error x => ∀ A H', Same H H' → mg x = some (.ref A) → E (.ref A) none H'
/-- the name x of the module is a def that keeps it -/
structure FnAt (P : Program) (w : World) (K : PySem.W.Frag) (mg : Str → Option Value) (base : Heap) (k : Nat) (x : Str) (n : Nat) (F : Fn) : Prop where
  ex : ∃ f fd ps, FnOk P w K mg base (L2.CX P w) k f fd ps (spD K mg n F) ∧ mg x = some (.ref f) ∧ PySem.W.keepIn K (.ref f) = true ∧ Binds K fd ps []
/-- an argument: a name (that may be lent), or something else -/
inductive Ar where
  | nm (i : Nat)
  | ex (f : Ex)
def Ar.at (lv : Bool) : Ar → Ex
  | .nm i => cVar lv i
  | .ex f => f
def cCall (F : Fn) (as : List Ar) : Ex := fun ρ => match cArgs (as.map (Ar.at true)) ρ with
  | some (.ok ds) => F ds
  | some (.error x) => some (.error x)
  | none => eb (cArgs (as.map (Ar.at false)) ρ) fun ds => eb (F ds) fun d => if plain d then some (.ok d) else none
theorem RLA.len {O : Own} {lv : Bool} {H : Hp} {vs : List V} {ds : List D} (h : RLA c O lv H vs ds) : vs.length = ds.length := by
  induction h with
  | nil => rfl
  | cons _ _ ih => simp [ih]
theorem snd_call {k n : Nat} {F : Fn} {as : List Ar} (FA : FnAt c.X.prog c.X.w c.X.K c.X.mg c.X.base k x n F) (hr : Room k c.X.A) (tk : Takes c.X c.W) (hg : Gl c.X x) (hd : (x == ("__debug__" : Str)) = false) (hs : (e :: es).all noStar = true) (hl : as.length = n)
    (h : ∀ lv, SndA c lv (e :: es) (as.map (Ar.at lv))) : Snd c lv (.Call (.Name x p) (e :: es) [] pos) (cCall F as) := fun ρ σ H O S r hr' => by
  obtain ⟨f, fd, ps, FO, hm, hk, hb⟩ := FA.ex
  have hs' := hs
  rw [List.all_cons, Bool.and_eq_true] at hs'
  have pp := pe_callS (X := c.X) (p := p) (pos := pos) (E := WE c.W) FO hr hg hm hk hb (fun σ => passAt tk σ) (pa_de (es := e :: es)) hd (star_cons hs'.1) (star_none pos hs'.2)
  have alen : ∀ {lv : Bool} {H : Hp} {vs : List V} {ds : List D}, cArgs (as.map (Ar.at lv)) ρ = some (.ok ds) → RLA c O lv H vs ds → vs.length = n := fun {lv H vs ds} h1 h2 => by
    have z1 := cArgs_len h1
    rw [List.length_map] at z1
    rw [h2.len]
    omega
  unfold cCall at hr'
  split at hr'
  · rename_i ds e1
    cases r with
    | ok d =>
      intro Q q
      refine de_of pp (h true ρ σ H O S _ e1 _ fun vs H1 s1 r1 => ?_)
      refine ⟨alen e1 r1, c.gd O, ds, r1.all, _, hr', fun v H' s' r' => ?_⟩
      refine q v H' (s1.trans s') (.of (r'.wide fun a ha => ?_))
      rcases ha with ha | ha
      · exact ha
      · exact (S.same s1).trk.gd ha
    | error z =>
      intro q Q
      refine de_of pp (h true ρ σ H O S _ e1 _ fun vs H1 s1 r1 => ?_)
      exact ⟨alen e1 r1, c.gd O, ds, r1.all, _, hr', fun A H' s' m => q A H' (s1.trans s') m⟩
  · rename_i z e1
    cases hr'
    exact fun q Q => de_of pp (h true ρ σ H O S _ e1 q _)
  · rename_i e1
    cases r with
    | ok d =>
      obtain ⟨ds, h1, h2⟩ := eb_ok hr'
      obtain ⟨d', h3, h4⟩ := eb_ok h2
      split at h4
      · rename_i hp
        cases h4
        intro Q q
        refine de_of pp (h false ρ σ H O S _ h1 _ fun vs H1 s1 r1 => ?_)
        refine ⟨alen h1 r1, c.okF, ds, r1.okF (S.same s1).trk, _, h3, fun v H' s' r' => ?_⟩
        exact q v H' (s1.trans s') (.of (r'.plain_ok hp))
      · cases h4
    | error z =>
      intro q Q
      rcases eb_er hr' with h1 | ⟨ds, h1, h2⟩
      · exact de_of pp (h false ρ σ H O S _ h1 q _)
      · rcases eb_er h2 with h3 | ⟨d', h3, h4⟩
        · refine de_of pp (h false ρ σ H O S _ h1 _ fun vs H1 s1 r1 => ?_)
          exact ⟨alen h1 r1, c.okF, ds, r1.okF (S.same s1).trk, _, h3, fun A H' s' m => q A H' (s1.trans s') m⟩
        · split at h4 <;> cases h4
end
end Den

namespace Den
open PySem PySem.Spec PyProof.Rows L2

/-! ### what a loop walks -/
abbrev Sx := Rho → Option (Except Str (List D))
/-- J gives the items, one after another, whatever is added to the heap meanwhile -/
def WkD (c : C) (O : Own) (H1 : Hp) (J : It) (items : List D) : Prop := ∀ H2, Same H1 H2 →
  (∀ i, i < items.length → J.go i H2) ∧ J.stop items.length H2 ∧ ∀ i x H3, i < items.length → J.yld i H2 x H3 → Same H2 H3 ∧ ∃ d, items[i]? = some d ∧ Rp c.X.K H3 (fun a => c.gd O a ∧ ∃ o, H1 a = some o) x d
def DeI (X : Cx) (tg iter : Expr) : TI := fun σ H R => ∀ pins s, Inv X pins σ H s →
  wpAny (model X.prog X.w) X.A (eval iter X.env) (fun v s1 => wpAny (model X.prog X.w) X.A (pyIter v) (PIE X pins σ tg R) X.xe s1) X.xe s
theorem pi_de {X : Cx} {tg iter : Expr} : PI X tg iter (DeI X tg iter) := ⟨fun pins s σ H R I h => h pins s I⟩
theorem dei_of {X : Cx} {tg iter : Expr} {t : TI} (h : PI X tg iter t) {σ : L2.St} {H : Hp} {R : It → Hp → Prop} (q : t σ H R) : DeI X tg iter σ H R := fun pins s I => h.run pins s σ H R I q
def SndI (c : C) (tg e : Expr) (f : Sx) : Prop := ∀ ρ σ H O, SR c σ H ρ O → ∀ r, f ρ = some r → match r with
  | .ok items => ∀ R : It → Hp → Prop, (∀ J H1, Same H H1 → items.length ≤ sizeLine → WkD c O H1 J items → R J H1) → DeI c.X tg e σ H R
  | .error x => (∀ A H', Same H H' → c.X.mg x = some (.ref A) → c.W (.ref A) none σ H') → ∀ R, DeI c.X tg e σ H R
/-- what is tracked is not too long -/
def SzOk (K : PySem.W.Frag) (H : Hp) : Prop := ∀ a xs, (SqL K H a xs ∨ SqT K H a xs) → xs.length ≤ sizeLine
theorem de_sz {X : Cx} {e : Expr} {σ : L2.St} {H : Hp} {Q : VK} (h : De X e σ H fun v H' => SzOk X.K H' → Q v H') : De X e σ H Q := fun pins s I =>
  thn (h pins s I) fun u s' ⟨v, H', I', r, q⟩ => ⟨v, H', I', r, q fun a xs hx => by
    rcases hx with hx | hx
    · obtain ⟨_, _, _, z⟩ := I'.list hx; exact z
    · obtain ⟨_, _, _, z⟩ := I'.tuple hx; exact z⟩
theorem dea_sz {X : Cx} {es : List Expr} {σ : L2.St} {H : Hp} {Q : List V → Hp → Prop} (h : DeA X es σ H fun v H' => SzOk X.K H' → Q v H') : DeA X es σ H Q := fun pos pins s I =>
  thn (h pos pins s I) fun u s' ⟨v, H', I', r, q⟩ => ⟨v, H', I', r, q fun a xs hx => by
    rcases hx with hx | hx
    · obtain ⟨_, _, _, z⟩ := I'.list hx; exact z
    · obtain ⟨_, _, _, z⟩ := I'.tuple hx; exact z⟩
def signs (z : Str) : List D := z.cps.toList.map fun k => .str ⟨#[k]⟩
def itemsOf : D → Option (Except Str (List D))
  | .list l => some (.ok l)
  | .tuple l => some (.ok l)
  | .str z => some (.ok (signs z))
  | _ => none
def cIt (f : Ex) : Sx := fun ρ => eb (f ρ) itemsOf
section
variable {c : C} {tg e : Expr} {f : Ex}
theorem RpAll.stood {K : PySem.W.Frag} {H1 H2 : Hp} {g : Addr → Prop} {xs : List V} {l : List D} (s : Same H1 H2) (r : RpAll K H1 g xs l) : RpAll K H2 (fun a => g a ∧ ∃ o, H1 a = some o) xs l := r.keep (fun b o q _ => s b o q) fun b o q z => ⟨z, o, q⟩
theorem wk_list {O : Own} {H1 : Hp} {a : Addr} {xs : List V} {l : List D} (g1 : SqL c.X.K H1 a xs) (g2 : RpAll c.X.K H1 (c.gd O) xs l) : WkD c O H1 (Itl c.X.K a) l := fun H2 s2 => by
  have w := walk_list (K := c.X.K) (a := a) (xs := xs)
  have hG : SqL c.X.K H2 a xs := s2.seq g1
  have g3 := g2.stood s2
  rw [← g2.len]
  refine ⟨fun i hi => w.goes i H2 hi hG, w.stops H2 hG, fun i x H3 hi hy => ?_⟩
  obtain ⟨rfl, hx⟩ := w.yields i H2 x H3 hi hG hy
  obtain ⟨d, h1, h2⟩ := g3.get hx
  exact ⟨Same.refl _, d, h1, h2⟩
theorem same_seqT {K : PySem.W.Frag} {H H' : Hp} {a : Addr} {xs : List V} (e : Same H H') (h : SqT K H a xs) : SqT K H' a xs := sqT_keep (fun b o q _ => e b o q) h
theorem wk_tup {O : Own} {H1 : Hp} {a : Addr} {xs : List V} {l : List D} (g1 : SqT c.X.K H1 a xs) (g2 : RpAll c.X.K H1 (c.gd O) xs l) : WkD c O H1 (Itt c.X.K a) l := fun H2 s2 => by
  have w := walk_tup (K := c.X.K) (a := a) (xs := xs)
  have hG : SqT c.X.K H2 a xs := same_seqT s2 g1
  have g3 := g2.stood s2
  rw [← g2.len]
  refine ⟨fun i hi => w.goes i H2 hi hG, w.stops H2 hG, fun i x H3 hi hy => ?_⟩
  obtain ⟨rfl, hx⟩ := w.yields i H2 x H3 hi hG hy
  obtain ⟨d, h1, h2⟩ := g3.get hx
  exact ⟨Same.refl _, d, h1, h2⟩
theorem sOk_sign {z : Str} {k : Nat} {i : Nat} (hz : sOk z) (h : z.cps[i]? = some k) : sOk ⟨#[k]⟩ := by
  have hm : k ∈ z.cps := Array.mem_of_getElem? h
  refine ⟨?_, ?_⟩
  · have h1 := hz.1
    unfold PyData.strOk at h1 ⊢
    rw [Array.all_eq_true'] at h1
    simpa using h1 k hm
  · show 1 ≤ sizeLine
    rw [sizeLine_eq]; decide
theorem wk_str {O : Own} {H1 : Hp} {z : Str} (hz : sOk z) : WkD c O H1 (Its z) (signs z) := fun H2 s2 => by
  have w := walk_str (z := z)
  have el : (signs z).length = z.cps.size := by simp [signs]
  rw [el]
  refine ⟨fun i hi => w.goes i H2 hi trivial, w.stops H2 trivial, fun i x H3 hi hy => ?_⟩
  obtain ⟨rfl, k, hk, rfl⟩ := w.yields i H2 x H3 hi trivial hy
  refine ⟨Same.refl _, .str ⟨#[k]⟩, ?_, .str (sOk_sign hz hk)⟩
  simp [signs, hk]
theorem sndI_it (h : Snd c false e f) : SndI c tg e (cIt f) := fun ρ σ H O S r hr => by
  cases r with
  | ok items =>
    obtain ⟨d, h1, h2⟩ := eb_ok hr
    intro R q
    unfold itemsOf at h2
    split at h2
    · cases h2
      refine dei_of (pi_list pe_de) (de_sz (h.ok S h1 fun v H1 s1 r1 hz => ?_))
      obtain ⟨a, xs, rfl, g1, g2⟩ := r1.b.lst
      exact ⟨a, rfl, ⟨xs, g1⟩, q _ _ s1 (by rw [← g2.len]; exact hz a xs (.inl g1)) (wk_list g1 g2)⟩
    · cases h2
      refine dei_of (pi_tup pe_de) (de_sz (h.ok S h1 fun v H1 s1 r1 hz => ?_))
      obtain ⟨a, xs, rfl, g1, g2⟩ := r1.b.tup
      exact ⟨a, rfl, ⟨xs, g1⟩, q _ _ s1 (by rw [← g2.len]; exact hz a xs (.inr g1)) (wk_tup g1 g2)⟩
    · cases h2
      refine dei_of (pi_str pe_de) (h.ok S h1 fun v H1 s1 r1 => ?_)
      obtain ⟨rfl, hz⟩ := r1.b.str
      refine ⟨_, rfl, q _ _ s1 ?_ (wk_str hz)⟩
      simp only [signs, List.length_map, Array.length_toList]
      exact hz.2
    · cases h2
  | error x =>
    intro q R
    rcases eb_er hr with h1 | ⟨d, h1, h2⟩
    · exact dei_of (pi_list pe_de) (h.er S h1 q)
    · unfold itemsOf at h2
      split at h2 <;> cases h2
/-! range -/
def rngD (lo : Int) (n : Nat) : List D := (List.range n).map fun i => .int (lo + (i : Nat))
def dRange1 : List D → Option (Except Str (List D))
  | [.int j] => if decide (-(2 ^ 62) ≤ j) && decide (j < 2 ^ 62) && decide (j.toNat ≤ sizeLine) then some (.ok (rngD 0 j.toNat)) else none
  | _ => none
def dRange2 : List D → Option (Except Str (List D))
  | [.int i, .int j] => if decide (-(2 ^ 62) ≤ i) && decide (i < 2 ^ 62) && decide (-(2 ^ 62) ≤ j) && decide (j < 2 ^ 62) && decide ((j - i).toNat ≤ sizeLine) then some (.ok (rngD i (j - i).toNat)) else none
  | _ => none
def cRange1 (fs : List Ex) : Sx := fun ρ => eb (cArgs fs ρ) dRange1
def cRange2 (fs : List Ex) : Sx := fun ρ => eb (cArgs fs ρ) dRange2
theorem wk_range {O : Own} {H1 : Hp} {lo : Int} {n : Nat} : WkD c O H1 (Itr lo n) (rngD lo n) := fun H2 s2 => by
  have w := walk_range (lo := lo) (n := n)
  have el : (rngD lo n).length = n := by simp [rngD]
  rw [el]
  refine ⟨fun i hi => w.goes i H2 hi trivial, w.stops H2 trivial, fun i x H3 hi hy => ?_⟩
  obtain ⟨rfl, rfl⟩ := w.yields i H2 x H3 hi trivial hy
  refine ⟨Same.refl _, .int (lo + i), ?_, .int _⟩
  simp [rngD, hi]
theorem sndI_range1 {a : Expr} {fs : List Ex} {p pos : Pos} (h : SndA c false [a] fs) (hs : noStar a = true) (hg : Gl c.X "range") (hm : c.X.mg "range" = none) : SndI c tg (.Call (.Name "range" p) [a] [] pos) (cRange1 fs) := fun ρ σ H O S r hr => by
  have pp := pi_range1 (X := c.X) (tg := tg) (p := p) (pos := pos) hg hm (pa_de (es := [a])) (star_cons hs)
  cases r with
  | ok items =>
    obtain ⟨ds, h1, h2⟩ := eb_ok hr
    intro R q
    refine dei_of pp (h ρ σ H O S _ h1 _ fun vs H1 s1 r1 => ?_)
    unfold dRange1 at h2
    split at h2
    · split at h2
      · rename_i hh
        cases h2
        simp only [Bool.and_eq_true, decide_eq_true_eq] at hh
        obtain ⟨v, rfl, r2⟩ := r1.one
        rw [r2.int]
        exact ⟨_, rfl, hh.1.1, hh.1.2, q _ _ s1 (by simpa [rngD] using hh.2) wk_range⟩
      · cases h2
    · cases h2
  | error x =>
    intro q R
    rcases eb_er hr with h1 | ⟨d, h1, h2⟩
    · exact dei_of pp (h ρ σ H O S _ h1 q _)
    · unfold dRange1 at h2
      split at h2
      · split at h2 <;> cases h2
      · cases h2
theorem sndI_range2 {a b : Expr} {fs : List Ex} {p pos : Pos} (h : SndA c false [a, b] fs) (hs : noStar a = true) (hs2 : noStar b = true) (hg : Gl c.X "range") (hm : c.X.mg "range" = none) : SndI c tg (.Call (.Name "range" p) [a, b] [] pos) (cRange2 fs) := fun ρ σ H O S r hr => by
  have pp := pi_range2 (X := c.X) (tg := tg) (p := p) (pos := pos) hg hm (pa_de (es := [a, b])) (by rw [star_cons hs, star_cons hs2]; rfl) (by rw [star_cons hs2]; rfl)
  cases r with
  | ok items =>
    obtain ⟨ds, h1, h2⟩ := eb_ok hr
    intro R q
    refine dei_of pp (h ρ σ H O S _ h1 _ fun vs H1 s1 r1 => ?_)
    unfold dRange2 at h2
    split at h2
    · split at h2
      · rename_i hh
        cases h2
        simp only [Bool.and_eq_true, decide_eq_true_eq] at hh
        obtain ⟨v, w, rfl, r2, r3⟩ := r1.two
        rw [r2.int, r3.int]
        exact ⟨_, _, rfl, ⟨hh.1.1.1.1, hh.1.1.1.2, hh.1.1.2, hh.1.2⟩, q _ _ s1 (by simpa [rngD] using hh.2) wk_range⟩
      · cases h2
    · cases h2
  | error x =>
    intro q R
    rcases eb_er hr with h1 | ⟨d, h1, h2⟩
    · exact dei_of pp (h ρ σ H O S _ h1 q _)
    · unfold dRange2 at h2
      split at h2
      · split at h2 <;> cases h2
      · cases h2
/-! zip of two tuples -/
def zipD (l m : List D) : List D := (l.zip m).map fun p => .tuple [p.1, p.2]
def dZip : List D → Option (Except Str (List D))
  | [.tuple l, .tuple m] => some (.ok (zipD l m))
  | _ => none
def cZip (fs : List Ex) : Sx := fun ρ => eb (cArgs fs ρ) dZip
theorem wk_zipT {O : Own} {H1 : Hp} {a b : Addr} {xs ys : List V} {l m : List D} (g1 : SqT c.X.K H1 a xs) (g2 : RpAll c.X.K H1 (c.gd O) xs l) (g3 : SqT c.X.K H1 b ys) (g4 : RpAll c.X.K H1 (c.gd O) ys m) : WkD c O H1 (RZ.ItzT c.X.K a b) (zipD l m) := fun H2 s2 => by
  have k1 := same_seqT s2 g1
  have k3 := same_seqT s2 g3
  have k2 := g2.stood s2
  have k4 := g4.stood s2
  have e1 := g2.len
  have e2 := g4.len
  have el : (zipD l m).length = min l.length m.length := by simp [zipD]
  rw [el]
  refine ⟨fun i hi => ?_, ⟨xs, ys, k1, k3, by omega⟩, fun i v H3 hi hy => ?_⟩
  · have h1 : i < xs.length := by omega
    have h2 : i < ys.length := by omega
    exact ⟨xs, ys, xs[i], ys[i], k1, k3, by simp [h1], by simp [h2]⟩
  · obtain ⟨T, x, z, rfl, h2, rfl, h4, h5⟩ := hy
    obtain ⟨d1, q1, q2⟩ := k2.get (h4 xs k1)
    obtain ⟨d2, q3, q4⟩ := k4.get (h5 ys k3)
    refine ⟨same_upd h2, .tuple [d1, d2], ?_, .tup (SqT.of upd_same) (RpAll.same (same_upd h2) (.cons q2 (.cons q4 .nil)))⟩
    have e3 : (l.zip m)[i]? = some (d1, d2) := List.getElem?_zip_eq_some.mpr ⟨q1, q3⟩
    simp [zipD, e3]
theorem sndI_zip {a b : Expr} {fs : List Ex} {elts : List Expr} {kk : Nat} {p pos tpos : Pos} (h : SndA c false [a, b] fs) (hs : noStar a = true) (hs2 : noStar b = true) (hg : Gl c.X "zip") (hm : c.X.mg "zip" = none) :
    SndI c (.Tuple elts kk tpos) (.Call (.Name "zip" p) [a, b] [] pos) (cZip fs) := fun ρ σ H O S r hr => by
  have pp := RZ.pi_zipA (X := c.X) (elts := elts) (kk := kk) (tpos := tpos) (p := p) (pos := pos) hg hm (pa_de (es := [a, b])) (star_cons hs) (star_none pos (by simpa using hs2))
  cases r with
  | ok items =>
    obtain ⟨ds, h1, h2⟩ := eb_ok hr
    intro R q
    refine dei_of pp (dea_sz (h ρ σ H O S _ h1 _ fun vs H1 s1 r1 hz => ?_))
    unfold dZip at h2
    split at h2
    · cases h2
      obtain ⟨v, w, rfl, r2, r3⟩ := r1.two
      obtain ⟨p1, xs, rfl, g1, g2⟩ := r2.tup
      obtain ⟨p2, ys, rfl, g3, g4⟩ := r3.tup
      refine ⟨p1, p2, xs, ys, rfl, .inr ⟨g1, g3, q _ _ s1 ?_ (wk_zipT g1 g2 g3 g4)⟩⟩
      have z1 := hz p1 xs (.inr g1)
      have e1 := g2.len
      simp only [zipD, List.length_map, List.length_zip]
      omega
    · cases h2
  | error x =>
    intro q R
    rcases eb_er hr with h1 | ⟨d, h1, h2⟩
    · exact dei_of pp (h ρ σ H O S _ h1 q _)
    · unfold dZip at h2
      split at h2 <;> cases h2
end

/-! ### targets -/
theorem wipe_set {σ : L2.St} {i : Nat} {v : Option V} : ∀ {vs : List Nat}, i ∈ vs → wipe (σ.set i v) vs = wipe σ vs
  | j :: vs, h => by
    unfold wipe
    by_cases hj : i ∈ vs
    · rw [wipe_set hj]
    · have e : i = j := by
        rcases List.mem_cons.mp h with e | e
        · exact e
        · exact absurd e hj
      subst e
      rw [wipe_comm hj, List.set_set]
where wipe_comm {σ : L2.St} {i : Nat} {v : Option V} : ∀ {vs : List Nat}, i ∉ vs → wipe (σ.set i v) vs = (wipe σ vs).set i v
  | [], _ => rfl
  | j :: vs, h => by
    unfold wipe
    have h1 : i ≠ j := fun e => h (by simp [e])
    rw [wipe_comm fun m => h (List.mem_cons_of_mem _ m), List.set_comm _ _ h1]
inductive Tgt where
  | nm (i : Nat)
  | tp (is : List Nat)
def Tgt.slots : Tgt → List Nat
  | .nm i => [i]
  | .tp is => is
def setAll (ρ : Rho) : List Nat → List D → Rho
  | i :: is, d :: ds => setAll (ρ.set i (some (.val d))) is ds
  | _, _ => ρ
def notOwn (ρ : Rho) (i : Nat) : Bool := match ρ[i]? with
  | some (some (.own _)) => false
  | _ => true
/-- the slots with the item in them (they hold nothing of their own) -/
def setT : Tgt → Rho → D → Option Rho
  | .nm i, ρ, d => if notOwn ρ i then some (ρ.set i (some (.val d))) else none
  | .tp is, ρ, .tuple ds => if ds.length = is.length ∧ is.all (notOwn ρ) then some (setAll ρ is ds) else none
  | _, _, _ => none
def gNames : List Nat → TGs
  | [] => gNil
  | i :: r => gCons (gName i) (gNames r)
def gT (K : PySem.W.Frag) : Tgt → TG
  | .nm i => gName i
  | .tp is => gTup K is.length (gNames is)
section
variable {c : C} {σ : L2.St} {H : Hp} {ρ : Rho} {O : Own}
theorem SR.noOwn (S : SR c σ H ρ O) {i : Nat} (h : notOwn ρ i = true) : O i = none := by
  cases e : O i with
  | none => rfl
  | some a =>
    obtain ⟨d, hd⟩ := S.dom i a e
    unfold notOwn at h
    rw [hd] at h
    cases h
theorem SR.set (S : SR c σ H ρ O) {i : Nat} {v : V} {d : D} (h : notOwn ρ i = true) (r : Rp c.X.K H (c.gd O) v d) : SR c (σ.set i (some v)) H (ρ.set i (some (.val d))) O where
  base := S.base
  there := S.there
  val := fun j e he => by
    by_cases hj : i = j
    · subst hj
      by_cases hl : i < ρ.length
      · rw [List.getElem?_set_self hl] at he
        cases he
        exact ⟨v, by rw [List.getElem?_set_self (by rw [← S.len]; exact hl)], r⟩
      · rw [List.getElem?_eq_none (by simpa using hl)] at he; cases he
    · rw [List.getElem?_set_ne hj] at he ⊢
      exact S.val j e he
  own := fun j e he => by
    by_cases hj : i = j
    · subst hj
      by_cases hl : i < ρ.length
      · rw [List.getElem?_set_self hl] at he
        cases he
      · rw [List.getElem?_eq_none (by simpa using hl)] at he; cases he
    · rw [List.getElem?_set_ne hj] at he ⊢
      exact S.own j e he
  inj := S.inj
  fr := S.fr
  dom := fun j a e => by
    by_cases hj : i = j
    · subst hj
      rw [S.noOwn h] at e; cases e
    · rw [List.getElem?_set_ne hj]
      exact S.dom j a e
  len := by simp [S.len]
  exc := fun hc j x he => by
    by_cases hj : i = j
    · subst hj
      by_cases hl : i < ρ.length
      · rw [List.getElem?_set_self hl] at he
        cases he
      · rw [List.getElem?_eq_none (by simpa using hl)] at he; cases he
    · rw [List.getElem?_set_ne hj] at he
      obtain ⟨a, oe, D, h1, h2⟩ := S.exc hc j x he
      exact ⟨a, oe, D, by rw [List.getElem?_set_ne hj]; exact h1, h2⟩
theorem notOwn_set {i j : Nat} {d : D} (h : notOwn ρ j = true) : notOwn (ρ.set i (some (.val d))) j = true := by
  unfold notOwn at *
  by_cases hj : i = j
  · subst hj
    by_cases hl : i < ρ.length
    · rw [List.getElem?_set_self hl]
    · rw [List.getElem?_eq_none (by simpa using hl)]
  · rw [List.getElem?_set_ne hj]
    exact h
theorem names_run {Q : L2.St → Hp → Prop} : ∀ {is : List Nat} {ds : List D} {xs : List V} {σ : L2.St} {ρ : Rho}, SR c σ H ρ O → is.all (notOwn ρ) = true → RpAll c.X.K H (c.gd O) xs ds → ds.length = is.length →
    (∀ σ', SR c σ' H (setAll ρ is ds) O → (∀ vs : List Nat, (∀ i ∈ is, i ∈ vs) → wipe σ' vs = wipe σ vs) → Q σ' H) → gNames is xs σ H Q
  | [], [], _, σ, ρ, S, _, .nil, _, q => ⟨rfl, q σ S fun _ _ => rfl⟩
  | i :: is, d :: ds, _, σ, ρ, S, ho, .cons (v := v) r1 r2, hl, q => by
    rw [List.all_cons, Bool.and_eq_true] at ho
    refine ⟨v, _, rfl, ?_⟩
    show gNames is _ (σ.set i (some v)) H Q
    refine names_run (S.set ho.1 r1) ?_ r2 (by simpa using hl) fun σ' S' w => q σ' S' fun vs hv => ?_
    · rw [List.all_eq_true] at *
      exact fun j hj => notOwn_set (ho.2 j hj)
    · rw [w vs fun j hj => hv j (List.mem_cons_of_mem _ hj)]
      exact wipe_set (hv i (by simp))
end
end Den

namespace Den
open PySem PySem.Spec PyProof.Rows L2

/-! ### a new list or dict -/
def isMut : D → Bool
  | .list _ => true
  | .dict _ => true
  | _ => false
/-- clean; a list or dict is new, and nothing in it holds it -/
def RN (c : C) (O : Own) (H H' : Hp) (v : V) (d : D) : Prop :=
  (isMut d = false ∧ Rp c.X.K H' (c.gd O) v d) ∨ (isMut d = true ∧ ∃ a, v = .ref a ∧ H a = none ∧ c.gd O a ∧ Cont c.X.K H' (fun b => c.gd O b ∧ b ≠ a) a d)
theorem Cont.rp {K : PySem.W.Frag} {H : Hp} {g g' : Addr → Prop} {a : Addr} {d : D} (h : Cont K H g a d) (w : ∀ b, g b → g' b) (ha : g' a) : Rp K H g' (.ref a) d := by
  cases d with
  | list ds => obtain ⟨xs, h1, h2⟩ := h; exact .lst ha (.inl h1) (h2.wide w)
  | dict es =>
    rcases h with ⟨kvs, h1, h2⟩ | ⟨kvs, h1, h2⟩
    · exact .dK ha (.inl h1) (h2.keep (fun _ _ q _ => q) fun b _ _ q => w b q)
    · exact .dT ha (.inl h1) (h2.keep (fun _ _ q _ => q) fun b _ _ q => w b q)
  | none => exact h.elim
  | bool _ => exact h.elim
  | int _ => exact h.elim
  | str _ => exact h.elim
  | tuple _ => exact h.elim
theorem RN.rp {c : C} {O : Own} {H H' : Hp} {v : V} {d : D} (h : RN c O H H' v d) : Rp c.X.K H' (c.gd O) v d := by
  rcases h with ⟨_, h⟩ | ⟨_, a, rfl, _, h1, h2⟩
  · exact h
  · exact h2.rp (fun _ q => q.1) h1
/-- as Snd; a list or dict that comes out is new -/
def SndN (c : C) (e : Expr) (f : Ex) : Prop := ∀ ρ σ H O, SR c σ H ρ O → ∀ r, f ρ = some r → EvP c e σ H (RN c O H) r
theorem SndN.s {c : C} {lv : Bool} {e : Expr} {f : Ex} (h : SndN c e f) : Snd c lv e f := fun ρ σ H O S r hr => by
  cases r with
  | ok d => exact fun Q q => h ρ σ H O S _ hr Q fun v H' s r => q v H' s (.of r.rp)
  | error x => exact fun q Q => h ρ σ H O S _ hr q Q
theorem cont_keep {K : PySem.W.Frag} {H H' : Hp} {g g' : Addr → Prop} {a : Addr} {d : D} (k : ∀ b o, H b = some o → g b ∨ tupO o → H' b = some o) (w : ∀ b o, H b = some o → g b → g' b) (ha : ∀ o, H a = some o → H' a = some o) (h : Cont K H g a d) : Cont K H' g' a d := by
  cases d with
  | list ds => obtain ⟨xs, h1, h2⟩ := h; exact ⟨xs, ha _ h1, h2.keep k w⟩
  | dict es =>
    rcases h with ⟨kvs, h1, h2⟩ | ⟨kvs, h1, h2⟩
    · exact .inl ⟨kvs, ha _ h1, h2.keep k w⟩
    · exact .inr ⟨kvs, ha _ h1, h2.keep k w⟩
  | none => exact h.elim
  | bool _ => exact h.elim
  | int _ => exact h.elim
  | str _ => exact h.elim
  | tuple _ => exact h.elim

/-! ### the inside of a comprehension -/
abbrev noX : WX := fun _ _ _ _ => False
/-- D: the list that grows; nothing inside may hold it -/
def inn (c : C) (Xb : Cx) (W : WX) (H1 : Hp) (D : Addr) (o : HO) (O : Own) : C := { X := Xb, W := W, H0 := upd H1 D o, ok := fun a => c.okF a ∧ a ≠ D, pm := fun a => a = D ∨ ∃ i, O i = some a }
section
variable {c : C} {Xb : Cx} {W : WX} {H1 H : Hp} {D : Addr} {o : HO} {O : Own} {σ : L2.St} {ρ : Rho}
theorem inn_gd (t : Trk c O H1) (hD : H1 D = none) (a : Addr) : (inn c Xb W H1 D o O).gd O a ↔ c.gd O a ∧ a ≠ D := by
  constructor
  · rintro ⟨h | h, ho⟩
    · exact ⟨⟨h.1, ho⟩, h.2⟩
    · have h' : upd H1 D o a = none := h
      have ne : a ≠ D := fun e => by rw [e, upd_same] at h'; cases h'
      rw [upd_ne ne] at h'
      exact ⟨t.gd h', ne⟩
  · rintro ⟨h, ne⟩
    exact ⟨.inl ⟨h.1, ne⟩, h.2⟩
theorem SR.inn (S : SR c σ H1 ρ O) (hX : Xb = c.X) (hD : H1 D = none) (s : Same H1 H) (hH : ∃ o', H D = some o') : SR (inn c Xb W H1 D o O) σ H ρ O := by
  have hK : Xb.K = c.X.K := by rw [hX]
  have t := S.trk
  have w : ∀ b o', H1 b = some o' → c.gd O b → (Den.inn c Xb W H1 D o O).gd O b := fun b o' e g => (inn_gd t hD b).mpr ⟨g, fun z => by rw [z, hD] at e; cases e⟩
  have nD : ∀ {b o'}, (upd H1 D o) b = some o' → b ≠ D → H1 b = some o' := fun {b o'} e ne => by rw [upd_ne ne] at e; exact e
  refine ⟨fun b o' e n => ?_, fun b o' e => ?_, fun i d h => ?_, fun i d h => ?_, S.inj, fun i a h => ?_, S.dom, S.len, by show Xb.calm = false → ∀ (i : Nat) (x : Str), _ → ExAt Xb σ i x; rw [hX]; exact S.exc⟩
  · have ne : b ≠ D := fun z => n (.inl z)
    exact s _ _ (nD e ne)
  · by_cases ne : b = D
    · subst ne; exact hH
    · exact ⟨o', s _ _ (nD e ne)⟩
  · obtain ⟨v, h1, h2⟩ := S.val i d h
    refine ⟨v, h1, ?_⟩
    show Rp Xb.K H _ v d
    rw [hK]
    exact h2.keep (fun b o' q _ => s b o' q) w
  · obtain ⟨a, h1, h2, h3⟩ := S.own i d h
    refine ⟨a, h1, h2, ?_⟩
    show Cont Xb.K H _ a d
    rw [hK]
    exact cont_keep (fun b o' q _ => s b o' q) w (fun o' q => s a o' q) h3
  · obtain ⟨⟨o', q⟩, k⟩ := t.own i a h
    exact ⟨.inl ⟨k, fun z => by rw [z, hD] at q; cases q⟩, .inr (.inr ⟨i, h⟩)⟩
end
def wipeR (ρ : Rho) : List Nat → Rho
  | [] => ρ
  | v :: vs => (wipeR ρ vs).set v none
theorem wipeR_len (ρ : Rho) : ∀ vs : List Nat, (wipeR ρ vs).length = ρ.length
  | [] => rfl
  | v :: vs => by unfold wipeR; rw [List.length_set, wipeR_len ρ vs]
theorem wipeR_some {ρ : Rho} {i : Nat} {x : Sl} : ∀ {vs : List Nat}, (wipeR ρ vs)[i]? = some (some x) → ρ[i]? = some (some x) ∧ i ∉ vs
  | [], h => ⟨h, by simp⟩
  | v :: vs, h => by
    unfold wipeR at h
    by_cases hi : v = i
    · subst hi
      by_cases hv : v < (wipeR ρ vs).length
      · rw [List.getElem?_set_self hv] at h; cases h
      · rw [List.getElem?_eq_none (by simpa using hv)] at h; cases h
    · rw [List.getElem?_set_ne hi] at h
      obtain ⟨h1, h2⟩ := wipeR_some h
      exact ⟨h1, by simp only [List.mem_cons, not_or]; exact ⟨fun e => hi e.symm, h2⟩⟩
theorem wipeR_out {ρ : Rho} {i : Nat} : ∀ {vs : List Nat}, i ∉ vs → (wipeR ρ vs)[i]? = ρ[i]?
  | [], _ => rfl
  | v :: vs, h => by
    have h1 : v ≠ i := fun e => h (by rw [e]; exact List.mem_cons_self)
    have h2 : i ∉ vs := fun m => h (List.mem_cons_of_mem _ m)
    unfold wipeR
    rw [List.getElem?_set_ne h1]
    exact wipeR_out h2
theorem SR.wipe {c : C} {σ : L2.St} {H : Hp} {ρ : Rho} {O : Own} (S : SR c σ H ρ O) {vs : List Nat} (hv : vs.all (notOwn ρ) = true) : SR c (L2.wipe σ vs) H (wipeR ρ vs) O where
  base := S.base
  there := S.there
  val := fun i d h => by
    obtain ⟨h1, h2⟩ := wipeR_some h
    rw [wipe_out h2]
    exact S.val i d h1
  own := fun i d h => by
    obtain ⟨h1, h2⟩ := wipeR_some h
    rw [wipe_out h2]
    exact S.own i d h1
  inj := S.inj
  fr := S.fr
  dom := fun i a h => by
    have : i ∉ vs := fun m => by
      rw [List.all_eq_true] at hv
      rw [S.noOwn (hv i m)] at h; cases h
    rw [wipeR_out this]
    exact S.dom i a h
  len := by rw [wipeR_len, wipe_length]; exact S.len
  exc := fun hc i x h => by
    obtain ⟨h1, h2⟩ := wipeR_some h
    obtain ⟨a, oe, D, h3, h4⟩ := S.exc hc i x h1
    exact ⟨a, oe, D, by rw [wipe_out h2]; exact h3, h4⟩

/-! the tests of a clause -/
def DeTs (X : Cx) (ifs : List Expr) : TT := fun σ H Q => ∀ pins s, Inv X pins σ H s →
  wpAny (model X.prog X.w) X.A (forIn ifs true fun c r => if r = true then do let ok ← isTrue c X.env (eval c X.env); pure (ForInStep.yield ok) else pure (ForInStep.yield r)) (TP X pins σ Q) X.xe s
theorem pts_de {X : Cx} {ifs : List Expr} : PTs X ifs (DeTs X ifs) := ⟨fun pins s σ H Q I h => h pins s I⟩
theorem dets_of {X : Cx} {ifs : List Expr} {t : TT} (h : PTs X ifs t) {σ : L2.St} {H : Hp} {Q : Bool → Hp → Prop} (q : t σ H Q) : DeTs X ifs σ H Q := fun pins s I => h.run pins s σ H Q I q
def SndTs (c : C) (ifs : List Expr) (f : Tx) : Prop := ∀ ρ σ H O, SR c σ H ρ O → ∀ b, f ρ = some (.ok b) → ∀ Q : Bool → Hp → Prop, (∀ H', Same H H' → Q b H') → DeTs c.X ifs σ H Q
def cYes : Tx := fun _ => some (.ok true)
theorem sndTs_nil {c : C} : SndTs c [] cYes := fun ρ σ H O S b h Q q => by
  cases h
  exact dets_of pts_nil (q H (Same.refl _))
theorem sndTs_one {c : C} {t : Expr} {f : Tx} (h : SndT c t f) : SndTs c [t] f := fun ρ σ H O S b hb Q q => dets_of (pts_one pt_de) (h ρ σ H O S _ hb Q q)

theorem wipe_get {σ : L2.St} {i : Nat} : ∀ {vs : List Nat}, i ∈ vs → i < σ.length → (L2.wipe σ vs)[i]? = some none
  | v :: vs, h, hl => by
    unfold L2.wipe
    by_cases e : v = i
    · subst e
      rw [List.getElem?_set_self (by rw [wipe_length]; exact hl)]
    · rw [List.getElem?_set_ne e]
      rcases List.mem_cons.mp h with z | z
      · exact absurd z.symm e
      · exact wipe_get z hl
theorem wipe_idem (σ : L2.St) (vs : List Nat) : L2.wipe (L2.wipe σ vs) vs = L2.wipe σ vs := by
  apply List.ext_getElem?
  intro i
  by_cases h : i ∈ vs
  · by_cases hl : i < σ.length
    · rw [wipe_get h hl, wipe_get h (by rw [wipe_length]; exact hl)]
    · rw [List.getElem?_eq_none (by rw [wipe_length, wipe_length]; omega), List.getElem?_eq_none (by rw [wipe_length]; omega)]
  · rw [wipe_out h]
def lcLoop (t : Tgt) (ft : Tx) (fe : Ex) (ρ : Rho) : List D → Option (List D)
  | [] => some []
  | d :: r => match setT t ρ d with
    | none => none
    | some ρ1 => match ft ρ1 with
      | some (.ok true) => match fe ρ1 with
        | some (.ok y) => (lcLoop t ft fe ρ r).map (y :: ·)
        | _ => none
      | some (.ok false) => lcLoop t ft fe ρ r
      | _ => none
def cLc (src : Sx) (vs : List Nat) (t : Tgt) (ft : Tx) (fe : Ex) : Ex := fun ρ => if vs.all (notOwn ρ) then eb (src ρ) fun items => match lcLoop t ft fe (wipeR ρ vs) items with
    | some out => some (.ok (.list out))
    | none => none
  else none
/-- a target is assigned -/
theorem gT_run {c : C} {σ : L2.St} {H : Hp} {ρ ρ1 : Rho} {O : Own} {t : Tgt} {d : D} {v : V} {vs : List Nat} {Q : L2.St → Hp → Prop} (S : SR c σ H ρ O) (r : Rp c.X.K H (c.gd O) v d) (h : setT t ρ d = some ρ1) (ht : ∀ i ∈ t.slots, i ∈ vs)
    (q : ∀ σ', SR c σ' H ρ1 O → L2.wipe σ' vs = L2.wipe σ vs → Q σ' H) : gT c.X.K t v σ H Q := by
  cases t with
  | nm i =>
    have h : (if notOwn ρ i = true then some (ρ.set i (some (.val d))) else none) = some ρ1 := h
    by_cases hn : notOwn ρ i = true
    · rw [if_pos hn] at h
      cases h
      exact q _ (S.set hn r) (wipe_set (ht i (by simp [Tgt.slots])))
    · rw [if_neg hn] at h
      cases h
  | tp is =>
    cases d with
    | tuple ds =>
      have h : (if ds.length = is.length ∧ is.all (notOwn ρ) = true then some (setAll ρ is ds) else none) = some ρ1 := h
      by_cases hl : ds.length = is.length ∧ is.all (notOwn ρ) = true
      · rw [if_pos hl] at h
        cases h
        cases r with
        | tup s r =>
          refine ⟨_, _, rfl, s, by rw [r.len]; exact hl.1, ?_⟩
          exact names_run S hl.2 r hl.1 fun σ' S' w => q σ' S' (w vs ht)
      · rw [if_neg hl] at h
        cases h
    | none => cases h
    | bool _ => cases h
    | int _ => cases h
    | str _ => cases h
    | list _ => cases h
    | dict _ => cases h
theorem SR.chX {c c' : C} {σ : L2.St} {H : Hp} {ρ : Rho} {O : Own} (S : SR c σ H ρ O) (hK : c'.X.K = c.X.K) (h0 : c'.H0 = c.H0) (hok : c'.ok = c.ok) (hpm : c'.pm = c.pm) (hcm : c'.X.calm = true) : SR c' σ H ρ O := by
  obtain ⟨X, W, H0, ok, pm⟩ := c
  obtain ⟨X', W', H0', ok', pm'⟩ := c'
  simp only at hK h0 hok hpm
  subst h0 hok hpm
  refine ⟨S.base, S.there, fun i d h => ?_, fun i d h => ?_, S.inj, S.fr, S.dom, S.len, fun z => absurd (hcm.symm.trans z) (by decide)⟩
  · obtain ⟨v, h1, h2⟩ := S.val i d h
    refine ⟨v, h1, ?_⟩
    show Rp X'.K H _ v d
    rw [hK]
    exact h2
  · obtain ⟨a, h1, h2, h3⟩ := S.own i d h
    refine ⟨a, h1, h2, ?_⟩
    show Cont X'.K H _ a d
    rw [hK]
    exact h3
def TTA (X : Cx) (scope : Scope) (ifs : List Expr) : TT := fun σ' H' Q' => ∀ (s : Shared) (Hb : Hp) (C : Addr) (cl : List (Str × Addr)) (fp : List Addr), DeTs (X.blk s Hb scope (compEnvC scope cl C X.env) fp) ifs σ' H' Q'
def TEA (X : Cx) (scope : Scope) (elt : Expr) : TE := fun σ' H' Q' => ∀ (s : Shared) (Hb : Hp) (C : Addr) (cl : List (Str × Addr)) (fp : List Addr), De (X.blk s Hb scope (compEnvC scope cl C X.env) fp) elt σ' H' Q'
theorem lc_read {c : C} {elt tg iter : Expr} {ifs : List Expr} {scope : Scope} {own : List (Str × Nat)} {src : Sx} {t : Tgt} {ft : Tx} {fe : Ex} (hcm : c.X.calm = true) (hi : SndI c tg iter src)
    (hv : ∀ i ∈ t.slots, i ∈ own.map (·.2))
    (ht : ∀ (s : Shared) (H : Hp) (C : Addr) (cl : List (Str × Addr)) (fp : List Addr) (H0 : Hp) (ok pm : Addr → Prop), SndTs ⟨c.X.blk s H scope (compEnvC scope cl C c.X.env) fp, noX, H0, ok, pm⟩ ifs ft)
    (he : ∀ (s : Shared) (H : Hp) (C : Addr) (cl : List (Str × Addr)) (fp : List Addr) (H0 : Hp) (ok pm : Addr → Prop), Snd ⟨c.X.blk s H scope (compEnvC scope cl C c.X.env) fp, noX, H0, ok, pm⟩ true elt fe)
    {ρ : Rho} {σ : L2.St} {H : Hp} {O : Own} (S : SR c σ H ρ O) {r : Except Str D} (hr : cLc src (own.map (·.2)) t ft fe ρ = some r) : match r with
      | .ok d => ∀ Q : VK, (∀ v H', Same H H' → RN c O H H' v d → Q v H') → tLc (DeI c.X tg iter) (gT c.X.K t) (TTA c.X scope ifs) (TEA c.X scope elt) (own.map (·.2)) σ H Q
      | .error z => (∀ A H', Same H H' → c.X.mg z = some (.ref A) → c.W (.ref A) none σ H') → ∀ Q : VK, tLc (DeI c.X tg iter) (gT c.X.K t) (TTA c.X scope ifs) (TEA c.X scope elt) (own.map (·.2)) σ H Q := by
  unfold cLc at hr
  split at hr
  · rename_i hno
    cases r with
    | error z =>
      intro q Q
      rcases eb_er hr with h1 | ⟨items, h1, h2⟩
      · exact (hi ρ σ H O S _ h1 q _)
      · split at h2 <;> cases h2
    | ok d =>
      obtain ⟨items, h1, h2⟩ := eb_ok hr
      split at h2
      · rename_i out hout
        cases h2
        intro Q q
        refine (hi ρ σ H O S _ h1 _ fun J H1 s1 hz wk => ?_)
        intro D hD
        have S1 := S.same s1
        have t1 := S1.trk
        -- the walk as HandS has it
        have W : Walk J items.length (fun H2 => Same H1 H2) (fun i H2 x H3 => Same H2 H3 ∧ ∃ d, items[i]? = some d ∧ Rp c.X.K H3 (fun a => c.gd O a ∧ ∃ o, H1 a = some o) x d) :=
          ⟨fun i H2 hi' g => (wk H2 g).1 i hi', fun H2 g => (wk H2 g).2.1, fun i H2 x H3 hi' g y => (wk H2 g).2.2 i x H3 hi' y⟩
        refine lc_it (g := gT c.X.K t) (tt := TTA c.X scope ifs) (te := TEA c.X scope elt) (vs := own.map (·.2)) (σ := σ) (Qd := fun H => Q (.ref D) H) W (fun i H2 => Same H1 H2 ∧ ∃ acc out0 rest, H2 D = some (.lst acc) ∧ acc.length ≤ i ∧ RpAll c.X.K H2 (fun a => c.gd O a ∧ a ≠ D) acc out0 ∧ lcLoop t ft fe (wipeR ρ (own.map (·.2))) (items.drop i) = some rest ∧ out = out0 ++ rest)
          ⟨same_upd hD, [], [], out, upd_same, Nat.le_refl _, .nil, hout, rfl⟩ (fun i H2 _ h => h.1) ?_ ?_
        · rintro i x H2 H3 hil ⟨s2, acc, out0, rest, hD2, hal, r2, hl, ho⟩ ⟨s3, d, hd, rd⟩
          have hdrop : items.drop i = d :: items.drop (i + 1) := by
            rw [List.drop_eq_getElem_cons hil]
            have := List.getElem?_eq_getElem hil
            rw [this] at hd
            cases hd; rfl
          rw [hdrop] at hl
          unfold lcLoop at hl
          split at hl
          · cases hl
          · rename_i ρ1 hset
            have s13 : Same H1 H3 := s2.trans s3
            have hD3 : H3 D = some (.lst acc) := s3 _ _ hD2
            have r3 := r2.same s3
            -- the state inside
            have Sw := S1.wipe hno
            have S0 : SR (inn c c.X noX H1 D (.lst []) O) (L2.wipe σ (own.map (·.2))) H3 (wipeR ρ (own.map (·.2))) O := Sw.inn rfl hD s13 ⟨_, hD3⟩
            have gdI : ∀ (Xb : Cx) a, (inn c Xb noX H1 D (.lst []) O).gd O a ↔ c.gd O a ∧ a ≠ D := fun Xb a => inn_gd t1 hD a
            have rd0 : Rp c.X.K H3 ((inn c c.X noX H1 D (.lst []) O).gd O) x d := rd.wide fun a ⟨g, o, e⟩ => (gdI _ a).mpr ⟨g, fun z => by rw [z, hD] at e; cases e⟩
            refine gT_run (c := inn c c.X noX H1 D (.lst []) O) S0 rd0 hset hv fun σ2 S2 w2 => ⟨by rw [w2, wipe_idem], ?_⟩
            split at hl
            · rename_i hft
              split at hl
              · rename_i y hfe
                cases hrest : lcLoop t ft fe (wipeR ρ (own.map (·.2))) (items.drop (i + 1)) with
                | none => rw [hrest] at hl; cases hl
                | some rest' =>
                  rw [hrest] at hl
                  cases hl
                  intro s Hb C cl fp
                  have S2b := S2.chX (c' := inn c (c.X.blk s Hb scope (compEnvC scope cl C c.X.env) fp) noX H1 D (.lst []) O) rfl rfl rfl rfl hcm
                  refine ht s Hb C cl fp _ _ _ ρ1 σ2 H3 O S2b true hft _ fun H4 s4 => ?_
                  rw [if_pos rfl]
                  intro s' Hb' C' cl' fp'
                  have S2c := (S2.chX (c' := inn c (c.X.blk s' Hb' scope (compEnvC scope cl' C' c.X.env) fp') noX H1 D (.lst []) O) rfl rfl rfl rfl hcm).same s4
                  refine (he s' Hb' C' cl' fp' _ _ _).ok S2c hfe fun v H5 s5 r5 => ?_
                  have r5 : Rp c.X.K H5 ((inn c (c.X.blk s' Hb' scope (compEnvC scope cl' C' c.X.env) fp') noX H1 D (.lst []) O).gd O) v y := r5
                  have s35 : Same H3 H5 := s4.trans s5
                  have hD5 : H5 D = some (.lst acc) := s35 _ _ hD3
                  refine ⟨acc, hD5, by omega, fun b o' e => ?_, acc ++ [v], out0 ++ [y], rest', upd_same, by simp; omega, ?_, rfl, by simp [ho]⟩
                  · rw [upd_ne (ne_of_none e hD)]
                    exact s35 _ _ (s13 _ _ e)
                  · have keepD : ∀ b o', H5 b = some o' → (c.gd O b ∧ b ≠ D) ∨ tupO o' → upd H5 D (.lst (acc ++ [v])) b = some o' := fun b o' e z => by
                      have ne : b ≠ D := by
                        rcases z with z | z
                        · exact z.2
                        · rintro rfl
                          rw [hD5] at e
                          cases e
                          exact z
                      rw [upd_ne ne]
                      exact e
                    exact ((r3.same s35).app (.cons (r5.wide fun a g => (gdI _ a).mp g) .nil)).keep keepD fun _ _ _ g => g
              · cases hl
            · rename_i hft
              intro s Hb C cl fp
              have S2b := S2.chX (c' := inn c (c.X.blk s Hb scope (compEnvC scope cl C c.X.env) fp) noX H1 D (.lst []) O) rfl rfl rfl rfl hcm
              refine ht s Hb C cl fp _ _ _ ρ1 σ2 H3 O S2b false hft _ fun H4 s4 => ?_
              rw [if_neg (by simp)]
              exact ⟨s13.trans s4, acc, out0, rest, s4 _ _ hD3, by omega, r3.same s4, hl, ho⟩
            · cases hl
        · rintro H2 ⟨s2, acc, out0, rest, hD2, hal, r2, hl, ho⟩
          rw [List.drop_length] at hl
          cases hl
          rw [List.append_nil] at ho
          subst ho
          exact q _ _ (s1.trans s2) (.inr ⟨rfl, D, rfl, s1.free hD, t1.gd hD, acc, hD2, r2⟩)
      · cases h2
  · cases hr
theorem lc_sound {c : C} {elt tg iter : Expr} {ifs : List Expr} {scope : Scope} {own : List (Str × Nat)} {pos : Pos} {src : Sx} {t : Tgt} {ft : Tx} {fe : Ex} (hc : c.X.calm = true) (hN : c.X.N.Nodup) (hi : SndI c tg iter src) (ok : BlkOk c.X.N c.X.env.scope scope own)
    (hg : ∀ (s : Shared) (H : Hp) (C : Addr) (cl : List (Str × Addr)) (fp : List Addr), PG (c.X.blk s H scope (compEnvC scope cl C c.X.env) fp) tg (gT c.X.K t)) (hv : ∀ i ∈ t.slots, i ∈ own.map (·.2))
    (ht : ∀ (s : Shared) (H : Hp) (C : Addr) (cl : List (Str × Addr)) (fp : List Addr) (H0 : Hp) (ok pm : Addr → Prop), SndTs ⟨c.X.blk s H scope (compEnvC scope cl C c.X.env) fp, noX, H0, ok, pm⟩ ifs ft)
    (he : ∀ (s : Shared) (H : Hp) (C : Addr) (cl : List (Str × Addr)) (fp : List Addr) (H0 : Hp) (ok pm : Addr → Prop), Snd ⟨c.X.blk s H scope (compEnvC scope cl C c.X.env) fp, noX, H0, ok, pm⟩ true elt fe)
    (hs : notSet iter = true) : SndN c (.ListComp elt [⟨tg, iter, ifs, 0⟩] scope pos) (cLc src (own.map (·.2)) t ft fe) := fun ρ σ H O S r hr => by
  have pp := pe_lc (X := c.X) (pos := pos) (tt := TTA c.X scope ifs) (te := TEA c.X scope elt) hc hN (pi_de (tg := tg) (iter := iter)) ok hg
    (fun s Hb C cl fp => ⟨fun pins s' σ' H' Q' I' h' => h' s Hb C cl fp pins s' I'⟩) (fun s Hb C cl fp => ⟨fun pins s' σ' H' Q' I' h' => h' s Hb C cl fp pins s' I'⟩) (fun x => by cases iter <;> first | rfl | cases hs)
  have rd := lc_read hc hi hv ht he S hr
  cases r with
  | ok d => exact fun Q q => de_of pp (rd Q q)
  | error z => exact fun q Q => de_of pp (rd q Q)
end Den

namespace Den
open PySem PySem.Spec PyProof.Rows L2
section
variable {c : C} {O : Own} {H H' H0 : Hp} {v : V} {d : D}
theorem RN.back (s : Same H0 H) (h : RN c O H H' v d) : RN c O H0 H' v d := by
  rcases h with h | ⟨m, a, e, h1, h2⟩
  · exact .inl h
  · exact .inr ⟨m, a, e, s.free h1, h2⟩
theorem RpAll.but {K : PySem.W.Frag} {g : Addr → Prop} {p : Addr} {o : HO} {xs : List V} {ds : List D} (h : H p = none) (r : RpAll K H g xs ds) : RpAll K (upd H p o) (fun b => g b ∧ b ≠ p) xs ds :=
  r.keep (fun b o' q _ => (same_upd h) b o' q) fun b o' q z => ⟨z, fun e => by rw [e, h] at q; cases q⟩
theorem RN.newL {p : Addr} {xs : List V} {ds : List D} (t : Trk c O H) (h : H p = none) (r : RpAll c.X.K H (c.gd O) xs ds) : RN c O H (upd H p (.lst xs)) (.ref p) (.list ds) :=
  .inr ⟨rfl, p, rfl, h, t.gd h, xs, upd_same, r.but h⟩
end
section
variable {c : C} {a b e : Expr} {es : List Expr} {f g : Ex} {fs : List Ex} {pos : Pos}
theorem sndN_lst (hl : fs.length ≤ sizeLine) (h : SndA c true es fs) : SndN c (.List es pos) (cLst fs) := fun ρ σ H O S r hr => by
  cases r with
  | ok d =>
    obtain ⟨ds, h1, h2⟩ := eb_ok hr
    cases h2
    intro Q q
    refine de_of (pe_lst pa_de) ?_
    refine h ρ σ H O S _ h1 _ fun vs H1 e1 r1 => ⟨?_, fun p hp => ?_⟩
    · have := r1.all.len
      have h3 := cArgs_len h1
      omega
    · exact q _ _ (e1.trans (same_upd hp)) ((RN.newL (S.same e1).trk hp r1.all).back e1)
  | error x =>
    intro q Q
    refine de_of (pe_lst pa_de) ?_
    rcases eb_er hr with h1 | ⟨ds, _, h2⟩
    · exact h ρ σ H O S _ h1 q _
    · cases h2
theorem sndN_add (ha : Snd c false a f) (hb : Snd c false b g) : SndN c (.BinOp a .Add b pos) (cOp dAdd f g) := fun ρ σ H O S r h => by
  have pp := pe_op (X := c.X) (pos := pos) (OpR.or op_add (OpR.or op_add_ib (OpR.or op_add_str (OpR.or op_catA op_catS)))) (pe_de (e := a)) (pe_de (e := b))
  cases r with
  | error z => exact fun q Q => de_of pp (two_er ha hb S (cOp_er h) q)
  | ok d =>
    obtain ⟨x, y, e1, e2, e⟩ := cOp_ok h
    intro Q q0
    refine de_of pp (two_ok ha hb S e1 e2 fun v w H2 s ra rb => ?_)
    have t := (S.same s).trk
    have q : ∀ v' H', Same H2 H' → RN c O H2 H' v' d → Q v' H' := fun v' H' s' r' => q0 v' H' (s.trans s') (r'.back s)
    unfold dAdd at e
    split at e
    · cases e
      rw [ra.int, rb.int]
      exact .inl ⟨_, _, rfl, rfl, q _ _ same_nil (.inl ⟨rfl, .int _⟩)⟩
    · cases e
      rw [ra.int, rb.bl]
      exact .inr (.inl ⟨_, _, rfl, rfl, q _ _ same_nil (.inl ⟨rfl, .int _⟩)⟩)
    · split at e
      · rename_i hl
        cases e
        obtain ⟨rfl, h1⟩ := ra.str
        obtain ⟨rfl, h2⟩ := rb.str
        exact .inr (.inr (.inl ⟨_, _, rfl, rfl, hl, q _ _ same_nil (.inl ⟨rfl, .str ⟨strOk_app h1.1 h2.1, by rw [len_app]; exact hl⟩⟩)⟩))
      · cases e
    · split at e
      · rename_i hl
        cases e
        obtain ⟨p1, xs, rfl, s1, r1⟩ := ra.tup
        obtain ⟨p2, ys, rfl, s2, r2⟩ := rb.tup
        have z1 := r1.len
        have z2 := r2.len
        refine .inr (.inr (.inr (.inl ⟨p1, p2, xs, ys, rfl, rfl, s1, s2, by omega, fun hx => ?_, fun hx hy => ?_, fun hx hy p hp => ?_⟩)))
        · subst hx
          cases r1
          exact q _ _ same_nil (.inl ⟨rfl, .tup s2 r2⟩)
        · subst hy
          cases r2
          rw [List.append_nil] at q
          exact q _ _ same_nil (.inl ⟨rfl, .tup s1 r1⟩)
        · exact q _ _ (same_upd hp) (.inl ⟨rfl, Rp.newT hp (r1.app r2)⟩)
      · cases e
    · split at e
      · rename_i hl
        cases e
        obtain ⟨p1, xs, rfl, s1, r1⟩ := ra.lst
        obtain ⟨p2, ys, rfl, s2, r2⟩ := rb.lst
        have z1 := r1.len
        have z2 := r2.len
        exact .inr (.inr (.inr (.inr ⟨p1, p2, xs, ys, rfl, rfl, s1, s2, by omega, fun p hp => q _ _ (same_upd hp) (RN.newL t hp (r1.app r2))⟩)))
      · cases e
    · cases e
theorem sndN_list {x : Str} {p : Pos} (hg : Gl c.X x) (hm : c.X.mg x = none) (hv : bootBuiltins x = some (.type "list")) (hn : x ≠ "__name__") (hd : (x == ("__debug__" : Str)) = false) (hs : (e :: es).all noStar = true)
    (h : SndA c false (e :: es) fs) : SndN c (.Call (.Name x p) (e :: es) [] pos) (cFn dList fs) := fun ρ σ H O S r hr => by
  rw [List.all_cons, Bool.and_eq_true] at hs
  have pp := pe_callTy (X := c.X) (p := p) (pos := pos) call_list_of hg hm hv (pa_de (es := e :: es)) hn hd (star_cons hs.1) (star_none pos hs.2)
  cases r with
  | error z =>
    intro q Q
    rcases eb_er hr with h1 | ⟨ds, _, h2⟩
    · exact de_of pp (h ρ σ H O S _ h1 q _)
    · exact (pu_er h2).elim
  | ok d =>
    obtain ⟨ds, h1, h2⟩ := eb_ok hr
    have e := pu_ok h2
    intro Q q0
    refine de_of pp (h ρ σ H O S _ h1 _ fun vs H1 s1 r => ?_)
    have t := (S.same s1).trk
    have q : ∀ v' H', Same H1 H' → RN c O H1 H' v' d → Q v' H' := fun v' H' s' r' => q0 v' H' (s1.trans s') (r'.back s1)
    unfold dList at e
    split at e
    · cases e
      obtain ⟨v, rfl, h⟩ := r.one
      obtain ⟨p, ys, rfl, h1, h2⟩ := h.lst
      exact ⟨_, _, rfl, .inl h1, fun l hl => q _ _ (same_upd hl) (RN.newL t hl h2)⟩
    · cases e
      obtain ⟨v, rfl, h⟩ := r.one
      obtain ⟨p, ys, rfl, h1, h2⟩ := h.tup
      exact ⟨_, _, rfl, .inr h1, fun l hl => q _ _ (same_upd hl) (RN.newL t hl h2)⟩
    · cases e
end

/-! ### statements -/
inductive Out where
  | nx (ρ : Rho)
  | rt (d : D) (ρ : Rho)
  | ex (x : Str) (ρ : Rho)
  | bk (ρ : Rho)
  | ct (ρ : Rho)
abbrev Sd := Rho → Option Out
/-- what was clean stands and is clean -/
def Frm (c : C) (H : Hp) (O : Own) (H' : Hp) (O' : Own) : Prop := ∀ b o, H b = some o → (c.gd O b ∨ tupO o → H' b = some o) ∧ (c.gd O b → c.gd O' b)
theorem Frm.refl {c : C} {H : Hp} {O : Own} : Frm c H O H O := fun _ _ e => ⟨fun _ => e, fun g => g⟩
theorem Frm.trans {c : C} {H H1 H2 : Hp} {O O1 O2 : Own} (a : Frm c H O H1 O1) (b : Frm c H1 O1 H2 O2) : Frm c H O H2 O2 := fun x o e =>
  ⟨fun z => by
    have h1 := (a x o e).1 z
    exact (b x o h1).1 (z.imp (a x o e).2 id), fun g => by
    have h1 := (a x o e).1 (.inl g)
    exact (b x o h1).2 ((a x o e).2 g)⟩
theorem Frm.same {c : C} {H H' : Hp} {O : Own} (s : Same H H') : Frm c H O H' O := fun x o e => ⟨fun _ => s x o e, fun g => g⟩
theorem Rp.frm {c : C} {H H' : Hp} {O O' : Own} {v : V} {d : D} (r : Rp c.X.K H (c.gd O) v d) (f : Frm c H O H' O') : Rp c.X.K H' (c.gd O') v d :=
  r.keep (fun b o e z => (f b o e).1 z) fun b o e z => (f b o e).2 z
def DeS (X : Cx) (st : Stmt) : TS := fun D σ H => ∀ pins s, Inv X pins σ H s → wpAny (model X.prog X.w) X.A (exec st X.env) (SP X pins D) X.xe s
def DeSs (X : Cx) (sts : List Stmt) : TS := fun D σ H => ∀ pins s, Inv X pins σ H s → wpAny (model X.prog X.w) X.A (execs sts X.env) (SP X pins D) X.xe s
theorem ps_de {X : Cx} {st : Stmt} : PS X st (DeS X st) := ⟨fun pins s σ H D I h => h pins s I⟩
theorem pss_de {X : Cx} {sts : List Stmt} : PSs X sts (DeSs X sts) := ⟨fun pins s σ H D I h => h pins s I⟩
theorem des_of {X : Cx} {st : Stmt} {t : TS} (h : PS X st t) {σ : L2.St} {H : Hp} {D : Ends} (q : t D σ H) : DeS X st D σ H := fun pins s I => h.run pins s σ H D I q
theorem dess_of {X : Cx} {sts : List Stmt} {t : TS} (h : PSs X sts t) {σ : L2.St} {H : Hp} {D : Ends} (q : t D σ H) : DeSs X sts D σ H := fun pins s I => h.run pins s σ H D I q
/-- what is asked behind a statement -/
def Post (c : C) (H : Hp) (O : Own) (D : Ends) : Out → Prop
  | .nx ρ' => ∀ σ' H' O', SR c σ' H' ρ' O' → Frm c H O H' O' → D.nx σ' H'
  | .rt d ρ' => ∀ v σ' H' O', SR c σ' H' ρ' O' → Frm c H O H' O' → RB c O' H' v d → D.rt v H'
  | .ex x ρ' => ∀ A σ' H' O', SR c σ' H' ρ' O' → Frm c H O H' O' → c.X.mg x = some (.ref A) → c.W (.ref A) none σ' H'
  | .bk ρ' => ∀ σ' H' O', SR c σ' H' ρ' O' → Frm c H O H' O' → D.bk σ' H'
  | .ct ρ' => ∀ σ' H' O', SR c σ' H' ρ' O' → Frm c H O H' O' → D.ct σ' H'
def SndS (c : C) (st : Stmt) (f : Sd) : Prop := ∀ ρ σ H O, SR c σ H ρ O → ∀ out, f ρ = some out → ∀ D, Post c H O D out → DeS c.X st D σ H
def SndSs (c : C) (sts : List Stmt) (f : Sd) : Prop := ∀ ρ σ H O, SR c σ H ρ O → ∀ out, f ρ = some out → ∀ D, Post c H O D out → DeSs c.X sts D σ H
theorem Post.frm {c : C} {H H1 : Hp} {O O1 : Own} {D : Ends} {out : Out} (f : Frm c H O H1 O1) (p : Post c H O D out) : Post c H1 O1 D out := by
  cases out with
  | nx ρ' => exact fun σ' H' O' S g => p σ' H' O' S (f.trans g)
  | rt d ρ' => exact fun v σ' H' O' S g => p v σ' H' O' S (f.trans g)
  | ex x ρ' => exact fun A σ' H' O' S g => p A σ' H' O' S (f.trans g)
  | bk ρ' => exact fun σ' H' O' S g => p σ' H' O' S (f.trans g)
  | ct ρ' => exact fun σ' H' O' S g => p σ' H' O' S (f.trans g)
/-! blocks -/
def cNx : Sd := fun ρ => some (.nx ρ)
def cSeq (f g : Sd) : Sd := fun ρ => match f ρ with
  | some (.nx ρ') => g ρ'
  | o => o
section
variable {c : C} {st : Stmt} {sts : List Stmt} {f g : Sd} {fe : Ex} {p : Tx} {e : Expr} {pos : Pos}
theorem snds_nil : SndSs c [] cNx := fun ρ σ H O S out h D q => by
  cases h
  exact dess_of pss_nil (q σ H O S .refl)
theorem snds_cons (h1 : SndS c st f) (h2 : SndSs c sts g) : SndSs c (st :: sts) (cSeq f g) := fun ρ σ H O S out h D q => by
  refine dess_of (pss_cons ps_de pss_de) ?_
  show DeS c.X st { D with nx := DeSs c.X sts D } σ H
  unfold cSeq at h
  split at h
  · rename_i ρ' hf
    exact h1 ρ σ H O S _ hf _ fun σ' H' O' S' fr => h2 ρ' σ' H' O' S' _ h D (q.frm fr)
  · rename_i hf
    refine h1 ρ σ H O S _ h _ ?_
    cases out with
    | nx ρ' => exact absurd h (hf ρ')
    | rt d ρ' => exact q
    | ex x ρ' => exact q
    | bk ρ' => exact q
    | ct ρ' => exact q
theorem snds_one (h1 : SndS c st f) : SndSs c [st] f := fun ρ σ H O S out h D q => dess_of (pss_one ps_de) (h1 ρ σ H O S out h D q)
/-! return, if, pass -/
def cRet (fe : Ex) : Sd := fun ρ => match fe ρ with
  | some (.ok d) => some (.rt d ρ)
  | some (.error x) => some (.ex x ρ)
  | none => none
theorem snd_ret (h : Snd c false e fe) : SndS c (.Return (some e) pos) (cRet fe) := fun ρ σ H O S out ho D q => by
  refine des_of (ps_ret pe_de) ?_
  unfold cRet at ho
  split at ho
  · rename_i d hd
    cases ho
    exact h.ok S hd fun v H' s r => q v σ H' O (S.same s) (.same s) r
  · rename_i x hx
    cases ho
    exact h.er S hx fun A H' s m => q A σ H' O (S.same s) (.same s) m
  · cases ho
def cRetN : Sd := fun ρ => some (.rt .none ρ)
theorem snd_retN : SndS c (.Return none pos) cRetN := fun ρ σ H O S out ho D q => by
  cases ho
  exact des_of ps_retN (q .non σ H O S .refl (.inl .non))
theorem snd_pass : SndS c (.Pass pos) cNx := fun ρ σ H O S out ho D q => by
  cases ho
  exact des_of ps_pass (q σ H O S .refl)
def cBreak : Sd := fun ρ => some (.bk ρ)
def cCont : Sd := fun ρ => some (.ct ρ)
def cIfS (p : Tx) (f g : Sd) : Sd := fun ρ => match p ρ with
  | some (.ok b) => if b then f ρ else g ρ
  | some (.error x) => some (.ex x ρ)
  | none => none
theorem snd_ifS {t : Expr} {a b : List Stmt} (ht : SndT c t p) (ha : SndSs c a f) (hb : SndSs c b g) : SndS c (.If t a b pos) (cIfS p f g) := fun ρ σ H O S out ho D q => by
  refine des_of (ps_if pt_de pss_de pss_de) ?_
  unfold cIfS at ho
  split at ho
  · rename_i k hk
    refine ht ρ σ H O S _ hk _ fun H1 s1 => ?_
    cases k with
    | true => exact ha ρ σ H1 O (S.same s1) _ ho D (q.frm (.same s1))
    | false => exact hb ρ σ H1 O (S.same s1) _ ho D (q.frm (.same s1))
  · rename_i x hx
    cases ho
    exact ht ρ σ H O S _ hx (fun A H' s m => q A σ H' O (S.same s) (.same s) m) _
  · cases ho
/-- an expression as a statement -/
def cExpr (fe : Ex) : Sd := fun ρ => match fe ρ with
  | some (.ok _) => some (.nx ρ)
  | some (.error x) => some (.ex x ρ)
  | none => none
def noComp : Expr → Bool
  | .ListComp _ _ _ _ => false
  | .SetComp _ _ _ _ => false
  | .DictComp _ _ _ _ _ => false
  | _ => true
theorem swaps_no {t : Option Expr} {line : Nat} {env : Env} (h : noComp e = true) : swapsWith e t line env = pure false := by
  cases e <;> first | rfl | cases h
theorem snd_expr (h : Snd c false e fe) (hn : noComp e = true) : SndS c (.Expr e pos) (cExpr fe) := fun ρ σ H O S out ho D q => by
  refine des_of (ps_expr pe_de (swaps_no hn)) ?_
  unfold cExpr at ho
  split at ho
  · rename_i d hd
    cases ho
    exact h.ok S hd fun v H' s r => q σ H' O (S.same s) (.same s)
  · rename_i x hx
    cases ho
    exact h.er S hx fun A H' s m => q A σ H' O (S.same s) (.same s) m
  · cases ho
end
end Den

namespace Den
open PySem PySem.Spec PyProof.Rows L2
def Own.del (O : Own) (i : Nat) : Own := fun j => if j = i then none else O j
def Own.put (O : Own) (i : Nat) (a : Addr) : Own := fun j => if j = i then some a else O j
theorem Own.del_ne {O : Own} {i j : Nat} (h : j ≠ i) : O.del i j = O j := if_neg h
theorem Own.del_same {O : Own} {i : Nat} : O.del i i = none := if_pos rfl
theorem Own.put_ne {O : Own} {i j : Nat} {a : Addr} (h : j ≠ i) : O.put i a j = O j := if_neg h
theorem Own.put_same {O : Own} {i : Nat} {a : Addr} : O.put i a i = some a := if_pos rfl
theorem Own.del_some {O : Own} {i j : Nat} {a : Addr} (h : O.del i j = some a) : j ≠ i ∧ O j = some a := by
  by_cases e : j = i
  · subst e; rw [Own.del_same] at h; cases h
  · rw [Own.del_ne e] at h; exact ⟨e, h⟩
/-- put a value into a slot; n: a list or dict becomes the slot's own -/
def put (n : Bool) (i : Nat) (d : D) (ρ : Rho) : Option Rho :=
  if i < ρ.length then some (ρ.set i (some (if n && isMut d then .own d else .val d))) else none
def RQ (n : Bool) (c : C) (O : Own) (H H' : Hp) (v : V) (d : D) : Prop := if n then RN c O H H' v d else Rp c.X.K H' (c.gd O) v d
def SndQ (n : Bool) (c : C) (e : Expr) (f : Ex) : Prop := ∀ ρ σ H O, SR c σ H ρ O → ∀ r, f ρ = some r → EvP c e σ H (RQ n c O H) r
theorem sndQ_t {c : C} {e : Expr} {f : Ex} (h : SndN c e f) : SndQ true c e f := h
theorem sndQ_f {c : C} {e : Expr} {f : Ex} (h : Snd c true e f) : SndQ false c e f := h
section
variable {c : C} {σ : L2.St} {H H1 : Hp} {ρ ρ' : Rho} {O : Own} {i : Nat} {v : V} {d : D} {a : Addr}
theorem gd_del (b : Addr) (h : c.gd O b) : c.gd (O.del i) b := ⟨h.1, fun j e => h.2 j (Own.del_some e).2⟩
theorem SR.setV (S : SR c σ H ρ O) (r : Rp c.X.K H (c.gd O) v d) : SR c (σ.set i (some v)) H (ρ.set i (some (.val d))) (O.del i) where
  base := S.base
  there := S.there
  val := fun j e he => by
    by_cases hj : i = j
    · subst hj
      by_cases hl : i < ρ.length
      · rw [List.getElem?_set_self hl] at he
        cases he
        exact ⟨v, by rw [List.getElem?_set_self (by rw [← S.len]; exact hl)], r.wide gd_del⟩
      · rw [List.getElem?_eq_none (by simpa using hl)] at he; cases he
    · rw [List.getElem?_set_ne hj] at he ⊢
      obtain ⟨u, h1, h2⟩ := S.val j e he
      exact ⟨u, h1, h2.wide gd_del⟩
  own := fun j e he => by
    by_cases hj : i = j
    · subst hj
      by_cases hl : i < ρ.length
      · rw [List.getElem?_set_self hl] at he; cases he
      · rw [List.getElem?_eq_none (by simpa using hl)] at he; cases he
    · rw [List.getElem?_set_ne hj] at he ⊢
      obtain ⟨u, h1, h2, h3⟩ := S.own j e he
      exact ⟨u, h1, by rw [Own.del_ne (Ne.symm hj)]; exact h2, cont_keep (fun _ _ q _ => q) (fun b _ _ g => gd_del b g) (fun _ q => q) h3⟩
  inj := fun j k b h1 h2 => S.inj j k b (Own.del_some h1).2 (Own.del_some h2).2
  fr := fun j b h => S.fr j b (Own.del_some h).2
  dom := fun j b h => by
    obtain ⟨h1, h2⟩ := Own.del_some h
    rw [List.getElem?_set_ne (Ne.symm h1)]
    exact S.dom j b h2
  len := by simp [S.len]
  exc := fun hc j x he => by
    by_cases hj : i = j
    · subst hj
      by_cases hl : i < ρ.length
      · rw [List.getElem?_set_self hl] at he
        cases he
      · rw [List.getElem?_eq_none (by simpa using hl)] at he; cases he
    · rw [List.getElem?_set_ne hj] at he
      obtain ⟨a, oe, D, h1, h2⟩ := S.exc hc j x he
      exact ⟨a, oe, D, by rw [List.getElem?_set_ne hj]; exact h1, h2⟩
theorem gd_put {b : Addr} (h : c.gd O b) (ne : b ≠ a) : c.gd (O.put i a) b := ⟨h.1, fun j e => by
  by_cases hj : j = i
  · subst hj; rw [Own.put_same] at e; cases e; exact ne rfl
  · rw [Own.put_ne hj] at e; exact h.2 j e⟩
theorem SR.setO (S : SR c σ H ρ O) (s : Same H H1) (hn : H a = none) (hg : c.gd O a) (hc : Cont c.X.K H1 (fun b => c.gd O b ∧ b ≠ a) a d) (hi : i < ρ.length) : SR c (σ.set i (some (.ref a))) H1 (ρ.set i (some (.own d))) (O.put i a) := by
  have ne : ∀ b o, H b = some o → b ≠ a := fun b o e z => by rw [z, hn] at e; cases e
  have w : ∀ b o, H b = some o → c.gd O b → c.gd (O.put i a) b := fun b o e g => gd_put g (ne b o e)
  refine ⟨fun b o h n => s _ _ (S.base b o h n), fun b o h => let ⟨o', q⟩ := S.there b o h; ⟨o', s _ _ q⟩, fun j e he => ?_, fun j e he => ?_, fun j k b h1 h2 => ?_, fun j b h => ?_, fun j b h => ?_, by simp [S.len], fun hc j x he => ?ex⟩
  case ex =>
    by_cases hj : i = j
    · subst hj
      rw [List.getElem?_set_self hi] at he; cases he
    · rw [List.getElem?_set_ne hj] at he
      obtain ⟨a, oe, D, h1, h2⟩ := S.exc hc j x he
      exact ⟨a, oe, D, by rw [List.getElem?_set_ne hj]; exact h1, h2⟩
  · by_cases hj : i = j
    · subst hj
      rw [List.getElem?_set_self hi] at he; cases he
    · rw [List.getElem?_set_ne hj] at he ⊢
      obtain ⟨u, h1, h2⟩ := S.val j e he
      exact ⟨u, h1, h2.keep (fun b o q _ => s b o q) w⟩
  · by_cases hj : i = j
    · subst hj
      rw [List.getElem?_set_self hi] at he
      cases he
      exact ⟨a, by rw [List.getElem?_set_self (by rw [← S.len]; exact hi)], Own.put_same, cont_keep (fun _ _ q _ => q) (fun b _ _ g => gd_put g.1 g.2) (fun _ q => q) hc⟩
    · rw [List.getElem?_set_ne hj] at he ⊢
      obtain ⟨u, h1, h2, h3⟩ := S.own j e he
      exact ⟨u, h1, by rw [Own.put_ne (Ne.symm hj)]; exact h2, cont_keep (fun b o q _ => s b o q) w (fun o q => s _ _ q) h3⟩
  · by_cases hj : j = i
    · by_cases hk : k = i
      · rw [hj, hk]
      · subst hj
        rw [Own.put_same] at h1
        rw [Own.put_ne hk] at h2
        cases h1
        exact absurd h2 (hg.2 k)
    · by_cases hk : k = i
      · subst hk
        rw [Own.put_same] at h2
        rw [Own.put_ne hj] at h1
        cases h2
        exact absurd h1 (hg.2 j)
      · rw [Own.put_ne hj] at h1
        rw [Own.put_ne hk] at h2
        exact S.inj j k b h1 h2
  · by_cases hj : j = i
    · subst hj
      rw [Own.put_same] at h
      cases h
      refine ⟨hg.1, .inl ?_⟩
      cases e : c.H0 a with
      | none => rfl
      | some o =>
        obtain ⟨o', q⟩ := S.there a o e
        rw [hn] at q; cases q
    · rw [Own.put_ne hj] at h
      exact S.fr j b h
  · by_cases hj : j = i
    · subst hj
      exact ⟨d, by rw [List.getElem?_set_self hi]⟩
    · rw [Own.put_ne hj] at h
      rw [List.getElem?_set_ne (Ne.symm hj)]
      exact S.dom j b h
/-- a value has come and is put into slot i; meanwhile, and apart from it, the state as it was (the new object hidden) -/
theorem SR.put {n : Bool} (S : SR c σ H ρ O) (s : Same H H1) (r : RQ n c O H H1 v d) (hp : Den.put n i d ρ = some ρ') : ∃ O1, SR c (σ.set i (some v)) H1 ρ' O1 ∧ Frm c H O H1 O1 ∧
    ∃ H0' ok' pm', SR ⟨c.X, c.W, H0', ok', pm'⟩ σ H1 ρ O ∧ ∀ b, C.gd ⟨c.X, c.W, H0', ok', pm'⟩ O b → c.gd O1 b := by
  unfold Den.put at hp
  split at hp
  · rename_i hi
    cases hp
    by_cases hm : (n && isMut d) = true
    · rw [if_pos hm]
      rw [Bool.and_eq_true] at hm
      obtain ⟨rfl, hd⟩ := hm
      rcases r with ⟨z, _⟩ | ⟨_, a, rfl, hn, hg, hc⟩
      · rw [hd] at z; cases z
      · obtain ⟨o, ho⟩ := hc.some
        refine ⟨O.put i a, S.setO s hn hg hc hi, fun b o' e => ⟨fun _ => s _ _ e, fun g => gd_put g fun z => by rw [z, hn] at e; cases e⟩, _, _, _, S.inn (Xb := c.X) (W := c.W) (D := a) (o := o) rfl hn s ⟨o, ho⟩, fun b g => ?_⟩
        have := (inn_gd (Xb := c.X) (W := c.W) (o := o) S.trk hn b).mp g
        exact gd_put this.1 this.2
    · rw [if_neg hm]
      have r' : Rp c.X.K H1 (c.gd O) v d := by
        cases n with
        | true => exact RN.rp r
        | false => exact r
      exact ⟨O.del i, (S.same s).setV r', fun b o' e => ⟨fun _ => s _ _ e, fun g => gd_del b g⟩, c.H0, c.ok, c.pm, S.same s, fun b g => gd_del b g⟩
  · cases hp
end
/-! ### name = e -/
def cSet (n : Bool) (i : Nat) (fe : Ex) : Sd := fun ρ => match fe ρ with
  | some (.ok d) => (put n i d ρ).map .nx
  | some (.error x) => some (.ex x ρ)
  | none => none
section
variable {c : C} {e : Expr} {fe : Ex} {pos pos' : Pos} {i : Nat} {x : Str} {n : Bool}
theorem set_read {t : TE} (rd : ∀ {ρ : Rho} {σ : L2.St} {H : Hp} {O : Own}, SR c σ H ρ O → ∀ r, fe ρ = some r → match r with
      | .ok d => ∀ Q : VK, (∀ v H', Same H H' → RQ n c O H H' v d → Q v H') → t σ H Q
      | .error z => (∀ A H', Same H H' → c.X.mg z = some (.ref A) → c.W (.ref A) none σ H') → ∀ Q : VK, t σ H Q)
    {ρ : Rho} {σ : L2.St} {H : Hp} {O : Own} (S : SR c σ H ρ O) {out : Out} (ho : cSet n i fe ρ = some out) {D : Ends} (q : Post c H O D out) : tAsg t (gName i) D σ H := by
  unfold cSet at ho
  split at ho
  · rename_i d hd
    cases hp : put n i d ρ with
    | none => rw [hp] at ho; cases ho
    | some ρ' =>
      rw [hp] at ho
      cases ho
      refine rd S _ hd _ fun v H1 s1 r1 => ?_
      obtain ⟨O1, S1, f1, _⟩ := S.put s1 r1 hp
      exact q _ _ O1 S1 f1
  · rename_i z hz
    cases ho
    exact rd S _ hz (fun A H' s m => q A σ H' O (S.same s) (.same s) m) _
  · cases ho
theorem snd_set (h : SndQ n c e fe) (hN : c.X.N.Nodup) (hi : c.X.N[i]? = some x) (hx : Loc c.X.env.scope x) (hf : c.X.fn x = true ∨ c.X.env.scope.names.lookup x = some .local) (hs : swapsWith e (some (.Name x pos')) pos.line c.X.env = pure false) :
    SndS c (.Assign [.Name x pos'] e pos) (cSet n i fe) := fun ρ σ H O S out ho D q => by
  refine des_of (ps_set hN hi hx pe_de hs hf) ?_
  exact set_read (n := n) (fun S r hr => h _ _ _ _ S r hr) S ho q
theorem snd_setLc {elt tg iter : Expr} {ifs : List Expr} {scope : Scope} {own : List (Str × Nat)} {src : Sx} {t : Tgt} {ft : Tx} {fx : Ex} {py spos : Pos} {y : Str} (hc : c.X.calm = true) (hN : c.X.N.Nodup) (hy : c.X.N[i]? = some y) (hyl : c.X.env.scope.names.lookup y = some .local)
    (hsw : swapsWith (.ListComp elt [⟨tg, iter, ifs, 0⟩] scope pos) (some (.Name y py)) spos.line c.X.env = pure true) (hi : SndI c tg iter src) (ok : BlkOk c.X.N c.X.env.scope scope own)
    (hg : ∀ (s : Shared) (H : Hp) (C : Addr) (cl : List (Str × Addr)) (fp : List Addr), PG (c.X.blk s H scope (compEnvC scope cl C c.X.env) fp) tg (gT c.X.K t)) (hv : ∀ i ∈ t.slots, i ∈ own.map (·.2))
    (ht : ∀ (s : Shared) (H : Hp) (C : Addr) (cl : List (Str × Addr)) (fp : List Addr) (H0 : Hp) (ok pm : Addr → Prop), SndTs ⟨c.X.blk s H scope (compEnvC scope cl C c.X.env) fp, noX, H0, ok, pm⟩ ifs ft)
    (he : ∀ (s : Shared) (H : Hp) (C : Addr) (cl : List (Str × Addr)) (fp : List Addr) (H0 : Hp) (ok pm : Addr → Prop), Snd ⟨c.X.blk s H scope (compEnvC scope cl C c.X.env) fp, noX, H0, ok, pm⟩ true elt fx)
    (hs : notSet iter = true) : SndS c (.Assign [.Name y py] (.ListComp elt [⟨tg, iter, ifs, 0⟩] scope pos) spos) (cSet true i (cLc src (own.map (·.2)) t ft fx)) := fun ρ σ H O S out ho D q => by
  have pp := ps_setLc (X := c.X) (tt := TTA c.X scope ifs) (te := TEA c.X scope elt) hc hN hy hyl hsw (pi_de (tg := tg) (iter := iter)) ok hg
    (fun s Hb C cl fp => ⟨fun pins s' σ' H' Q' I' h' => h' s Hb C cl fp pins s' I'⟩) (fun s Hb C cl fp => ⟨fun pins s' σ' H' Q' I' h' => h' s Hb C cl fp pins s' I'⟩) (fun x => by cases iter <;> first | rfl | cases hs)
  exact des_of pp (set_read (n := true) (fun S r hr => by
    have rd := lc_read hc hi hv ht he S hr
    cases r with
    | ok d => exact rd
    | error z => exact rd) S ho q)
/-! ### a, b, .. = e -/
def putV : List Nat → List D → Rho → Rho
  | i :: is, d :: ds, ρ => putV is ds (ρ.set i (some (.val d)))
  | _, _, ρ => ρ
def cUnp (is : List Nat) (fe : Ex) : Sd := fun ρ => match fe ρ with
  | some (.ok (.tuple ds)) => if ds.length = is.length then some (.nx (putV is ds ρ)) else none
  | some (.ok _) => none
  | some (.error x) => some (.ex x ρ)
  | none => none
theorem names_runV {Q : L2.St → Hp → Prop} {H : Hp} : ∀ {is : List Nat} {ds : List D} {xs : List V} {σ : L2.St} {ρ : Rho} {O : Own}, SR c σ H ρ O → RpAll c.X.K H (c.gd O) xs ds → ds.length = is.length →
    (∀ σ' O', SR c σ' H (putV is ds ρ) O' → Frm c H O H O' → Q σ' H) → gNames is xs σ H Q
  | [], [], _, σ, ρ, O, S, .nil, _, q => ⟨rfl, q σ O S .refl⟩
  | i :: is, d :: ds, _, σ, ρ, O, S, .cons (v := v) r1 r2, hl, q => by
    refine ⟨v, _, rfl, ?_⟩
    show gNames is _ (σ.set i (some v)) H Q
    refine names_runV (S.setV r1) (r2.wide gd_del) (by simpa using hl) fun σ' O' S' f => q σ' O' S' ?_
    have f1 : Frm c H O H (O.del i) := fun b o' e => ⟨fun _ => e, fun g => gd_del b g⟩
    exact f1.trans f
theorem snd_unp {is : List Nat} {es : List Expr} {k : Nat} {tp : Pos} (h : Snd c true e fe) (hg : PG c.X (.Tuple es k tp) (gT c.X.K (.tp is))) (hs : swapsWithSole [.Tuple es k tp] e pos.line c.X.env = pure false) (hw : swappedStores [.Tuple es k tp] e c.X.env = pure none)
    (h1 : (assignEach [Expr.Tuple es k tp] c.X.env).map (·.2) = [assign (.Tuple es k tp) c.X.env]) : SndS c (.Assign [.Tuple es k tp] e pos) (cUnp is fe) := fun ρ σ H O S out ho D q => by
  refine des_of (ps_asg pe_de hg hs hw h1) ?_
  unfold cUnp at ho
  split at ho
  · rename_i ds hd
    split at ho
    · rename_i hl
      cases ho
      refine h.ok S hd fun v H1 s1 r1 => ?_
      have r1 : Rp c.X.K H1 (c.gd O) v (.tuple ds) := r1
      cases r1 with
      | tup st r =>
        refine ⟨_, _, rfl, st, by rw [r.len]; exact hl, ?_⟩
        exact names_runV (S.same s1) r hl fun σ' O' S' f => q σ' H1 O' S' ((Frm.same s1).trans f)
    · cases ho
  · cases ho
  · rename_i z hz
    cases ho
    exact h.er S hz fun A H' s m => q A σ H' O (S.same s) (.same s) m
  · cases ho
/-! ### x, y = a, b (names of the def's own, stored from the right) -/
def cPar2 (n m : Bool) (i j : Nat) (fa fb : Ex) : Sd := fun ρ => match fa ρ with
  | some (.ok da) => match fb ρ with
    | some (.ok db) => match put n i da ρ with
      | some ρ1 => (put m j db ρ1).map .nx
      | none => none
    | some (.error x) => some (.ex x ρ)
    | none => none
  | some (.error x) => some (.ex x ρ)
  | none => none
theorem snd_par2 {n m : Bool} {i j : Nat} {x y : Str} {a b : Expr} {fa fb : Ex} {px py pt : Pos} {kt k2 : Nat} {pt2 : Pos} (hc : c.X.calm = true) (hN : c.X.N.Nodup) (hi : c.X.N[i]? = some x) (hj : c.X.N[j]? = some y) (hij : i ≠ j)
    (hx : c.X.env.scope.names.lookup x = some .local) (hy : c.X.env.scope.names.lookup y = some .local) (na : noStar a = true) (nb : noStar b = true) (ha : SndQ n c a fa) (hb : ∀ H0 ok pm, SndQ m ⟨c.X, c.W, H0, ok, pm⟩ b fb)
    (hw : swappedStores [.Tuple [.Name x px, .Name y py] kt pt] (.Tuple [a, b] k2 pt2) c.X.env = pure (some [x, y])) : SndS c (.Assign [.Tuple [.Name x px, .Name y py] kt pt] (.Tuple [a, b] k2 pt2) pos) (cPar2 n m i j fa fb) := fun ρ σ H O S out ho D q => by
  have pa : PA c.X [a, b] (tCons (De c.X a) (tCons (De c.X b) tNil)) := pa_cons pe_de (pa_cons pe_de pa_nil (star_cons nb)) (star_cons na)
  refine des_of (ps_par hc hN hi hj hij hx hy pa hw) ?_
  show De c.X a σ H fun v H1 => De c.X b σ H1 fun w H2 => ∃ v' w', [v, w] = [v', w'] ∧ D.nx ((σ.set i (some v')).set j (some w')) H2
  unfold cPar2 at ho
  split at ho
  · rename_i da hda
    split at ho
    · rename_i db hdb
      split at ho
      · rename_i ρ1 hp1
        cases hp2 : put m j db ρ1 with
        | none => rw [hp2] at ho; cases ho
        | some ρ2 =>
          rw [hp2] at ho
          cases ho
          refine ha ρ σ H O S _ hda _ fun v H1 s1 r1 => ?_
          obtain ⟨O1, S1, f1, H0', ok', pm', S', g'⟩ := S.put s1 r1 hp1
          refine hb H0' ok' pm' ρ σ H1 O S' _ hdb _ fun w H2 s2 r2 => ?_
          have r2' : RQ m c O1 H1 H2 w db := by
            cases m with
            | true =>
              rcases r2 with ⟨z, r⟩ | ⟨z, p, e1, e2, e3, e4⟩
              · exact .inl ⟨z, r.wide g'⟩
              · exact .inr ⟨z, p, e1, e2, g' _ e3, cont_keep (fun _ _ q _ => q) (fun b _ _ g => ⟨g' b g.1, g.2⟩) (fun _ q => q) e4⟩
            | false => exact Rp.wide g' r2
          obtain ⟨O2, S2, f2, _⟩ := S1.put s2 r2' hp2
          exact ⟨v, w, rfl, q _ _ O2 S2 (f1.trans f2)⟩
      · cases ho
    · rename_i z hz
      cases ho
      refine ha ρ σ H O S _ hda _ fun v H1 s1 r1 => ?_
      exact hb c.H0 c.ok c.pm ρ σ H1 O (S.same s1) _ hz (fun A H' s m => q A σ H' O (S.same (s1.trans s)) (.same (s1.trans s)) m) _
    · cases ho
  · rename_i z hz
    cases ho
    exact ha ρ σ H O S _ hz (fun A H' s m => q A σ H' O (S.same s) (.same s) m) _
  · cases ho
end
end Den

namespace Den
open PySem PySem.Spec PyProof.Rows L2
open AutoSeq1 (wpAny_loadPart')
theorem list_extendW (l : Addr) (items : Array Value) (n : Nat) (b : Addr) (items2 : Array Value) (n2 : Nat) (dd2 : Option Addr) (sl2 : Array (Option Value)) (hc0 : ¬(!items.isEmpty && Builtin.List.listTooLong (items.size + items2.size)) = true) (hc1 : items.size ≤ sizeLine) (hs2 : items.size + items2.size ≤ sizeLine + 1) :
    Meets (Builtin.«list.extend» ⟨[.ref l, .ref b], []⟩) (fun _ R s => s.heap.get? l = some { cls := .type "list", dict := none, data := .seq items n, slots := #[] } ∧ s.heap.get? b = some { cls := .type "list", dict := dd2, data := .seq items2 n2, slots := sl2 } ∧ R (.ok (.ret Value.none)) { s with heap := s.heap.update l (Obj.mapSeq fun x => x ++ items2), toks := s.toks }) :=
  .of_wp fun prog w A R s h => by
    obtain ⟨hp, g, d, tk, os⟩ := s; obtain ⟨hl, hb, h⟩ := h; have f1 := AutoSeq1.idx_int; have f2 := AutoSeq1.sub_tuple_tuple; have f3 := AutoSeq1.sub_list_list; have f4 := AutoSeq1.sub_tuple_list; have f5 := AutoSeq1.sub_list_tuple;
    have hz' : (items ++ items2).size ≤ sizeLine + 1 := by rw [Array.size_append]; exact hs2
    wp_walk using (wpAny_updateSeq hl rfl (hz := hc1) (_hz' := hz')), wpAny_loadPart' hl, wpAny_loadPart' hb; exact ⟨_, rfl, h⟩
theorem list_extendT (l : Addr) (items : Array Value) (n : Nat) (b : Addr) (items2 : Array Value) (n2 : Nat) (dd2 : Option Addr) (sl2 : Array (Option Value)) (hc0 : ¬(!items.isEmpty && Builtin.List.listTooLong (items.size + items2.size)) = true) (hc1 : items.size ≤ sizeLine) (hs2 : items.size + items2.size ≤ sizeLine + 1) :
    Meets (Builtin.«list.extend» ⟨[.ref l, .ref b], []⟩) (fun _ R s => s.heap.get? l = some { cls := .type "list", dict := none, data := .seq items n, slots := #[] } ∧ s.heap.get? b = some { cls := .type "tuple", dict := dd2, data := .seq items2 n2, slots := sl2 } ∧ R (.ok (.ret Value.none)) { s with heap := s.heap.update l (Obj.mapSeq fun x => x ++ items2), toks := s.toks }) :=
  .of_wp fun prog w A R s h => by
    obtain ⟨hp, g, d, tk, os⟩ := s; obtain ⟨hl, hb, h⟩ := h; have f1 := AutoSeq1.idx_int; have f2 := AutoSeq1.sub_tuple_tuple; have f3 := AutoSeq1.sub_list_list; have f4 := AutoSeq1.sub_tuple_list; have f5 := AutoSeq1.sub_list_tuple;
    have hz' : (items ++ items2).size ≤ sizeLine + 1 := by rw [Array.size_append]; exact hs2
    wp_walk using (wpAny_updateSeq hl rfl (hz := hc1) (_hz' := hz')), wpAny_loadPart' hl, wpAny_loadPart' hb; exact ⟨_, rfl, h⟩
def rExtendS (K : PySem.W.Frag) : V → List V → Hp → VK → Prop := fun x vs H Q => ∃ l b xs zs, x = .ref l ∧ vs = [.ref b] ∧ H l = some (.lst xs) ∧ (SqL K H b zs ∨ SqT K H b zs) ∧ xs.length + zs.length ≤ sizeLine ∧ Q .non (upd H l (.lst (xs ++ zs)))
theorem mt_extendS {X : Cx} : MtM X "list.extend" (rExtendS X.K) := by
  intro pins s σ H x vs v us Q I rx rv h
  obtain ⟨l, b, xs, zs, rfl, rfl, hH, hB, hz, q⟩ := h
  cases rx
  obtain ⟨u, rfl, ru⟩ := rv.one
  cases ru
  obtain ⟨z, its, n, r, hl, e⟩ := I.lstM hH
  rcases hB with hB | hB
  · obtain ⟨its2, r2, ⟨⟨cls2, dd2, data2, sl2⟩, n2, e2, hc2, _, hd2⟩, hl2⟩ := I.list hB
    simp only at hc2 hd2
    subst hc2 hd2
    have z2 := r2.length
    have hsz : its.toArray.size + its2.toArray.size ≤ sizeLine := by rw [List.size_toArray, List.size_toArray]; omega
    have hlong : ¬ (!its.toArray.isEmpty && Builtin.List.listTooLong (its.toArray.size + its2.toArray.size)) = true := by
      rw [notLongL hsz, Bool.and_false]
      exact Bool.false_ne_true
    refine call_meets F.slot_list_extend ⟨_, e, rfl⟩ F.entry_list_extend (F.args_list_extend_2 _ _)
      (list_extendW l its.toArray n b its2.toArray n2 dd2 sl2 hlong (by rw [List.size_toArray]; omega) (by omega)) ⟨e, e2, ?_⟩
    refine ⟨.non, _, I.lset (its' := its ++ its2) hH e (by simp) (r.append r2) ?_, rfl, q⟩
    rw [List.length_append]
    omega
  · obtain ⟨its2, r2, ⟨⟨cls2, dd2, data2, sl2⟩, e2, hc2, n2, hd2⟩, hl2⟩ := I.tuple hB
    simp only at hc2 hd2
    subst hc2 hd2
    have z2 := r2.length
    have hsz : its.toArray.size + its2.toArray.size ≤ sizeLine := by rw [List.size_toArray, List.size_toArray]; omega
    have hlong : ¬ (!its.toArray.isEmpty && Builtin.List.listTooLong (its.toArray.size + its2.toArray.size)) = true := by
      rw [notLongL hsz, Bool.and_false]
      exact Bool.false_ne_true
    refine call_meets F.slot_list_extend ⟨_, e, rfl⟩ F.entry_list_extend (F.args_list_extend_2 _ _)
      (list_extendT l its.toArray n b its2.toArray n2 dd2 sl2 hlong (by rw [List.size_toArray]; omega) (by omega)) ⟨e, e2, ?_⟩
    refine ⟨.non, _, I.lset (its' := its ++ its2) hH e (by simp) (r.append r2) ?_, rfl, q⟩
    rw [List.length_append]
    omega

/-! ### a slot's own object is changed -/
section
variable {c : C} {σ : L2.St} {H : Hp} {ρ : Rho} {O : Own} {i : Nat} {a : Addr} {o : HO} {d d' : D}
theorem cont_notTup {K : PySem.W.Frag} {g : Addr → Prop} {o' : HO} (h : Cont K H g a d) (e : H a = some o') : ¬ tupO o' := by
  cases d with
  | list ds => obtain ⟨xs, h1, h2⟩ := h; rw [e] at h1; cases h1; exact fun z => z
  | dict es =>
    rcases h with ⟨kvs, h1, h2⟩ | ⟨kvs, h1, h2⟩
    · rw [e] at h1; cases h1; exact fun z => z
    · rw [e] at h1; cases h1; exact fun z => z
  | none => exact h.elim
  | bool _ => exact h.elim
  | int _ => exact h.elim
  | str _ => exact h.elim
  | tuple _ => exact h.elim
theorem SR.ownAt (S : SR c σ H ρ O) (h : ρ[i]? = some (some (Sl.own d))) : ∃ a, σ[i]? = some (some (.ref a)) ∧ O i = some a ∧ Cont c.X.K H (c.gd O) a d := S.own i d h
/-- clean things and tuples stand -/
theorem SR.mutKeep (S : SR c σ H ρ O) (hO : O i = some a) (hc : Cont c.X.K H (c.gd O) a d) : ∀ b o', H b = some o' → c.gd O b ∨ tupO o' → upd H a o b = some o' := fun b o' e z => by
  have ne : b ≠ a := by
    rcases z with z | z
    · rintro rfl; exact z.2 i hO
    · rintro rfl; exact cont_notTup hc e z
  rw [upd_ne ne]; exact e
theorem SR.mut (S : SR c σ H ρ O) (hO : O i = some a) (hi : ρ[i]? = some (some (Sl.own d))) (hc : Cont c.X.K H (c.gd O) a d) (hn : Cont c.X.K (upd H a o) (c.gd O) a d') : SR c σ (upd H a o) (ρ.set i (some (.own d'))) O ∧ Frm c H O (upd H a o) O := by
  have k := S.mutKeep (o := o) hO hc
  have hil : i < ρ.length := (List.getElem?_eq_some_iff.mp hi).1
  obtain ⟨a', hs', hO', _⟩ := S.own i d hi
  rw [hO] at hO'; cases hO'
  refine ⟨⟨fun b o' h n => ?_, fun b o' h => ?_, fun j e he => ?_, fun j e he => ?_, S.inj, S.fr, fun j b h => ?_, by simp [S.len], fun hc j x he => ?ex⟩, fun b o' e => ⟨k b o' e, fun g => g⟩⟩
  case ex =>
    by_cases hj : i = j
    · subst hj
      rw [List.getElem?_set_self hil] at he; cases he
    · rw [List.getElem?_set_ne hj] at he
      exact S.exc hc j x he
  · have ne : b ≠ a := by
      rintro rfl
      rcases (S.fr i b hO).2 with z | z
      · rw [h] at z; cases z
      · exact n z
    rw [upd_ne ne]; exact S.base b o' h n
  · by_cases e : b = a
    · subst e; exact ⟨o, upd_same⟩
    · rw [upd_ne e]; exact S.there b o' h
  · by_cases hj : i = j
    · subst hj
      rw [List.getElem?_set_self hil] at he; cases he
    · rw [List.getElem?_set_ne hj] at he
      obtain ⟨u, h1, h2⟩ := S.val j e he
      exact ⟨u, h1, h2.keep k fun _ _ _ g => g⟩
  · by_cases hj : i = j
    · subst hj
      rw [List.getElem?_set_self hil] at he
      cases he
      exact ⟨a, hs', hO, hn⟩
    · rw [List.getElem?_set_ne hj] at he
      obtain ⟨u, h1, h2, h3⟩ := S.own j e he
      refine ⟨u, h1, h2, cont_keep k (fun _ _ _ g => g) (fun o' q => ?_) h3⟩
      have ne : u ≠ a := fun z => hj (S.inj i j a hO (z ▸ h2))
      rw [upd_ne ne]; exact q
  · by_cases hj : i = j
    · subst hj
      exact ⟨d', by rw [List.getElem?_set_self hil]⟩
    · rw [List.getElem?_set_ne hj]
      exact S.dom j b h
end
/-! x.m(..) as a statement -/
def cMut (i : Nat) (m : D → List D → Option D) (fs : List Ex) : Sd := fun ρ => match ρ[i]? with
  | some (some (.own d)) => match cArgs fs ρ with
    | some (.ok ds) => (m d ds).map fun d' => .nx (ρ.set i (some (.own d')))
    | _ => none
  | _ => none
def MutD (c : C) (T id : String) (m : D → List D → Option D) : Prop :=
  ∃ r : V → List V → Hp → VK → Prop, MtR c.X id r ∧ (∀ (H : Hp) (g : Addr → Prop) (a : Addr) (d : D) (ds : List D) (d' : D), Cont c.X.K H g a d → m d ds = some d' → tyV c.X.K T (.ref a) H) ∧ ∀ (O : Own) (H : Hp) (a : Addr) (xs : List V) (d : D) (ds : List D) (d' : D), Trk c O H → (∀ b, c.gd O b → b ≠ a) → Cont c.X.K H (c.gd O) a d → RpAll c.X.K H (c.gd O) xs ds → m d ds = some d' →
    ∀ Q : VK, (∀ o, Cont c.X.K (upd H a o) (c.gd O) a d' → Q .non (upd H a o)) → r (.ref a) xs H Q
theorem Cont.ty {K : PySem.W.Frag} {H : Hp} {g : Addr → Prop} {a : Addr} {l : List D} (h : Cont K H g a (.list l)) : tyV K "list" (.ref a) H := by
  obtain ⟨xs, h1, _⟩ := h
  exact .inl ⟨rfl, xs, SqL.of h1⟩
theorem Cont.tyD {K : PySem.W.Frag} {H : Hp} {g : Addr → Prop} {a : Addr} {l : List (D × D)} (h : Cont K H g a (.dict l)) : tyV K "dict" (.ref a) H := by
  rcases h with ⟨kvs, h1, _⟩ | ⟨kvs, h1, _⟩
  · exact .inr (.inr (.inl ⟨rfl, .inl ⟨_, h1⟩⟩))
  · exact .inr (.inr (.inl ⟨rfl, .inr ⟨_, h1⟩⟩))
section
variable {c : C} {e : Expr} {es : List Expr} {fs : List Ex} {i : Nat} {x : Str} {p pos pos' apos : Pos} {T id : String} {name : Str} {m : D → List D → Option D}
theorem snd_mut (hm : MutD c T id m) (pa : PlainAttrs T) (slot : Slot T name id) (hty : typeOf (.builtin id) = pure (.type "method_descriptor")) (hN : c.X.N[i]? = some x) (hv : Vis c.X.env.scope x) (hd : (x == ("__debug__" : Str)) = false) (hcd : (x == ("__classdict__" : Str)) = false)
    (h : SndA c true (e :: es) fs) (hs : (e :: es).all noStar = true) (hl : (e :: es).length < 30) (hline : (apos.endLine == pos'.line) = true) : SndS c (.Expr (.Call (.Attribute (.Name x p) name apos) (e :: es) [] pos') pos) (cMut i m fs) := fun ρ σ H O S out ho D q => by
  obtain ⟨r, h1, ht, h2⟩ := hm
  have hs' := hs
  rw [List.all_cons, Bool.and_eq_true] at hs'
  have pp := pe_bm (X := c.X) (apos := apos) (cpos := pos') pa slot hty h1 (pe_var (pos := p) hN hv hd hcd) (pa_de (es := e :: es)) (base_of rfl) (few_of hs hl) hline (star_cons hs'.1) (star_none pos' hs'.2)
  refine des_of (ps_expr pp (swaps_no rfl)) ?_
  unfold cMut at ho
  split at ho
  · rename_i d hd'
    obtain ⟨a, hσ, hO, hc⟩ := S.own i d hd'
    split at ho
    · rename_i ds hds
      cases hmm : m d ds with
      | none => rw [hmm] at ho; cases ho
      | some d' =>
        rw [hmm] at ho
        cases ho
        refine ⟨.ref a, hσ, ht H _ a d ds d' hc hmm, ?_⟩
        refine h ρ σ H O S _ hds _ fun vs H1 s1 r1 => ?_
        have S1 := S.same s1
        have hc1 := hc.same s1
        refine h2 O H1 a vs d ds d' S1.trk (fun b g z => g.2 i (z ▸ hO)) hc1 r1.all hmm _ fun o hn => ?_
        obtain ⟨S2, f2⟩ := S1.mut hO hd' hc1 hn
        exact q σ _ O S2 ((Frm.same s1).trans f2)
    · cases ho
  · cases ho
end
/-! append, extend -/
def mAppend : D → List D → Option D
  | .list l, [d] => if l.length < sizeLine then some (.list (l ++ [d])) else none
  | _, _ => none
def mExtend : D → List D → Option D
  | .list l, [.list m] => if l.length + m.length ≤ sizeLine then some (.list (l ++ m)) else none
  | .list l, [.tuple m] => if l.length + m.length ≤ sizeLine then some (.list (l ++ m)) else none
  | _, _ => none
section
variable {c : C}
theorem RpAll.upd_own {K : PySem.W.Frag} {H : Hp} {g : Addr → Prop} {a : Addr} {o : HO} {xs ys : List V} {ds : List D} (ha : H a = some (.lst ys)) (hg : ∀ b, g b → b ≠ a) (r : RpAll K H g xs ds) : RpAll K (upd H a o) g xs ds :=
  r.keep (fun b o' e z => by
    have ne : b ≠ a := by
      rcases z with z | z
      · exact hg b z
      · rintro rfl
        rw [ha] at e; cases e; exact z
    rw [upd_ne ne]; exact e) fun _ _ _ g => g
theorem mu_append : MutD c "list" "list.append" mAppend := by
  refine ⟨_, mt_append, fun H g a d ds d' hc e => ?_, fun O H a xs d ds d' t hg hc r e Q q => ?_⟩
  · unfold mAppend at e
    split at e
    · exact hc.ty
    · cases e
  · unfold mAppend at e
    split at e
    · split at e
      · rename_i hl
        cases e
        obtain ⟨ys, h1, h2⟩ := hc
        cases r with
        | cons r1 r2 =>
          cases r2
          have z := h2.len
          refine ⟨a, ys, _, rfl, rfl, h1, by omega, q _ ⟨_, upd_same, ?_⟩⟩
          exact (h2.app (.cons r1 .nil)).upd_own h1 hg
      · cases e
    · cases e
theorem mu_extend : MutD c "list" "list.extend" mExtend := by
  refine ⟨_, mt_extendS, fun H g a d ds d' hc e => ?_, fun O H a xs d ds d' t hg hc r e Q q => ?_⟩
  · unfold mExtend at e
    split at e
    · exact hc.ty
    · exact hc.ty
    · cases e
  · unfold mExtend at e
    split at e
    · split at e
      · rename_i hl
        cases e
        obtain ⟨ys, h1, h2⟩ := hc
        cases r with
        | cons r1 r2 =>
          cases r2
          cases r1 with
          | lst _ s r1 =>
            have z := h2.len
            have z' := r1.len
            refine ⟨a, _, ys, _, rfl, rfl, h1, .inl (.inl s), by omega, q _ ⟨_, upd_same, ?_⟩⟩
            exact (h2.app r1).upd_own h1 hg
          | lstK s r1 =>
            have z := h2.len
            have z' := r1.len
            refine ⟨a, _, ys, _, rfl, rfl, h1, .inl (.inr s), by omega, q _ ⟨_, upd_same, ?_⟩⟩
            exact (h2.app r1).upd_own h1 hg
      · cases e
    · split at e
      · rename_i hl
        cases e
        obtain ⟨ys, h1, h2⟩ := hc
        cases r with
        | cons r1 r2 =>
          cases r2
          cases r1 with
          | tup s r1 =>
            have z := h2.len
            have z' := r1.len
            refine ⟨a, _, ys, _, rfl, rfl, h1, .inr s, by omega, q _ ⟨_, upd_same, ?_⟩⟩
            exact (h2.app r1).upd_own h1 hg
      · cases e
    · cases e
end
/-! ### for -/
/-- the turns: what a turn does, item by item -/
def forLoop (t : Tgt) (fb : Sd) : List D → Rho → Option Out
  | [], ρ => some (.nx ρ)
  | d :: r, ρ => match setV t ρ d with
    | none => none
    | some ρ1 => match fb ρ1 with
      | some (.nx ρ2) => forLoop t fb r ρ2
      | some (.ct ρ2) => forLoop t fb r ρ2
      | some (.bk ρ2) => some (.nx ρ2)
      | some (.rt d' ρ2) => some (.rt d' ρ2)
      | some (.ex x ρ2) => some (.ex x ρ2)
      | none => none
where setV : Tgt → Rho → D → Option Rho
  | .nm i, ρ, d => some (ρ.set i (some (.val d)))
  | .tp is, ρ, .tuple ds => if ds.length = is.length then some (putV is ds ρ) else none
  | _, _, _ => none
/-- what a loop walks is nobody's own any more -/
def freeze (i : Nat) (ρ : Rho) : Rho := match ρ[i]? with
  | some (some (.own d)) => ρ.set i (some (.val d))
  | _ => ρ
def cFor (fz : List Nat) (src : Sx) (t : Tgt) (fb : Sd) : Sd := fun ρ => match src (fz.foldr freeze ρ) with
  | some (.ok items) => forLoop t fb items (fz.foldr freeze ρ)
  | some (.error x) => some (.ex x (fz.foldr freeze ρ))
  | none => none
end Den

namespace Den
open PySem PySem.Spec PyProof.Rows L2
/-! ### what a for statement walks: clean, so it stands whatever the body does -/
def Keep (c : C) (O : Own) (H1 H2 : Hp) : Prop := ∀ b o, H1 b = some o → c.gd O b ∨ tupO o → H2 b = some o
theorem Frm.kp {c : C} {H H' : Hp} {O O' : Own} (f : Frm c H O H' O') : Keep c O H H' := fun b o e => (f b o e).1
def WkF (c : C) (O : Own) (H1 : Hp) (J : It) (items : List D) : Prop := ∀ H2, Keep c O H1 H2 →
  (∀ i, i < items.length → J.go i H2) ∧ J.stop items.length H2 ∧ ∀ i x H3, i < items.length → J.yld i H2 x H3 → Same H2 H3 ∧ ∃ d, items[i]? = some d ∧ Rp c.X.K H3 (fun a => c.gd O a ∧ ∃ o, H1 a = some o) x d
def SndF (c : C) (tg e : Expr) (f : Sx) : Prop := ∀ ρ σ H O, SR c σ H ρ O → ∀ r, f ρ = some r → match r with
  | .ok items => ∀ R : It → Hp → Prop, (∀ J H1, Same H H1 → WkF c O H1 J items → R J H1) → DeI c.X tg e σ H R
  | .error x => (∀ A H', Same H H' → c.X.mg x = some (.ref A) → c.W (.ref A) none σ H') → ∀ R, DeI c.X tg e σ H R
section
variable {c : C} {tg e : Expr} {f : Ex}
theorem RpAll.stoodF {K : PySem.W.Frag} {O : Own} {H1 H2 : Hp} {xs : List V} {l : List D} (s : Keep c O H1 H2) (r : RpAll K H1 (c.gd O) xs l) : RpAll K H2 (fun a => c.gd O a ∧ ∃ o, H1 a = some o) xs l := r.keep s fun b o q z => ⟨z, o, q⟩
theorem wf_list {O : Own} {H1 : Hp} {a : Addr} {xs : List V} {l : List D} (ha : c.gd O a) (g1 : Rd H1 a (.lst xs)) (g2 : RpAll c.X.K H1 (c.gd O) xs l) : WkF c O H1 (Itl c.X.K a) l := fun H2 s2 => by
  have w := walk_list (K := c.X.K) (a := a) (xs := xs)
  have hG : SqL c.X.K H2 a xs := .inl (rd_keep (fun o e => s2 a o e (.inl ha)) g1)
  have g3 := g2.stoodF s2
  rw [← g2.len]
  refine ⟨fun i hi => w.goes i H2 hi hG, w.stops H2 hG, fun i x H3 hi hy => ?_⟩
  obtain ⟨rfl, hx⟩ := w.yields i H2 x H3 hi hG hy
  obtain ⟨d, h1, h2⟩ := g3.get hx
  exact ⟨Same.refl _, d, h1, h2⟩
theorem wf_listK {O : Own} {H1 : Hp} {a : Addr} {xs : List V} {l : List D} (g1 : InK c.X.K a xs) (g2 : RpAll c.X.K H1 (c.gd O) xs l) : WkF c O H1 (Itl c.X.K a) l := fun H2 s2 => by
  have w := walk_list (K := c.X.K) (a := a) (xs := xs)
  have hG : SqL c.X.K H2 a xs := .inr g1
  have g3 := g2.stoodF s2
  rw [← g2.len]
  refine ⟨fun i hi => w.goes i H2 hi hG, w.stops H2 hG, fun i x H3 hi hy => ?_⟩
  obtain ⟨rfl, hx⟩ := w.yields i H2 x H3 hi hG hy
  obtain ⟨d, h1, h2⟩ := g3.get hx
  exact ⟨Same.refl _, d, h1, h2⟩
theorem wf_tup {O : Own} {H1 : Hp} {a : Addr} {xs : List V} {l : List D} (g1 : SqT c.X.K H1 a xs) (g2 : RpAll c.X.K H1 (c.gd O) xs l) : WkF c O H1 (Itt c.X.K a) l := fun H2 s2 => by
  have w := walk_tup (K := c.X.K) (a := a) (xs := xs)
  have hG : SqT c.X.K H2 a xs := sqT_keep (fun b o e t => s2 b o e (.inr t)) g1
  have g3 := g2.stoodF s2
  rw [← g2.len]
  refine ⟨fun i hi => w.goes i H2 hi hG, w.stops H2 hG, fun i x H3 hi hy => ?_⟩
  obtain ⟨rfl, hx⟩ := w.yields i H2 x H3 hi hG hy
  obtain ⟨d, h1, h2⟩ := g3.get hx
  exact ⟨Same.refl _, d, h1, h2⟩
theorem wf_str {O : Own} {H1 : Hp} {z : Str} (hz : sOk z) : WkF c O H1 (Its z) (signs z) := fun H2 s2 => by
  have w := walk_str (z := z)
  have el : (signs z).length = z.cps.size := by simp [signs]
  rw [el]
  refine ⟨fun i hi => w.goes i H2 hi trivial, w.stops H2 trivial, fun i x H3 hi hy => ?_⟩
  obtain ⟨rfl, k, hk, rfl⟩ := w.yields i H2 x H3 hi trivial hy
  refine ⟨Same.refl _, .str ⟨#[k]⟩, ?_, .str (sOk_sign hz hk)⟩
  simp [signs, hk]
theorem wf_range {O : Own} {H1 : Hp} {lo : Int} {n : Nat} : WkF c O H1 (Itr lo n) (rngD lo n) := fun H2 s2 => by
  have w := walk_range (lo := lo) (n := n)
  have el : (rngD lo n).length = n := by simp [rngD]
  rw [el]
  refine ⟨fun i hi => w.goes i H2 hi trivial, w.stops H2 trivial, fun i x H3 hi hy => ?_⟩
  obtain ⟨rfl, rfl⟩ := w.yields i H2 x H3 hi trivial hy
  refine ⟨Same.refl _, .int (lo + i), ?_, .int _⟩
  simp [rngD, hi]
theorem sndF_it (h : Snd c true e f) : SndF c tg e (cIt f) := fun ρ σ H O S r hr => by
  cases r with
  | ok items =>
    obtain ⟨d, h1, h2⟩ := eb_ok hr
    intro R q
    unfold itemsOf at h2
    split at h2
    · cases h2
      refine dei_of (pi_list pe_de) (h.ok S h1 fun v H1 s1 r1 => ?_)
      have r1 : Rp c.X.K H1 (c.gd O) v _ := r1
      cases r1 with
      | lst ha g1 g2 => exact ⟨_, rfl, ⟨_, .inl g1⟩, q _ _ s1 (wf_list ha g1 g2)⟩
      | lstK g1 g2 => exact ⟨_, rfl, ⟨_, .inr g1⟩, q _ _ s1 (wf_listK g1 g2)⟩
    · cases h2
      refine dei_of (pi_tup pe_de) (h.ok S h1 fun v H1 s1 r1 => ?_)
      obtain ⟨a, xs, rfl, g1, g2⟩ := r1.b.tup
      exact ⟨a, rfl, ⟨xs, g1⟩, q _ _ s1 (wf_tup g1 g2)⟩
    · cases h2
      refine dei_of (pi_str pe_de) (h.ok S h1 fun v H1 s1 r1 => ?_)
      obtain ⟨rfl, hz⟩ := r1.b.str
      exact ⟨_, rfl, q _ _ s1 (wf_str hz)⟩
    · cases h2
  | error x =>
    intro q R
    rcases eb_er hr with h1 | ⟨d, h1, h2⟩
    · exact dei_of (pi_list pe_de) (h.er S h1 q)
    · unfold itemsOf at h2
      split at h2 <;> cases h2
theorem sndF_range1 {a : Expr} {fs : List Ex} {p pos : Pos} (h : SndA c false [a] fs) (hs : noStar a = true) (hg : Gl c.X "range") (hm : c.X.mg "range" = none) : SndF c tg (.Call (.Name "range" p) [a] [] pos) (cRange1 fs) := fun ρ σ H O S r hr => by
  have pp := pi_range1 (X := c.X) (tg := tg) (p := p) (pos := pos) hg hm (pa_de (es := [a])) (star_cons hs)
  cases r with
  | ok items =>
    obtain ⟨ds, h1, h2⟩ := eb_ok hr
    intro R q
    refine dei_of pp (h ρ σ H O S _ h1 _ fun vs H1 s1 r1 => ?_)
    unfold dRange1 at h2
    split at h2
    · split at h2
      · rename_i hh
        cases h2
        simp only [Bool.and_eq_true, decide_eq_true_eq] at hh
        obtain ⟨v, rfl, r2⟩ := r1.one
        rw [r2.int]
        exact ⟨_, rfl, hh.1.1, hh.1.2, q _ _ s1 wf_range⟩
      · cases h2
    · cases h2
  | error x =>
    intro q R
    rcases eb_er hr with h1 | ⟨d, h1, h2⟩
    · exact dei_of pp (h ρ σ H O S _ h1 q _)
    · unfold dRange1 at h2
      split at h2
      · split at h2 <;> cases h2
      · cases h2
theorem sndF_range2 {a b : Expr} {fs : List Ex} {p pos : Pos} (h : SndA c false [a, b] fs) (hs : noStar a = true) (hs2 : noStar b = true) (hg : Gl c.X "range") (hm : c.X.mg "range" = none) : SndF c tg (.Call (.Name "range" p) [a, b] [] pos) (cRange2 fs) := fun ρ σ H O S r hr => by
  have pp := pi_range2 (X := c.X) (tg := tg) (p := p) (pos := pos) hg hm (pa_de (es := [a, b])) (by rw [star_cons hs, star_cons hs2]; rfl) (by rw [star_cons hs2]; rfl)
  cases r with
  | ok items =>
    obtain ⟨ds, h1, h2⟩ := eb_ok hr
    intro R q
    refine dei_of pp (h ρ σ H O S _ h1 _ fun vs H1 s1 r1 => ?_)
    unfold dRange2 at h2
    split at h2
    · split at h2
      · rename_i hh
        cases h2
        simp only [Bool.and_eq_true, decide_eq_true_eq] at hh
        obtain ⟨v, w, rfl, r2, r3⟩ := r1.two
        rw [r2.int, r3.int]
        exact ⟨_, _, rfl, ⟨hh.1.1.1.1, hh.1.1.1.2, hh.1.1.2, hh.1.2⟩, q _ _ s1 wf_range⟩
      · cases h2
    · cases h2
  | error x =>
    intro q R
    rcases eb_er hr with h1 | ⟨d, h1, h2⟩
    · exact dei_of pp (h ρ σ H O S _ h1 q _)
    · unfold dRange2 at h2
      split at h2
      · split at h2 <;> cases h2
      · cases h2
end
/-! a slot's own object is let go: nobody changes it any more -/
section
variable {c : C} {σ : L2.St} {H : Hp} {ρ : Rho} {O : Own}
theorem SR.freeze (S : SR c σ H ρ O) (i : Nat) : ∃ O', SR c σ H (Den.freeze i ρ) O' ∧ Frm c H O H O' := by
  unfold Den.freeze
  split
  · rename_i d hd
    obtain ⟨a, hσ, hO, hc⟩ := S.own i d hd
    have hil : i < ρ.length := (List.getElem?_eq_some_iff.mp hd).1
    have ga : c.gd (O.del i) a := ⟨(S.fr i a hO).1, fun j e => by
      obtain ⟨h1, h2⟩ := Own.del_some e
      exact h1 (S.inj j i a h2 hO)⟩
    refine ⟨O.del i, ⟨S.base, S.there, fun j e he => ?_, fun j e he => ?_, fun j k b h1 h2 => S.inj j k b (Own.del_some h1).2 (Own.del_some h2).2, fun j b h => S.fr j b (Own.del_some h).2, fun j b h => ?_, by simp [S.len], fun hc j x he => ?ex⟩, fun b o' e => ⟨fun _ => e, fun g => gd_del b g⟩⟩
    case ex =>
      by_cases hj : i = j
      · subst hj
        rw [List.getElem?_set_self hil] at he; cases he
      · rw [List.getElem?_set_ne hj] at he
        exact S.exc hc j x he
    · by_cases hj : i = j
      · subst hj
        rw [List.getElem?_set_self hil] at he
        cases he
        exact ⟨.ref a, hσ, hc.rp gd_del ga⟩
      · rw [List.getElem?_set_ne hj] at he
        obtain ⟨u, h1, h2⟩ := S.val j e he
        exact ⟨u, h1, h2.wide gd_del⟩
    · by_cases hj : i = j
      · subst hj
        rw [List.getElem?_set_self hil] at he
        cases he
      · rw [List.getElem?_set_ne hj] at he
        obtain ⟨u, h1, h2, h3⟩ := S.own j e he
        exact ⟨u, h1, by rw [Own.del_ne (Ne.symm hj)]; exact h2, cont_keep (fun _ _ q _ => q) (fun b _ _ g => gd_del b g) (fun _ q => q) h3⟩
    · obtain ⟨h1, h2⟩ := Own.del_some h
      rw [List.getElem?_set_ne (Ne.symm h1)]
      exact S.dom j b h2
  · exact ⟨O, S, .refl⟩
theorem SR.freezes (S : SR c σ H ρ O) : ∀ fz : List Nat, ∃ O', SR c σ H (fz.foldr Den.freeze ρ) O' ∧ Frm c H O H O'
  | [] => ⟨O, S, .refl⟩
  | i :: fz => by
    obtain ⟨O1, S1, f1⟩ := SR.freezes S fz
    obtain ⟨O2, S2, f2⟩ := S1.freeze i
    exact ⟨O2, S2, f1.trans f2⟩
theorem gT_runV {t : Tgt} {ρ1 : Rho} {d : D} {v : V} {Q : L2.St → Hp → Prop} (S : SR c σ H ρ O) (r : Rp c.X.K H (c.gd O) v d) (h : forLoop.setV t ρ d = some ρ1) (q : ∀ σ' O', SR c σ' H ρ1 O' → Frm c H O H O' → Q σ' H) : gT c.X.K t v σ H Q := by
  cases t with
  | nm i =>
    have h : some (ρ.set i (some (.val d))) = some ρ1 := h
    cases h
    exact q _ _ (S.setV r) fun b o' e => ⟨fun _ => e, fun g => gd_del b g⟩
  | tp is =>
    cases d with
    | tuple ds =>
      have h : (if ds.length = is.length then some (putV is ds ρ) else none) = some ρ1 := h
      by_cases hl : ds.length = is.length
      · rw [if_pos hl] at h
        cases h
        cases r with
        | tup s r => exact ⟨_, _, rfl, s, by rw [r.len]; exact hl, names_runV S r hl q⟩
      · rw [if_neg hl] at h
        cases h
    | none => cases h
    | bool _ => cases h
    | int _ => cases h
    | str _ => cases h
    | list _ => cases h
    | dict _ => cases h
end
theorem snd_for {c : C} {tg iter : Expr} {body : List Stmt} {pos : Pos} {fz : List Nat} {src : Sx} {t : Tgt} {fb : Sd} (hp : PassesOwn (model c.X.prog c.X.w) c.X.A c.X.env c.X.xe) (hc : c.X.calm = true) (hi : SndF c tg iter src) (hg : PG c.X tg (gT c.X.K t)) (hb : SndSs c body fb)
    (hs : notSet iter = true) : SndS c (.For tg iter body [] pos) (cFor fz src t fb) := fun ρ σ H O S out ho D q => by
  refine des_of (ps_for hp hc (pi_de (tg := tg) (iter := iter)) hg (pss_de (sts := body)) (fun x => by cases iter <;> first | rfl | cases hs)) ?_
  obtain ⟨O0, S0, f0⟩ := S.freezes fz
  unfold cFor at ho
  split at ho
  · rename_i items hit
    refine hi _ σ H O0 S0 _ hit _ fun J H1 s1 wk => ?_
    have S1 := S0.same s1
    have f1 : Frm c H O H1 O0 := f0.trans (.same s1)
    refine ⟨fun i m σ' H' => i ≤ items.length ∧ m = items.length - i ∧ ∃ ρi Oi, SR c σ' H' ρi Oi ∧ Frm c H1 O0 H' Oi ∧ forLoop t fb (items.drop i) ρi = some out, ⟨_, Nat.zero_le _, rfl, _, O0, S1, .refl, ho⟩, ?_⟩
    rintro i m σ' H' ⟨hil, rfl, ρi, Oi, Si, fi, hl⟩
    have W := wk H' fi.kp
    by_cases he : i = items.length
    · subst he
      rw [List.drop_length] at hl
      cases hl
      exact .inl ⟨W.2.1, q σ' H' Oi Si (f1.trans fi)⟩
    · have hlt : i < items.length := by omega
      refine .inr ⟨W.1 i hlt, fun σ'' H'' => ∃ ρi Oi, SR c σ'' H'' ρi Oi ∧ Frm c H1 O0 H'' Oi ∧ forLoop t fb (items.drop (i + 1)) ρi = some out, fun σ'' H'' ⟨ρ2, O2, S2, f2, hl2⟩ => ⟨items.length - (i + 1), by omega, by omega, rfl, ρ2, O2, S2, f2, hl2⟩, fun x H3 hy => ?_⟩
      obtain ⟨s3, d, hd, rd⟩ := W.2.2 i x H3 hlt hy
      have hdrop : items.drop i = d :: items.drop (i + 1) := by
        rw [List.drop_eq_getElem_cons hlt]
        have := List.getElem?_eq_getElem hlt
        rw [this] at hd
        cases hd; rfl
      rw [hdrop] at hl
      unfold forLoop at hl
      split at hl
      · cases hl
      · rename_i ρ1 hset
        have rd' : Rp c.X.K H3 (c.gd Oi) x d := rd.wide fun a ⟨g, o, e⟩ => (fi a o e).2 g
        have f3 : Frm c H1 O0 H3 Oi := fi.trans (.same s3)
        refine gT_runV (Si.same s3) rd' hset fun σ2 O2 S2 f2 => ?_
        have f32 := f3.trans f2
        split at hl
        · rename_i ρ2 hfb
          exact hb ρ1 σ2 H3 O2 S2 _ hfb _ fun σ4 H4 O4 S4 f4 => ⟨ρ2, O4, S4, f32.trans f4, hl⟩
        · rename_i ρ2 hfb
          exact hb ρ1 σ2 H3 O2 S2 _ hfb _ fun σ4 H4 O4 S4 f4 => ⟨ρ2, O4, S4, f32.trans f4, hl⟩
        · rename_i ρ2 hfb
          cases hl
          exact hb ρ1 σ2 H3 O2 S2 _ hfb _ fun σ4 H4 O4 S4 f4 => q σ4 H4 O4 S4 (f1.trans (f32.trans f4))
        · rename_i d' ρ2 hfb
          cases hl
          exact hb ρ1 σ2 H3 O2 S2 _ hfb _ fun v σ4 H4 O4 S4 f4 r => q v σ4 H4 O4 S4 (f1.trans (f32.trans f4)) r
        · rename_i z ρ2 hfb
          cases hl
          exact hb ρ1 σ2 H3 O2 S2 _ hfb _ fun A σ4 H4 O4 S4 f4 m => q A σ4 H4 O4 S4 (f1.trans (f32.trans f4)) m
        · cases hl
  · rename_i z hz
    cases ho
    exact hi _ σ H O0 S0 _ hz (fun A H' s m => q A σ H' O0 (S0.same s) (f0.trans (.same s)) m) _
  · cases ho
/-! ### while -/
def whLoop (p : Tx) (fb : Sd) : Nat → Rho → Option Out
  | 0, _ => none
  | n + 1, ρ => match p ρ with
    | some (.ok true) => match fb ρ with
      | some (.nx ρ2) => whLoop p fb n ρ2
      | some (.ct ρ2) => whLoop p fb n ρ2
      | some (.bk ρ2) => some (.nx ρ2)
      | some (.rt d' ρ2) => some (.rt d' ρ2)
      | some (.ex x ρ2) => some (.ex x ρ2)
      | none => none
    | some (.ok false) => some (.nx ρ)
    | some (.error x) => some (.ex x ρ)
    | none => none
/-- more turns than any loop here takes -/
def manyTurns : Nat := 1048576
def cWhile (p : Tx) (fb : Sd) : Sd := whLoop p fb manyTurns
theorem snd_while {c : C} {t : Expr} {body : List Stmt} {pos : Pos} {p : Tx} {fb : Sd} (hp : PassesOwn (model c.X.prog c.X.w) c.X.A c.X.env c.X.xe) (ht : SndT c t p) (hb : SndSs c body fb) : SndS c (.While t body [] pos) (cWhile p fb) := fun ρ σ H O S out ho D q => by
  refine des_of (ps_while hp pt_de (pss_de (sts := body))) ?_
  refine ⟨fun m σ' H' => ∃ ρi Oi, SR c σ' H' ρi Oi ∧ Frm c H O H' Oi ∧ whLoop p fb m ρi = some out, ⟨manyTurns, ρ, O, S, .refl, ho⟩, ?_⟩
  rintro m σ' H' ⟨ρi, Oi, Si, fi, hl⟩
  cases m with
  | zero => cases hl
  | succ m =>
    unfold whLoop at hl
    split at hl
    · rename_i hpt
      refine ht ρi σ' H' Oi Si _ hpt _ fun H1 s1 => ?_
      rw [if_pos rfl]
      have f1 : Frm c H O H1 Oi := fi.trans (.same s1)
      refine ⟨fun σ'' H'' => ∃ ρi Oi, SR c σ'' H'' ρi Oi ∧ Frm c H O H'' Oi ∧ whLoop p fb m ρi = some out, fun σ'' H'' h => ⟨m, Nat.lt_succ_self _, h⟩, ?_⟩
      split at hl
      · rename_i ρ2 hfb
        exact hb ρi σ' H1 Oi (Si.same s1) _ hfb _ fun σ4 H4 O4 S4 f4 => ⟨ρ2, O4, S4, f1.trans f4, hl⟩
      · rename_i ρ2 hfb
        exact hb ρi σ' H1 Oi (Si.same s1) _ hfb _ fun σ4 H4 O4 S4 f4 => ⟨ρ2, O4, S4, f1.trans f4, hl⟩
      · rename_i ρ2 hfb
        cases hl
        exact hb ρi σ' H1 Oi (Si.same s1) _ hfb _ fun σ4 H4 O4 S4 f4 => q σ4 H4 O4 S4 (f1.trans f4)
      · rename_i d' ρ2 hfb
        cases hl
        exact hb ρi σ' H1 Oi (Si.same s1) _ hfb _ fun v σ4 H4 O4 S4 f4 r => q v σ4 H4 O4 S4 (f1.trans f4) r
      · rename_i z ρ2 hfb
        cases hl
        exact hb ρi σ' H1 Oi (Si.same s1) _ hfb _ fun A σ4 H4 O4 S4 f4 m => q A σ4 H4 O4 S4 (f1.trans f4) m
      · cases hl
    · rename_i hpt
      cases hl
      refine ht ρi σ' H' Oi Si _ hpt _ fun H1 s1 => ?_
      rw [if_neg (by simp)]
      exact q σ' H1 Oi (Si.same s1) (fi.trans (.same s1))
    · rename_i z hpt
      cases hl
      exact ht ρi σ' H' Oi Si _ hpt (fun A H'' s m => q A σ' H'' Oi (Si.same s) (fi.trans (.same s)) m) _
    · cases hl
end Den

namespace Den
open PySem PySem.Spec PyProof.Rows L2
/-! ### isinstance of the exception that is handled -/
theorem call_isP {X : Cx} {a D : Addr} {oe : Obj} (E : ExcC X.K D) (hp : (a, oe) ∈ X.pn) (hz : Zc (.ref D) none oe) (hf : ∃ vs, oe.data = .fields vs) : CallR X (.builtin "isinstance") (rIsE X.K D a) := fun pins s σ H xs us Q I r h => by
  obtain ⟨c, cv, b, ex, hcv, e, q⟩ := h
  subst ex
  match us, r with
  | [_, u2], .cons rx (.cons rt .nil) =>
    cases rx
    have ec : u2 = cv := hcv _ rt
    rw [ec]
    have hget := (I.pin (a, oe) (List.mem_append_left _ hp)).1
    obtain ⟨vs, hv⟩ := hf
    obtain ⟨k1, k2⟩ := hz
    have J : PySem.W.InstAt s.heap a oe D none := ⟨hget, k1, by unfold PySem.W.notCls; rw [hv], by rw [k2]; trivial⟩
    have kx := PySem.W.handS_kitx_exc (x := a) (ox := oe) E.hg E.hk E.hs E.hd E.ha E.hn E.ht E.hm
    exact PySem.W.kia_one kx I.kIn J e (fun z => nomatch z) fun tk => ⟨V.bl b, H, I.kept (t' := tk) fun _ _ w => w, rfl, q⟩
/-- a name for a class: one of the module, or a built-in one -/
def ClsNm (mg : Str → Option Value) (y : Str) (cv : Value) : Prop := (∃ C, cv = .ref C ∧ mg y = some (.ref C)) ∨ ∃ T, cv = .type T ∧ mg y = none ∧ bootBuiltins y = some (.type T)
/-- exceptions of the class x are (b) instances of the class y -/
structure IsaAt (K : PySem.W.Frag) (mg : Str → Option Value) (x y : Str) (b : Bool) : Prop where
  ex : ∃ D cv, mg x = some (.ref D) ∧ ExcC K D ∧ ClsNm mg y cv ∧ PySem.W.kitOne K (.ref D) cv = some b
def cIsE (isa : Str → Option Bool) (i : Nat) : Ex := fun ρ => match ρ[i]? with
  | some (some (.exc z)) => (isa z).map fun b => .ok (.bool b)
  | _ => none
theorem snd_isE {c : C} {lv : Bool} {isa : Str → Option Bool} {i : Nat} {n x y : Str} {p p1 p2 pos : Pos} (hc : c.X.calm = false) (hN : c.X.N[i]? = some x) (hvs : Vis c.X.env.scope x) (hd : (x == ("__debug__" : Str)) = false) (hcd : (x == ("__classdict__" : Str)) = false)
    (hg : Gl c.X n) (hm : c.X.mg n = none) (hv : bootBuiltins n = some (.builtin "isinstance")) (hn : n ≠ "__name__") (hdn : (n == ("__debug__" : Str)) = false)
    (hgy : Gl c.X y) (hny : y ≠ "__name__") (hdy : (y == ("__debug__" : Str)) = false) (ha : ∀ z b, isa z = some b → IsaAt c.X.K c.X.mg z y b) : Snd c lv (.Call (.Name n p) [.Name x p1, .Name y p2] [] pos) (cIsE isa i) := fun ρ σ H O S r hr => by
  unfold cIsE at hr
  split at hr
  · rename_i z hz
    cases e : isa z with
    | none => rw [e] at hr; cases hr
    | some b =>
      rw [e] at hr
      cases hr
      obtain ⟨D, cv, m1, m2, m3, m4⟩ := ha z b e
      obtain ⟨a, oe, D', h1, h2, h3, h4, h5⟩ := S.exc hc i z hz
      rw [m1] at h3
      cases h3
      intro Q q
      have C := call_isP m2 h2 h4 h5
      have fin : ∀ (v : V), (∀ u, RelV v u → u = cv) → rIsE c.X.K D a [.ref a, v] H Q := fun v hv => ⟨v, cv, b, rfl, hv, m4, q _ _ (Same.refl _) (.of (.bl b))⟩
      rcases m3 with ⟨C', e1, e2⟩ | ⟨T, e1, e2, e3⟩
      · have py := pe_glob (X := c.X) (x := y) (v := .ref C') (pos := p2) hgy e2 rfl hdy
        refine de_of (pe_callB (X := c.X) (p := p) (pos := pos) C hg hm hv (pa_cons (pe_var (pos := p1) hN hvs hd hcd) (pa_cons py pa_nil) rfl) hn hdn rfl rfl) ?_
        exact ⟨.ref a, h1, fin _ fun u ru => by cases ru; exact e1.symm⟩
      · have py := pe_bltn (X := c.X) (x := y) (v := .ty T) (pos := p2) hgy e2 e3 rfl hny hdy
        refine de_of (pe_callB (X := c.X) (p := p) (pos := pos) C hg hm hv (pa_cons (pe_var (pos := p1) hN hvs hd hcd) (pa_cons py pa_nil) rfl) hn hdn rfl rfl) ?_
        exact ⟨.ref a, h1, fin _ fun u ru => by cases ru; exact e1.symm⟩
  · cases hr
/-! ### list.count, list.index of a bool -/
theorem cnt_vals {y : V} : ∀ {ys : List V} {its : List Value}, Vals ys its → ys.all flatV = true → its.countP (eqU y) = ys.countP fun z => eqV z y
  | _, _, .nil, _ => rfl
  | _, _, .cons (a := z) r rs, h => by
    rw [List.all_cons, Bool.and_eq_true] at h
    rw [List.countP_cons, List.countP_cons, cnt_vals rs h.2, eqU_of r h.1]
def rCntF (K : PySem.W.Frag) : V → List V → Hp → VK → Prop := fun x xs H Q => ∃ (a : Addr) (ys : List V) (y : V), x = V.ref a ∧ xs = [y] ∧ SqL K H a ys ∧ flatV y = true ∧ ys.all flatV = true ∧ Q (.int (ys.countP (fun z => eqV z y) : Nat)) H
theorem mt_countF {X : Cx} : MtR X "list.count" (rCntF X.K) := fun pins s σ H x xs v us Q I rx rxs h => by
  obtain ⟨a, ys, y, ex, exs, hs, fy, fys, q⟩ := h
  subst ex exs
  cases rx
  match us, rxs with
  | [uy], .cons ry .nil =>
    obtain ⟨its, rv, ⟨⟨cl, dd, dat, sl⟩, n, ho, hc, hdn, hd⟩, hlen⟩ := I.list hs
    dsimp only at hc hd
    subst hc hd
    have M := SeqAt.list_countAt a its.toArray n dd sl uy (eqU y)
    refine call_meets PySem.F.slot_list_count ⟨_, ho, rfl⟩ PySem.F.entry_list_count (PySem.F.args_list_count_2 _ _) M ⟨ho, fun u' hu' => mem_eqAt ry fy rv fys u' (by simpa using hu'), ?_⟩
    refine ⟨.int (ys.countP (fun z => eqV z y) : Nat), H, I.tok _, ⟨s.toks, ?_⟩, q⟩
    have ec : its.toArray.toList.countP (eqU y) = ys.countP fun z => eqV z y := cnt_vals rv fys
    rw [ec]
def dCount : D → List D → Option D
  | .list l, [.bool b] => (bools l).map fun bs => .int (bs.count b : Nat)
  | _, _ => none
def dIndex : D → List D → Option D
  | .list l, [.bool b] => match bools l with
    | some bs => (bs.findIdx? (· == b)).map fun j => .int (j : Nat)
    | none => none
  | _, _ => none
theorem flat_bls (bs : List Bool) : (bs.map V.bl).all flatV = true := by
  rw [List.all_eq_true]
  intro x hx
  obtain ⟨b, _, rfl⟩ := List.mem_map.mp hx
  rfl
theorem eqV_bl (x y : Bool) : eqV (.bl x) (.bl y) = (x == y) := by cases x <;> cases y <;> rfl
theorem cnt_bls (b : Bool) : ∀ bs : List Bool, (bs.map V.bl).countP (fun z => eqV z (.bl b)) = bs.count b
  | [] => rfl
  | x :: r => by
    rw [List.map_cons, List.countP_cons, cnt_bls b r, List.count_cons, eqV_bl]
section
variable {c : C}
theorem RB.tyL {O : Own} {H : Hp} {v : V} {l : List D} (h : RB c O H v (.list l)) : tyV c.X.K "list" v H := by
  obtain ⟨p, ys, rfl, g1, g2⟩ := h.lst
  exact .inl ⟨rfl, ys, g1⟩
theorem md_count : MtD c "list" "list.count" dCount := by
  refine ⟨_, mt_countF, fun O H x a ds d r e => ?_, fun O H x xs a ds d t r rs e Q q => ?_⟩
  · unfold dCount at e
    split at e
    · exact r.tyL
    · cases e
  · unfold dCount at e
    split at e
    · rename_i l b
      cases hb : bools l with
      | none => rw [hb] at e; cases e
      | some bs =>
        rw [hb] at e
        cases e
        obtain ⟨p, ys, rfl, g1, g2⟩ := r.lst
        obtain ⟨v, rfl, h2⟩ := rs.one
        rw [h2.bl]
        have ey := bools_of hb g2
        subst ey
        exact ⟨p, _, _, rfl, rfl, g1, rfl, flat_bls bs, by rw [cnt_bls]; exact q _ _ (Same.refl _) (.int _)⟩
    · cases e
theorem md_index : MtD c "list" "list.index" dIndex := by
  refine ⟨_, mt_index, fun O H x a ds d r e => ?_, fun O H x xs a ds d t r rs e Q q => ?_⟩
  · unfold dIndex at e
    split at e
    · exact r.tyL
    · cases e
  · unfold dIndex at e
    split at e
    · rename_i l b
      split at e
      · rename_i bs hb
        cases hj : bs.findIdx? (· == b) with
        | none => rw [hj] at e; cases e
        | some j =>
          rw [hj] at e
          cases e
          obtain ⟨p, ys, rfl, g1, g2⟩ := r.lst
          obtain ⟨v, rfl, h2⟩ := rs.one
          rw [h2.bl]
          have ey := bools_of hb g2
          subst ey
          rw [List.findIdx?_eq_some_iff_getElem] at hj
          obtain ⟨hl, h3, h4⟩ := hj
          refine ⟨p, _, .bl b, j, .bl bs[j], rfl, rfl, g1, rfl, flat_bls bs, by rw [List.getElem?_map, List.getElem?_eq_getElem hl]; rfl, by rw [eqV_bl]; exact h3, fun m z hm hz => ?_, q _ _ (Same.refl _) (.int _)⟩
          rw [List.getElem?_map, List.getElem?_eq_getElem (by omega)] at hz
          cases hz
          rw [eqV_bl]
          have := h4 m hm
          simpa using this
      · cases e
    · cases e
end
end Den

namespace Den
open PySem PySem.Spec PyProof.Rows L2
open L2H (RoomH PinOk cxH inv_startH)
/-! ### a def that is called within an except suite, with the exception -/
section
variable {P : Program} {w : World} {K : PySem.W.Frag} {mg : Str → Option Value} {base : Heap}
/-- how it runs: its body is read over cxH, where the exception p is pinned -/
theorem run_hot {CX : CXT} {k : Nat} {f : Addr} {x : Str} {st : Stmt} {fd : FuncData} {N ps : List Str} (F : Fun K x x st f fd) (S : FnScope N ps (defScope st)) {A : Around} {outer : List Env} {s : Shared} {H : Hp} {args : Args} {us : List Value} {vs : List V} {Q : VK} {E : XK} {p : Addr × Obj}
    (hr : RoomH (k + 1) A) (hpin : PinOk outer H s p) (e0 : Env0 P w K mg base A outer s H) (hb : BindsTo s fd args (ps.zip us)) (r : Vals vs us) (hl : vs.length = ps.length)
    (hbody : ∀ cdv : Value, RoomH k (A.deeper (envOfC x (defScope st) s.heap.objs.size f cdv)) → DeSs (cxH CX P w K mg base N x (defScope st) f cdv A outer s H E p) (defBody st) { nx := fun _ H' => Q .non H', rt := Q } (L2.start N vs) H) :
    codeAny (model P w) A (.call (.ref f) args) (CR CX outer P w H s Q E) s := by
  obtain ⟨oc, od, kV, doc, pm, an, cdv, ct, osl, rfl, lk, hcd⟩ := F.ex
  have keeps : ∀ b o, base.get? b = some o → s.heap.get? b = some o := fun b o e => (e0.bs b o e).1
  have KX : K.In s.heap := e0.mod.kin.keeps keeps
  have lim : s.heap.NoLimit := e0.mod.nolimit.keeps keeps
  have kinds : ∀ y ∈ ps.zip us, (defScope st).names.lookup y.1 = some .local ∨ ((defScope st).names.lookup y.1 = some .cell ∧ ((cellsFrom (s.heap.objs.size + 1) (defScope st).names []).lookup y.1).isSome = true) := fun y hy =>
    (S.par y.1 (List.of_mem_zip (a := y.1) (b := y.2) hy).1).imp id fun q => ⟨q, PySem.W.cellsFrom_some _ _ _ (.inl q)⟩
  refine codeAny_call_function hr.depth (KX _ _ lk) rfl S.co S.gen rfl (PySem.W.codeRec_of KX hcd) (hb _ _ _ _ ?_)
  refine wpAny_newFunctionEnv_cells S.kind kinds fun env he s1 xc => ?_
  subst he
  have I := inv_startH (CX := CX) (P := P) (w := w) (mg := mg) (base := base) (E := E) S hpin e0 hl r xc
  refine ⟨lim.keeps xc.toInCall.keep, codeAny_func (wpAny_mono (hbody cdv (hr.deeper _) [] s1 I) (fun fl s' hs => ?_) fun _ _ hs => hs)⟩
  match fl, hs with
  | .ret u, ⟨v, σ', H', J, rv, q⟩ => exact ⟨v, H', J.os, J.bare, J.base, J.hok, rv, q⟩
  | .next, ⟨σ', H', J, q⟩ => exact ⟨.non, H', J.os, J.bare, J.base, J.hok, rfl, q⟩
  | .brk, ⟨_, _, _, q⟩ => exact q.elim
  | .cont, ⟨_, _, _, q⟩ => exact q.elim
/-- F: what it makes of an exception, by its class -/
structure HFn (P : Program) (w : World) (K : PySem.W.Frag) (mg : Str → Option Value) (base : Heap) (k : Nat) (x : Str) (F : Str → Option D) : Prop where
  ex : ∃ f fd a, mg x = some (.ref f) ∧ PySem.W.keepIn K (.ref f) = true ∧ Binds K fd [a] [] ∧ ∀ (A : Around) (outer : List Env) (s : Shared) (H : Hp) (args : Args) (us : List Value) (Q : VK) (p : Addr × Obj) (D : Addr) (y : Str) (d : PyData),
    RoomH k A → PinOk outer H s p → Env0 P w K mg base A outer s H → BindsTo s fd args ([a].zip us) → Vals [.ref p.1] us → mg y = some (.ref D) → Zc (.ref D) none p.2 → (∃ vs, p.2.data = .fields vs) → F y = some d →
    (∀ v H', Same H H' → Rp K H' (fun b => H b = none) v d → Q v H') → codeAny (model P w) A (.call (.ref f) args) (CR (L2.CX P w) outer P w H s Q fun _ _ _ => False) s
end
def cCallE (F : Str → Option D) (i : Nat) : Ex := fun ρ => match ρ[i]? with
  | some (some (.exc z)) => (F z).map .ok
  | _ => none
theorem snd_callE {c : C} {lv : Bool} {k i : Nat} {F : Str → Option D} {g x : Str} {p p1 pos : Pos} (hF : HFn c.X.prog c.X.w c.X.K c.X.mg c.X.base k g F) (hr : RoomH k c.X.A) (hc : c.X.calm = false) (hg : Gl c.X g) (hdg : (g == ("__debug__" : Str)) = false)
    (hN : c.X.N[i]? = some x) (hvs : Vis c.X.env.scope x) (hd : (x == ("__debug__" : Str)) = false) (hcd : (x == ("__classdict__" : Str)) = false) : Snd c lv (.Call (.Name g p) [.Name x p1] [] pos) (cCallE F i) := fun ρ σ H O S r hr' => by
  unfold cCallE at hr'
  split at hr'
  · rename_i z hz
    cases e : F z with
    | none => rw [e] at hr'; cases hr'
    | some d =>
      rw [e] at hr'
      cases hr'
      obtain ⟨a, oe, D, h1, h2, h3, h4, h5⟩ := S.exc hc i z hz
      obtain ⟨f, fd, an, m1, m2, m3, m4⟩ := hF
      intro Q q pins s I
      refine wpAny_Call_Name_kw (ld_glob I hg m1 ?_ hdg)
      have pv := pa_cons (X := c.X) (pe_var (pos := p1) hN hvs hd hcd) pa_nil rfl
      refine PySem.W.callWith_K (h₀ := c.X.base) I.ok.mod.kin m2 (thn (pv.run pos pins s σ H (fun vs H1 => vs = [.ref a] ∧ H1 = H) I ⟨.ref a, h1, rfl, rfl⟩) fun us s1 hh => ?_) rfl rfl
      obtain ⟨vs, H1, I1, rv, ev, eH⟩ := hh
      subst ev eH
      refine ⟨I1.kIn, ?_⟩
      have P1 := I1.pin (a, oe) (List.mem_append_left _ h2)
      have hpin : PinOk c.X.stack H1 s1 (a, oe) := ⟨P1.1, P1.2.1, fun hm => (List.mem_cons.mp (I1.stkSub a hm)).elim P1.2.2.1 P1.2.2.2.1, P1.2.2.2.2⟩
      have hlen : us.length = 1 := rv.length.symm
      have b := m3 s1 us I1.kIn (by rw [List.append_nil]; exact hlen)
      rw [List.append_nil] at b
      refine wpAny_call (codeAny_mono (m4 c.X.A c.X.stack s1 H1 ⟨us, []⟩ us Q (a, oe) D z d hr hpin I1.env0 b rv h3 h4 h5 e fun v H' s' r' => q v H' s' (.of (r'.wide fun b hb => ?_))) fun r s' hq => ?_)
      · exact (S.trk).gd hb
      · cases r with
        | error e =>
          obtain ⟨_, _, _, _, _, _, _, _, _, _, _, _, z⟩ := hq
          exact z.elim
        | ok fl =>
          match fl, hq with
          | .ret u, hq => exact I1.after hq
          | .next, hq => exact hq.elim
          | .brk, hq => exact hq.elim
          | .cont, hq => exact hq.elim
  · cases hr'
end Den

namespace Den
open PySem PySem.Spec PyProof.Rows L2
/-! ### raise -/
/-- x is an own exception class over ValueError -/
structure ExcAt (K : PySem.W.Frag) (mg : Str → Option Value) (x : Str) : Prop where
  ex : ∃ C, mg x = some (.ref C) ∧ PySem.W.excIn K C [.type "ValueError", .type "Exception", .type "BaseException", .type "object"] "ValueError.__new__" = true ∧ PySem.W.keepIn K (.ref C) = true ∧
    PySem.W.subIn K (.ref C) (.type "BaseException") = some true ∧ PySem.W.typeIn K (.ref C) = some (.type "type")
def cRaise (x : Str) : Sd := fun ρ => some (.ex x ρ)
theorem snd_raise {c : C} {x m : Str} {j : Nat} {p p2 pos pos2 : Pos} (hc : c.X.calm = true) (tk : Takes c.X c.W) (E : ExcAt c.X.K c.X.mg x) (hg : Gl c.X x) (hd : (x == ("__debug__" : Str)) = false) :
    SndS c (.Raise (some (.Call (.Name x p) [.Constant (.str m) j p2] [] pos)) none pos2) (cRaise x) := fun ρ σ H O S out ho D q => by
  cases ho
  obtain ⟨C, gC, xC, kC, bC, tC⟩ := E.ex
  refine des_of (ps_raise hc tk (pmk_own PySem.F.excBase_ValueError xC gC kC (raises_own bC tC) hg hd)) ?_
  exact q C σ H O S .refl gC

/-! ### the tables -/
structure Tab where
  fns : Str → Option (Nat × Fn)
  con : Str → Option D
  exc : Str → Bool
  hot : Bool
  isa : Str → Str → Option Bool
  hfn : Str → Option (Str → Option D)
def bltNames : List Str := ["len", "all", "any", "tuple", "list", "int", "max", "min", "isinstance", "range", "zip", "str", "bool"]
structure TabOk (T : Tab) (P : Program) (w : World) (K : PySem.W.Frag) (mg : Str → Option Value) (base : Heap) (k : Nat) : Prop where
  fn : ∀ x n F, T.fns x = some (n, F) → FnAt P w K mg base k x n F
  con : ∀ x d, T.con x = some d → ∃ v u, mg x = some u ∧ RelV v u ∧ ∀ H ok, Rp K H ok v d
  exc : ∀ x, T.exc x = true → ExcAt K mg x
  blt : ∀ x ∈ bltNames, mg x = none
  isa : ∀ x y b, T.isa x y = some b → IsaAt K mg x y b
  hfn : ∀ x F, T.hfn x = some F → HFn P w K mg base k x F
/-- where the translation holds -/
structure Cg (T : Tab) (N : List Str) (sc : Scope) (top : Bool) (k : Nat) (c : C) : Prop where
  tab : TabOk T c.X.prog c.X.w c.X.K c.X.mg c.X.base k
  N : c.X.N = N
  nd : c.X.N.Nodup
  calm : T.hot = false → c.X.calm = true
  hotc : T.hot = true → c.X.calm = false
  room : T.hot = false → Room k c.X.A
  roomH : L2H.RoomH k c.X.A
  tk : Takes c.X c.W
  vis : ∀ x, (sc.names.lookup x = some .local ∨ sc.names.lookup x = some .cell ∨ sc.names.lookup x = some .free) → Vis c.X.env.scope x
  gl : ∀ x, sc.names.lookup x = some .globalImplicit → Gl c.X x
  top : top = true → c.X.env.scope = sc ∧ (∀ x, c.X.fn x = true) ∧ PassesOwn (model c.X.prog c.X.w) c.X.A c.X.env c.X.xe ∧ sc.kind = .function
theorem Cg.hu {T : Tab} {N : List Str} {sc : Scope} {top : Bool} {k : Nat} {c : C} (g : Cg T N sc top k c) : c.X.A.units + 65 < cLine := by
  have := g.roomH.un
  omega
/-! names -/
def idx (N : List Str) (x : Str) : Option Nat := N.findIdx? (· == x)
theorem idx_get {N : List Str} {x : Str} {i : Nat} (h : idx N x = some i) : N[i]? = some x := by
  unfold idx at h
  rw [List.findIdx?_eq_some_iff_getElem] at h
  obtain ⟨hl, h1, _⟩ := h
  rw [List.getElem?_eq_getElem hl]
  exact congrArg some (by simpa using h1)
def okName (x : Str) : Bool := !(x == ("__debug__" : Str)) && !(x == ("__classdict__" : Str)) && !(x == ("__name__" : Str))
theorem okName_d {x : Str} (h : okName x = true) : (x == ("__debug__" : Str)) = false ∧ (x == ("__classdict__" : Str)) = false ∧ x ≠ ("__name__" : Str) := by
  unfold okName at h
  simp only [Bool.and_eq_true, Bool.not_eq_true'] at h
  exact ⟨h.1.1, h.1.2, by simpa using h.2⟩
inductive Nm where
  | slot (i : Nat)
  | glob
def nameOf (N : List Str) (sc : Scope) (x : Str) : Option Nm :=
  if okName x then match sc.names.lookup x with
    | some .local => (idx N x).map .slot
    | some .cell => (idx N x).map .slot
    | some .free => (idx N x).map .slot
    | some .globalImplicit => some .glob
    | _ => none
  else none
theorem nameOf_slot {N : List Str} {sc : Scope} {x : Str} {i : Nat} (h : nameOf N sc x = some (.slot i)) : okName x = true ∧ N[i]? = some x ∧ (sc.names.lookup x = some .local ∨ sc.names.lookup x = some .cell ∨ sc.names.lookup x = some .free) := by
  unfold nameOf at h
  split at h
  · rename_i ho
    split at h
    · rename_i hl
      cases e : idx N x with
      | none => rw [e] at h; cases h
      | some j => rw [e] at h; cases h; exact ⟨ho, idx_get e, .inl hl⟩
    · rename_i hl
      cases e : idx N x with
      | none => rw [e] at h; cases h
      | some j => rw [e] at h; cases h; exact ⟨ho, idx_get e, .inr (.inl hl)⟩
    · rename_i hl
      cases e : idx N x with
      | none => rw [e] at h; cases h
      | some j => rw [e] at h; cases h; exact ⟨ho, idx_get e, .inr (.inr hl)⟩
    · cases h
    · cases h
  · cases h
theorem nameOf_glob {N : List Str} {sc : Scope} {x : Str} (h : nameOf N sc x = some .glob) : okName x = true ∧ sc.names.lookup x = some .globalImplicit := by
  unfold nameOf at h
  split at h
  · rename_i ho
    split at h
    · cases e : idx N x <;> rw [e] at h <;> cases h
    · cases e : idx N x <;> rw [e] at h <;> cases h
    · cases e : idx N x <;> rw [e] at h <;> cases h
    · rename_i hl
      exact ⟨ho, hl⟩
    · cases h
  · cases h
/-! operators -/
def binD : Operator → Option (D → D → Option D)
  | .Add => some dAdd
  | .Sub => some dSub
  | .Mult => some dMul
  | .FloorDiv => some dFdiv
  | .Mod => some dMod
  | .Pow => some dPow
  | _ => none
def cmpD : CmpOp → D → D → Option D
  | .Eq => dEq
  | .NotEq => dNe
  | .Lt => dLt
  | .LtE => dLe
  | .Gt => dGt
  | .GtE => dGe
  | .Is => dIs
  | .IsNot => dIsNot
  | .In => dIn
  | .NotIn => dNotIn
theorem binD_ok {c : C} {op : Operator} {o : D → D → Option D} (h : binD op = some o) : OpD c (binaryOp op) o := by
  cases op <;> cases h
  · exact opd_add
  · exact opd_sub
  · exact opd_mul
  · exact opd_mod
  · exact opd_pow
  · exact opd_fdiv
theorem cmpD_ok {c : C} (hu : c.X.A.units + 65 < cLine) (op : CmpOp) : OpD c (compareOp op) (cmpD op) := by
  cases op with
  | Eq => exact opd_eq (by omega)
  | NotEq => exact opd_ne (by omega)
  | Lt => exact opd_lt (by omega)
  | LtE => exact opd_le
  | Gt => exact opd_gt
  | GtE => exact opd_ge
  | Is => exact opd_is
  | IsNot => exact opd_isnot
  | In => exact opd_in hu
  | NotIn => exact opd_notin hu
/-! built-in functions by name -/
inductive Bf where
  | fn (id : String) (o : List D → Option D)
  | ty (T : String) (o : List D → Option D)
def bfOf (x : Str) : Option Bf :=
  if x = "len" then some (.fn "len" dLen) else if x = "all" then some (.fn "all" dAll) else if x = "any" then some (.fn "any" dAny) else
  if x = "tuple" then some (.ty "tuple" dTuple) else if x = "list" then some (.ty "list" dList) else if x = "int" then some (.ty "int" dInt) else
  if x = "max" then some (.fn "max" dMax) else if x = "min" then some (.fn "min" dMin) else none
theorem bt_len : bootBuiltins "len" = some (.builtin "len") := by decide +kernel
theorem bt_all : bootBuiltins "all" = some (.builtin "all") := by decide +kernel
theorem bt_any : bootBuiltins "any" = some (.builtin "any") := by decide +kernel
theorem bt_tuple : bootBuiltins "tuple" = some (.type "tuple") := by decide +kernel
theorem bt_list : bootBuiltins "list" = some (.type "list") := by decide +kernel
theorem bt_int : bootBuiltins "int" = some (.type "int") := by decide +kernel
theorem bt_max : bootBuiltins "max" = some (.builtin "max") := by decide +kernel
theorem bt_min : bootBuiltins "min" = some (.builtin "min") := by decide +kernel
theorem bt_isi : bootBuiltins "isinstance" = some (.builtin "isinstance") := by decide +kernel
theorem bfOf_ok {c : C} {x : Str} {b : Bf} (hc : c.X.calm = true) (h : bfOf x = some b) : x ∈ bltNames ∧ match b with
    | .fn id o => CallD c (.builtin id) o ∧ bootBuiltins x = some (.builtin id)
    | .ty T o => CallD c (.type T) o ∧ bootBuiltins x = some (.type T) := by
  unfold bfOf at h
  split at h
  · rename_i e; subst e; cases h; exact ⟨by decide +kernel, cd_len, bt_len⟩
  · split at h
    · rename_i e; subst e; cases h; exact ⟨by decide +kernel, cd_all hc, bt_all⟩
    · split at h
      · rename_i e; subst e; cases h; exact ⟨by decide +kernel, cd_any hc, bt_any⟩
      · split at h
        · rename_i e; subst e; cases h; exact ⟨by decide +kernel, cd_tuple, bt_tuple⟩
        · split at h
          · rename_i e; subst e; cases h; exact ⟨by decide +kernel, cd_list, bt_list⟩
          · split at h
            · rename_i e; subst e; cases h; exact ⟨by decide +kernel, cd_int, bt_int⟩
            · split at h
              · rename_i e; subst e; cases h; exact ⟨by decide +kernel, cd_max hc, bt_max⟩
              · split at h
                · rename_i e; subst e; cases h; exact ⟨by decide +kernel, cd_min hc, bt_min⟩
                · cases h
/-- the classes that isinstance is asked for -/
def isiTy (x : Str) : Option String :=
  if x = "str" then some "str" else if x = "tuple" then some "tuple" else if x = "int" then some "int" else if x = "bool" then some "bool" else if x = "list" then some "list" else none
theorem bt_str : bootBuiltins "str" = some (.type "str") := by decide +kernel
theorem bt_bool : bootBuiltins "bool" = some (.type "bool") := by decide +kernel
theorem isiTy_ok {x : Str} {T : String} (h : isiTy x = some T) : x ∈ bltNames ∧ T ∈ isTys ∧ bootBuiltins x = some (.type T) := by
  unfold isiTy at h
  split at h
  · rename_i e; subst e; cases h; exact ⟨by decide +kernel, by decide +kernel, bt_str⟩
  · split at h
    · rename_i e; subst e; cases h; exact ⟨by decide +kernel, by decide +kernel, bt_tuple⟩
    · split at h
      · rename_i e; subst e; cases h; exact ⟨by decide +kernel, by decide +kernel, bt_int⟩
      · split at h
        · rename_i e; subst e; cases h; exact ⟨by decide +kernel, by decide +kernel, bt_bool⟩
        · split at h
          · rename_i e; subst e; cases h; exact ⟨by decide +kernel, by decide +kernel, bt_list⟩
          · cases h
end Den

namespace Den
open PySem PySem.Spec PyProof.Rows L2
/-! ### the block of a comprehension -/
theorem relab {env : Env} : ∀ {names : List (Str × NameKind)} {x : Str} {k : NameKind}, names.lookup x = some k →
    (names.map fun (n, k) => if (k == NameKind.free && env.scope.kind == .function && env.kindOf n == some .cell) then (n, NameKind.cell) else (n, k)).lookup x = some (if (k == NameKind.free && env.scope.kind == .function && env.kindOf x == some .cell) then .cell else k)
  | [], _, _, h => by simp at h
  | (n, k₀) :: r, x, k, h => by
    have ih := @relab env r x k
    show List.lookup x ((if (k₀ == NameKind.free && env.scope.kind == .function && env.kindOf n == some .cell) = true then (n, NameKind.cell) else (n, k₀)) :: _) = _
    cases hx : x == n with
    | true =>
      have e : x = n := by simpa using hx
      subst e
      simp only [List.lookup_cons, beq_self_eq_true] at h
      cases h
      by_cases hc : (k₀ == NameKind.free && env.scope.kind == .function && env.kindOf x == some .cell) = true
      · rw [if_pos hc, if_pos hc]; simp [List.lookup_cons]
      · rw [if_neg hc, if_neg hc]; simp [List.lookup_cons]
    | false =>
      simp only [List.lookup_cons, hx] at h
      by_cases hc : (k₀ == NameKind.free && env.scope.kind == .function && env.kindOf n == some .cell) = true
      · rw [if_pos hc]; simp only [List.lookup_cons, hx]; exact ih h
      · rw [if_neg hc]; simp only [List.lookup_cons, hx]; exact ih h
section
variable {T : Tab} {N : List Str} {sc scope : Scope} {k : Nat} {c : C} {s : Shared} {Hb : Hp} {Ca : Addr} {cl : List (Str × Addr)} {fp : List Addr} {H0 : Hp} {ok pm : Addr → Prop} {top : Bool}
theorem Cg.blk (g : Cg T N sc top k c) : Cg T N scope false k ⟨c.X.blk s Hb scope (compEnvC scope cl Ca c.X.env) fp, noX, H0, ok, pm⟩ where
  tab := g.tab
  N := g.N
  nd := g.nd
  calm := g.calm
  hotc := g.hotc
  room := g.room
  roomH := g.roomH
  tk := takes0
  vis := fun x h => by
    show Vis (relabel scope c.X.env) x
    rcases h with h | h | h
    · exact .inl (by have := relab (env := c.X.env) h; rw [if_neg (by simp)] at this; exact this)
    · exact .inr (.inl (by have := relab (env := c.X.env) h; rw [if_neg (by simp)] at this; exact this))
    · have := relab (env := c.X.env) h
      by_cases hc : (NameKind.free == NameKind.free && c.X.env.scope.kind == .function && c.X.env.kindOf x == some .cell) = true
      · rw [if_pos hc] at this; exact .inr (.inl this)
      · rw [if_neg hc] at this; exact .inr (.inr this)
  gl := fun x h => by
    show (relabel scope c.X.env).names.lookup x = some .globalImplicit
    have := relab (env := c.X.env) h
    rw [if_neg (by simp)] at this
    exact this
  top := fun h => by cases h
end
/-! ### targets -/
def tgName (N : List Str) (sc : Scope) (cell : Bool) (x : Str) : Option Nat :=
  if okName x && (decide (sc.names.lookup x = some .local) || (cell && decide (sc.names.lookup x = some .cell))) then idx N x else none
def tgNames (N : List Str) (sc : Scope) (cell : Bool) : List Expr → Option (List Nat)
  | [] => some []
  | .Name x _ :: r => match tgName N sc cell x with
    | some i => (tgNames N sc cell r).map (i :: ·)
    | none => none
  | _ => none
def dnTgt (N : List Str) (sc : Scope) (cell : Bool) : Expr → Option Tgt
  | .Name x _ => (tgName N sc cell x).map .nm
  | .Tuple es _ _ => (tgNames N sc cell es).map .tp
  | _ => none
/-- names of sc may be assigned -/
def LocOk (X : Cx) (sc : Scope) (cell : Bool) : Prop := ∀ x, (sc.names.lookup x = some .local ∨ (cell = true ∧ sc.names.lookup x = some .cell)) → Loc X.env.scope x ∧ (X.fn x = true ∨ X.env.scope.names.lookup x = some .local)
theorem tgName_ok {N : List Str} {sc : Scope} {cell : Bool} {x : Str} {i : Nat} (h : tgName N sc cell x = some i) : N[i]? = some x ∧ (sc.names.lookup x = some .local ∨ (cell = true ∧ sc.names.lookup x = some .cell)) := by
  unfold tgName at h
  split at h
  · rename_i hh
    simp only [Bool.and_eq_true, Bool.or_eq_true, decide_eq_true_eq] at hh
    exact ⟨idx_get h, hh.2⟩
  · cases h
theorem pgs_names {X : Cx} {N : List Str} {sc : Scope} {cell : Bool} (hN : X.N = N) (nd : X.N.Nodup) (L : LocOk X sc cell) : ∀ {es : List Expr} {is : List Nat}, tgNames N sc cell es = some is → PGs X es (gNames is) ∧ (assignEach es X.env).length = is.length ∧ (assignEach es X.env).findIdx? (·.1) = none
  | [], is, h => by
    cases h
    exact ⟨pgs_nil, rfl, rfl⟩
  | e :: es, is, h => by
    cases e with
    | Name x p =>
      unfold tgNames at h
      split at h
      · rename_i i hi
        cases e : tgNames N sc cell es with
        | none => rw [e] at h; cases h
        | some js =>
          rw [e] at h
          cases h
          obtain ⟨h1, h2, h3⟩ := pgs_names hN nd L e
          obtain ⟨k1, k2⟩ := tgName_ok hi
          obtain ⟨l1, l2⟩ := L x k2
          refine ⟨pgs_cons (pg_name (i := i) nd (by rw [hN]; exact k1) l1 l2) h1, ?_, ?_⟩
          · show (assignEach es X.env).length + 1 = js.length + 1
            rw [h2]
          · show List.findIdx? (·.1) ((false, assign (.Name x p) X.env) :: assignEach es X.env) = none
            rw [List.findIdx?_cons]
            simp [h3]
      · cases h
    | _ => cases h
theorem dnTgt_ok {X : Cx} {N : List Str} {sc : Scope} {cell : Bool} {tg : Expr} {t : Tgt} (hN : X.N = N) (nd : X.N.Nodup) (hc : X.calm = true) (L : LocOk X sc cell) (h : dnTgt N sc cell tg = some t) : PG X tg (gT X.K t) := by
  cases tg with
  | Name x p =>
    cases e : tgName N sc cell x with
    | none => rw [dnTgt, e] at h; cases h
    | some i =>
      rw [dnTgt, e] at h
      cases h
      obtain ⟨k1, k2⟩ := tgName_ok e
      obtain ⟨l1, l2⟩ := L x k2
      exact pg_name (i := i) nd (by rw [hN]; exact k1) l1 l2
  | Tuple es kk p =>
    cases e : tgNames N sc cell es with
    | none => rw [dnTgt, e] at h; cases h
    | some is =>
      rw [dnTgt, e] at h
      cases h
      obtain ⟨h1, h2, h3⟩ := pgs_names hN nd L e
      exact pg_tup hc h1 h2 h3
  | _ => cases h
theorem tgNames_in {N : List Str} {sc : Scope} : ∀ {es : List Expr} {is : List Nat}, tgNames N sc false es = some is → ∀ i ∈ is, ∃ x, N[i]? = some x ∧ sc.names.lookup x = some .local ∧ idx N x = some i
  | [], is, h => by cases h; simp
  | e :: es, is, h => by
    cases e with
    | Name x p =>
      unfold tgNames at h
      split at h
      · rename_i i hi
        cases e : tgNames N sc false es with
        | none => rw [e] at h; cases h
        | some js =>
          rw [e] at h
          cases h
          intro j hj
          rcases List.mem_cons.mp hj with rfl | hj
          · obtain ⟨k1, k2⟩ := tgName_ok hi
            rcases k2 with k2 | k2
            · refine ⟨x, k1, k2, ?_⟩
              unfold tgName at hi
              split at hi
              · exact hi
              · cases hi
            · cases k2.1
          · exact tgNames_in e j hj
      · cases h
    | _ => cases h
/-! ### lists of expressions -/
def dnL (r : Expr → Option Ex) : List Expr → Option (List Ex)
  | [] => some []
  | e :: es => if noStar e then match r e with
      | some f => (dnL r es).map (f :: ·)
      | none => none
    else none
theorem dnL_ok {c : C} {lv : Bool} {r : Expr → Option Ex} (hr : ∀ e f, r e = some f → Snd c lv e f) : ∀ {es : List Expr} {fs : List Ex}, dnL r es = some fs → SndA c lv es fs ∧ es.all noStar = true ∧ fs.length = es.length
  | [], fs, h => by cases h; exact ⟨sndA_nil, rfl, rfl⟩
  | e :: es, fs, h => by
    unfold dnL at h
    split at h
    · rename_i hn
      split at h
      · rename_i f hf
        cases e1 : dnL r es with
        | none => rw [e1] at h; cases h
        | some gs =>
          rw [e1] at h
          cases h
          obtain ⟨h1, h2, h3⟩ := dnL_ok hr e1
          exact ⟨sndA_cons hn (hr e f hf) h1, by simp [hn, h2], by simp [h3]⟩
      · cases h
    · cases h
def dnAr (N : List Str) (sc : Scope) (r : Expr → Option Ex) : List Expr → Option (List Ar)
  | [] => some []
  | e :: es => match dnAr N sc r es with
    | none => none
    | some as => match e with
      | .Name x _ => match nameOf N sc x with
        | some (.slot i) => some (.nm i :: as)
        | _ => (r e).map fun f => .ex f :: as
      | _ => if noStar e then (r e).map fun f => .ex f :: as else none
theorem dnAr_ok {c : C} {N : List Str} {sc : Scope} {r : Expr → Option Ex} (hr : ∀ e f, r e = some f → Snd c true e f) (hv : ∀ x i lv p, nameOf N sc x = some (.slot i) → Snd c lv (.Name x p) (cVar lv i)) :
    ∀ {es : List Expr} {as : List Ar}, dnAr N sc r es = some as → (∀ lv, SndA c lv es (as.map (Ar.at lv))) ∧ es.all noStar = true ∧ as.length = es.length
  | [], as, h => by cases h; exact ⟨fun lv => sndA_nil, rfl, rfl⟩
  | e :: es, as, h => by
    have lift : ∀ {f : Ex}, r e = some f → ∀ lv, Snd c lv e f := fun {f} hf lv => by
      cases lv with
      | true => exact hr e f hf
      | false => exact (hr e f hf).lend
    unfold dnAr at h
    split at h
    · cases h
    · rename_i as' e1
      obtain ⟨h1, h2, h3⟩ := dnAr_ok hr hv e1
      split at h
      · rename_i x p
        split at h
        · rename_i i hi
          cases h
          exact ⟨fun lv => sndA_cons rfl (hv x i lv p hi) (h1 lv), by simp [h2, noStar], by simp [h3]⟩
        · cases e2 : r (.Name x p) with
          | none => rw [e2] at h; cases h
          | some f =>
            rw [e2] at h
            cases h
            exact ⟨fun lv => sndA_cons rfl (lift e2 lv) (h1 lv), by simp [h2, noStar], by simp [h3]⟩
      · split at h
        · rename_i hn
          cases e2 : r e with
          | none => rw [e2] at h; cases h
          | some f =>
            rw [e2] at h
            cases h
            exact ⟨fun lv => sndA_cons hn (lift e2 lv) (h1 lv), by simp [h2, hn], by simp [h3]⟩
        · cases h
/-! ### and, or -/
def bopV (op : BoolOp) (f g : Ex) : Ex := match op with | .And => cAnd f g | .Or => cOr f g
def bopT (op : BoolOp) (f g : Tx) : Tx := match op with | .And => cAndT f g | .Or => cOrT f g
def dnBV (op : BoolOp) (R : Bool → Expr → Option Ex) (lv : Bool) : List Expr → Option Ex
  | [] => none
  | a :: r => match r with
    | [] => R lv a
    | _ => match R false a, dnBV op R lv r with
      | some f, some g => some (bopV op f g)
      | _, _ => none
theorem dnBV_ok {c : C} {op : BoolOp} {R : Bool → Expr → Option Ex} {lv : Bool} {pos : Pos} (hr : ∀ lv e f, R lv e = some f → Snd c lv e f) : ∀ {vs : List Expr} {f : Ex}, dnBV op R lv vs = some f → Snd c lv (.BoolOp op vs pos) f
  | [], f, h => by cases h
  | [a], f, h => snd_one (hr lv a f h)
  | a :: b :: r, f, h => by
    rw [dnBV] at h
    case x_2 => simp
    split at h
    · rename_i f1 g1 h1 h2
      cases h
      have ih := dnBV_ok (pos := pos) hr h2
      cases op with
      | And => exact snd_and (hr false a f1 h1) ih
      | Or => exact snd_or (hr false a f1 h1) ih
    · cases h
def dnBT (op : BoolOp) (R : Expr → Option Tx) : List Expr → Option Tx
  | [] => none
  | a :: r => match r with
    | [] => R a
    | _ => match R a, dnBT op R r with
      | some f, some g => some (bopT op f g)
      | _, _ => none
theorem dnBT_ok {c : C} {op : BoolOp} {R : Expr → Option Tx} {pos : Pos} (hr : ∀ e f, R e = some f → SndT c e f) : ∀ {vs : List Expr} {f : Tx}, dnBT op R vs = some f → SndW c (.BoolOp op vs pos) f
  | [], f, h => by cases h
  | [a], f, h => by
    cases op with
    | And => exact sndW_and1 (hr a f h)
    | Or => exact sndW_or1 (hr a f h)
  | a :: b :: r, f, h => by
    rw [dnBT] at h
    case x_2 => simp
    split at h
    · rename_i f1 g1 h1 h2
      cases h
      have ih := dnBT_ok (pos := pos) hr h2
      cases op with
      | And => exact sndW_and (hr a f1 h1) ih
      | Or => exact sndW_or (hr a f1 h1) ih
    · cases h
end Den

namespace Den
open PySem PySem.Spec PyProof.Rows L2
/-! ### the translation of expressions -/
structure Rr where
  v : Bool → Expr → Option Ex
  t : Expr → Option Tx
structure ROk (c : C) (R : Rr) : Prop where
  v : ∀ lv e f, R.v lv e = some f → Snd c lv e f
  t : ∀ e f, R.t e = some f → SndT c e f
def sOkB (x : Str) : Bool := PyData.strOk x && decide (x.length ≤ 4096)
theorem sOkB_ok {x : Str} (h : sOkB x = true) : sOk x := by
  unfold sOkB at h
  rw [Bool.and_eq_true, decide_eq_true_eq] at h
  exact ⟨h.1, Nat.le_trans h.2 (by decide)⟩
def op2 {α β γ : Type} (g : α → β → γ) : Option α → Option β → Option γ
  | some a, some b => some (g a b)
  | _, _ => none
theorem op2_inv {α β γ : Type} {g : α → β → γ} {a : Option α} {b : Option β} {y : γ} (h : op2 g a b = some y) : ∃ u v, a = some u ∧ b = some v ∧ y = g u v := by
  unfold op2 at h
  split at h
  · cases h; exact ⟨_, _, rfl, rfl, rfl⟩
  · cases h
theorem map_inv {α β : Type} {g : α → β} {a : Option α} {y : β} (h : a.map g = some y) : ∃ u, a = some u ∧ y = g u := by
  cases a with
  | none => cases h
  | some u => cases h; exact ⟨u, rfl, rfl⟩
def gIf {α : Type} (b : Bool) (o : Option α) : Option α := if b then o else none
theorem gIf_inv {α : Type} {b : Bool} {o : Option α} {y : α} (h : gIf b o = some y) : b = true ∧ o = some y := by
  unfold gIf at h
  split at h
  · exact ⟨by assumption, h⟩
  · cases h
def dxConst : Const → Option Ex
  | .none => some (cD .none)
  | .bool b => some (cD (.bool b))
  | .int i => some (cD (.int i))
  | .str x => gIf (sOkB x) (some (cD (.str x)))
  | _ => none
def dxName (T : Tab) (N : List Str) (sc : Scope) (lv : Bool) (x : Str) : Option Ex := match nameOf N sc x with
  | some (.slot i) => some (cVar lv i)
  | some .glob => (T.con x).map cD
  | none => none
def dxCmp (R : Rr) (a : Expr) : List CmpOp → List Expr → Option Ex
  | [op], [b] => gIf (notSet b) (op2 (cOp (cmpD op)) (R.v false a) (R.v false b))
  | [op, op'], [b, d] => gIf (notSet d) (match R.v false a with
    | some f => op2 (cChain (cmpD op) (cmpD op') f) (R.v false b) (R.v false d)
    | none => none)
  | _, _ => none
def dxUn (R : Rr) : UnaryOp → Expr → Option Ex
  | .Not, a => (R.v false a).map cNot
  | .USub, a => (R.v false a).map (cUn dNeg)
  | _, _ => none
def dxPart (R : Rr) : Option Expr → Option (Option Ex)
  | none => some none
  | some e => (R.v false e).map some
def dxSub (R : Rr) (a : Expr) : Expr → Option Ex
  | .Slice lo hi none _ => match R.v false a with
    | some f => op2 (cSl f) (dxPart R lo) (dxPart R hi)
    | none => none
  | b => gIf (notSlice b) (op2 (cOp dIx) (R.v false a) (R.v false b))
def dxBin (R : Rr) (a : Expr) (op : Operator) (b : Expr) : Option Ex := match binD op with
  | some o => op2 (cOp o) (R.v false a) (R.v false b)
  | none => none
def dxIf (R : Rr) (lv : Bool) (t a b : Expr) : Option Ex := match R.t t with
  | some p => op2 (cIf p) (R.v lv a) (R.v lv b)
  | none => none
/-! sources -/
def dxSrc (N : List Str) (sc : Scope) (R : Rr) (tup : Bool) (iter : Expr) : Option Sx := match iter with
  | .Call (.Name x _) args [] _ =>
    if x = "range" then gIf (decide (sc.names.lookup ("range" : Str) = some .globalImplicit) && args.all noStar) (match args with
      | [_] => (dnL (R.v false) args).map cRange1
      | [_, _] => (dnL (R.v false) args).map cRange2
      | _ => none)
    else if x = "zip" then gIf (tup && decide (sc.names.lookup ("zip" : Str) = some .globalImplicit) && args.all noStar) (match args with
      | [_, _] => (dnL (R.v false) args).map cZip
      | _ => none)
    else (R.v false iter).map cIt
  | _ => (R.v false iter).map cIt
def isTup : Expr → Bool
  | .Tuple _ _ _ => true
  | _ => false
def dxIfs (R : Rr) : List Expr → Option Tx
  | [] => some cYes
  | [t] => R.t t
  | _ => none
def ownOf (N : List Str) (scope : Scope) : List (Str × Nat) := scope.names.filterMap fun y => if y.2 = .local then (idx N y.1).map fun i => (y.1, i) else none
structure LcP where
  src : Sx
  vs : List Nat
  t : Tgt
  ft : Tx
  fe : Ex
def dxLcP (N : List Str) (sc : Scope) (tp : Bool) (R : Rr) (B : Scope → Rr) (elt : Expr) (scope : Scope) : List Comprehension → Option LcP
  | [⟨tg, iter, ifs, 0⟩] => gIf (tp && notSet iter && blkC N sc scope (ownOf N scope)) (match dnTgt N scope false tg, dxSrc N sc R (isTup tg) iter, dxIfs (B scope) ifs, (B scope).v true elt with
    | some t, some src, some ft, some fe => gIf (t.slots.all fun i => decide (i ∈ (ownOf N scope).map (·.2))) (some ⟨src, (ownOf N scope).map (·.2), t, ft, fe⟩)
    | _, _, _, _ => none)
  | _ => none
def LcP.ex (p : LcP) : Ex := cLc p.src p.vs p.t p.ft p.fe
/-! calls -/
def dxIsE (T : Tab) (N : List Str) (sc : Scope) (y : Str) : Expr → Option Ex
  | .Name x _ => match nameOf N sc x with
    | some (.slot i) => gIf T.hot (some (cIsE (fun z => T.isa z y) i))
    | _ => none
  | _ => none
def dxIsi (T : Tab) (N : List Str) (sc : Scope) (R : Rr) : List Expr → Option Ex
  | [a, .Name y _] => match nameOf N sc y with
    | some .glob => match isiTy y with
      | some ty => gIf (noStar a) ((R.v false a).map (cUn (dIsi ty)))
      | none => dxIsE T N sc y a
    | _ => none
  | _ => none
def dxHot (T : Tab) (N : List Str) (sc : Scope) (x : Str) : List Expr → Option Ex
  | [.Name y _] => match nameOf N sc y, T.hfn x with
    | some (.slot i), some F => some (cCallE F i)
    | _, _ => none
  | _ => none
def dxFn (T : Tab) (N : List Str) (sc : Scope) (R : Rr) (x : Str) (args : List Expr) : Option Ex :=
  gIf (!args.isEmpty) (if x = "isinstance" then dxIsi T N sc R args else if T.hot then dxHot T N sc x args else match T.fns x with
    | some (n, F) => match dnAr N sc (R.v true) args with
      | some as => gIf (decide (as.length = n)) (some (cCall F as))
      | none => none
    | none => match bfOf x with
      | some (.fn _ o) => (dnL (R.v false) args).map (cFn o)
      | some (.ty _ o) => (dnL (R.v false) args).map (cFn o)
      | none => none)
def mtOf (x : Str) : Option (D → List D → Option D) := if x = "split" then some dSplit else if x = "join" then some dJoin else if x = "index" then some dIndex else if x = "count" then some dCount else none
def dxMt (R : Rr) (a : Expr) (name : Str) (apos pos : Pos) (args : List Expr) : Option Ex :=
  gIf (!args.isEmpty && noSuper a && decide (args.length < 30) && (apos.endLine == pos.line)) (match mtOf name with
    | some o => op2 (cMtO o) (R.v false a) (dnL (R.v false) args)
    | none => none)
def dxCall (T : Tab) (N : List Str) (sc : Scope) (R : Rr) (args : List Expr) (pos : Pos) : Expr → Option Ex
  | .Name x _ => match nameOf N sc x with
    | some .glob => dxFn T N sc R x args
    | _ => none
  | .Attribute a name apos => dxMt R a name apos pos args
  | _ => none
def denE1 (T : Tab) (N : List Str) (sc : Scope) (top : Bool) (R : Rr) (B : Scope → Rr) (lv : Bool) : Expr → Option Ex
  | .Constant k _ _ => dxConst k
  | .Name x _ => dxName T N sc lv x
  | .Tuple es _ _ => gIf (decide (es.length ≤ 4096)) ((dnL (R.v true) es).map cTup)
  | .List es _ => gIf (decide (es.length ≤ 4096)) ((dnL (R.v true) es).map cLst)
  | .BinOp a op b _ => dxBin R a op b
  | .Compare a ops bs _ => dxCmp R a ops bs
  | .BoolOp op vs _ => dnBV op R.v lv vs
  | .UnaryOp op a _ => dxUn R op a
  | .IfExp t a b _ => dxIf R lv t a b
  | .Subscript a b _ => dxSub R a b
  | .ListComp elt gens scope _ => (dxLcP N sc (top && !T.hot) R B elt scope gens).map LcP.ex
  | .Call f args [] pos => dxCall T N sc R args pos f
  | _ => none
def denT1 (T : Tab) (N : List Str) (sc : Scope) (top : Bool) (R : Rr) (B : Scope → Rr) : Expr → Option Tx
  | .Compare a ops bs _ => (dxCmp R a ops bs).map cT
  | .BoolOp op vs _ => dnBT op R.t vs
  | .UnaryOp .Not a _ => (R.t a).map cNotT
  | e => gIf (plainT e) ((denE1 T N sc top R B false e).map cT)
def den (T : Tab) (N : List Str) : Nat → Scope → Bool → Rr
  | 0, _, _ => ⟨fun _ _ => none, fun _ => none⟩
  | n + 1, sc, top => ⟨denE1 T N sc top (den T N n sc top) fun s => den T N n s false, denT1 T N sc top (den T N n sc top) fun s => den T N n s false⟩
section
variable {T : Tab} {N : List Str} {sc : Scope} {top lv : Bool} {k : Nat} {c : C} {R : Rr} {f : Ex} {a e : Expr} {pos p : Pos} {j : Nat}
theorem dxConst_ok {kk : Const} (h : dxConst kk = some f) : Snd c lv (.Constant kk j pos) f := by
  cases kk with
  | none => cases h; exact snd_none
  | bool b => cases h; exact snd_bool
  | int i => cases h; exact snd_int
  | str x =>
    obtain ⟨h1, h2⟩ := gIf_inv h
    cases h2
    exact snd_str (sOkB_ok h1)
  | _ => cases h
theorem var_ok (g : Cg T N sc top k c) {x : Str} {i : Nat} (h : nameOf N sc x = some (.slot i)) : Snd c lv (.Name x pos) (cVar lv i) := by
  obtain ⟨h1, h2, h3⟩ := nameOf_slot h
  obtain ⟨d1, d2, d3⟩ := okName_d h1
  exact snd_var (by rw [g.N]; exact h2) (g.vis x h3) d1 d2
theorem dxName_ok (g : Cg T N sc top k c) {x : Str} (h : dxName T N sc lv x = some f) : Snd c lv (.Name x pos) f := by
  unfold dxName at h
  split at h
  · cases h; exact var_ok g (by assumption)
  · obtain ⟨d, h1, rfl⟩ := map_inv h
    obtain ⟨k1, k2⟩ := nameOf_glob (by assumption)
    obtain ⟨d1, d2, d3⟩ := okName_d k1
    obtain ⟨v, u, m1, m2, m3⟩ := g.tab.con x d h1
    exact snd_glob (g.gl x k2) m1 m2 m3 d1
  · cases h
theorem dxCmp_ok (g : Cg T N sc top k c) (r : ROk c R) {ops : List CmpOp} {bs : List Expr} (h : dxCmp R a ops bs = some f) : Snd c lv (.Compare a ops bs pos) f ∧ SndT c (.Compare a ops bs pos) (cT f) := by
  unfold dxCmp at h
  split at h
  · obtain ⟨h1, h2⟩ := gIf_inv h
    obtain ⟨u, v, e1, e2, rfl⟩ := op2_inv h2
    exact ⟨snd_cmp (cmpD_ok g.hu _) (r.v _ _ _ e1) (r.v _ _ _ e2) h1, sndT_cmp (cmpD_ok g.hu _) (r.v _ _ _ e1) (r.v _ _ _ e2) h1⟩
  · obtain ⟨h1, h2⟩ := gIf_inv h
    split at h2
    · obtain ⟨u, v, e1, e2, rfl⟩ := op2_inv h2
      exact ⟨snd_chain (cmpD_ok g.hu _) (cmpD_ok g.hu _) (r.v _ _ _ (by assumption)) (r.v _ _ _ e1) (r.v _ _ _ e2) h1, sndT_chain (cmpD_ok g.hu _) (cmpD_ok g.hu _) (r.v _ _ _ (by assumption)) (r.v _ _ _ e1) (r.v _ _ _ e2) h1⟩
    · cases h2
  · cases h
theorem dxUn_ok (r : ROk c R) {op : UnaryOp} (h : dxUn R op a = some f) : Snd c lv (.UnaryOp op a pos) f := by
  cases op with
  | Not => obtain ⟨u, e1, rfl⟩ := map_inv h; exact snd_not (r.v _ _ _ e1)
  | USub => obtain ⟨u, e1, rfl⟩ := map_inv h; exact snd_neg (r.v _ _ _ e1)
  | _ => cases h
theorem dxPart_ok (r : ROk c R) {o : Option Expr} {q : Option Ex} (h : dxPart R o = some q) : SndO c o q := by
  cases o with
  | none => cases h; exact sndO_none
  | some e => obtain ⟨u, e1, rfl⟩ := map_inv h; exact sndO_some (r.v _ _ _ e1)
theorem dxSub_ok (r : ROk c R) {b : Expr} (h : dxSub R a b = some f) : Snd c lv (.Subscript a b pos) f := by
  unfold dxSub at h
  split at h
  · split at h
    · obtain ⟨u, v, e1, e2, rfl⟩ := op2_inv h
      exact snd_sl (r.v _ _ _ (by assumption)) (dxPart_ok r e1) (dxPart_ok r e2)
    · cases h
  · obtain ⟨h1, h2⟩ := gIf_inv h
    obtain ⟨u, v, e1, e2, rfl⟩ := op2_inv h2
    exact snd_ix (r.v _ _ _ e1) (r.v _ _ _ e2) h1
theorem isTup_inv {tg : Expr} (h : isTup tg = true) : ∃ es k p, tg = .Tuple es k p := by
  cases tg <;> first | exact ⟨_, _, _, rfl⟩ | cases h
theorem dnL1 {r : Expr → Option Ex} {es : List Expr} {fs : List Ex} (hr : ∀ e f, r e = some f → Snd c lv e f) (h : dnL r es = some fs) : SndA c lv es fs := (dnL_ok hr h).1
theorem dxSrc_ok (g : Cg T N sc top k c) (r : ROk c R) {tg iter : Expr} {s : Sx} (h : dxSrc N sc R (isTup tg) iter = some s) : SndI c tg iter s := by
  have hv : ∀ {s : Sx}, (R.v false iter).map cIt = some s → SndI c tg iter s := fun q => by
    obtain ⟨u, e1, rfl⟩ := map_inv q
    exact sndI_it (r.v _ _ _ e1)
  unfold dxSrc at h
  split at h
  · rename_i x p args pos
    split at h
    · rename_i hx
      subst hx
      obtain ⟨h1, h2⟩ := gIf_inv h
      rw [Bool.and_eq_true, decide_eq_true_eq] at h1
      have hm := g.tab.blt "range" (by decide)
      split at h2
      · rename_i a
        obtain ⟨fs, e1, rfl⟩ := map_inv h2
        exact sndI_range1 (dnL1 (r.v false) e1) (by simpa using h1.2) (g.gl _ h1.1) hm
      · rename_i a b
        obtain ⟨fs, e1, rfl⟩ := map_inv h2
        have hh : noStar a = true ∧ noStar b = true := by simpa using h1.2
        exact sndI_range2 (dnL1 (r.v false) e1) hh.1 hh.2 (g.gl _ h1.1) hm
      · cases h2
    · split at h
      · rename_i hx
        subst hx
        obtain ⟨h1, h2⟩ := gIf_inv h
        rw [Bool.and_eq_true, Bool.and_eq_true, decide_eq_true_eq] at h1
        have hm := g.tab.blt "zip" (by decide)
        obtain ⟨es, kk, pp, rfl⟩ := isTup_inv h1.1.1
        split at h2
        · rename_i a b
          obtain ⟨fs, e1, rfl⟩ := map_inv h2
          have hh : noStar a = true ∧ noStar b = true := by simpa using h1.2
          exact sndI_zip (dnL1 (r.v false) e1) hh.1 hh.2 (g.gl _ h1.1.2) hm
        · cases h2
      · exact hv h
  · exact hv h
theorem dxIfs_ok (r : ROk c R) {ifs : List Expr} {t : Tx} (h : dxIfs R ifs = some t) : SndTs c ifs t := by
  unfold dxIfs at h
  split at h
  · cases h; exact sndTs_nil
  · exact sndTs_one (r.t _ _ h)
  · cases h
/-- the pieces of a comprehension -/
structure LcOk (c : C) (elt : Expr) (gens : List Comprehension) (scope : Scope) (p : LcP) : Prop where
  calm : c.X.calm = true
  ex : ∃ tg iter ifs own, gens = [⟨tg, iter, ifs, 0⟩] ∧ p.vs = own.map (·.2) ∧ notSet iter = true ∧ SndI c tg iter p.src ∧ BlkOk c.X.N c.X.env.scope scope own ∧
    (∀ (s : Shared) (H : Hp) (C : Addr) (cl : List (Str × Addr)) (fp : List Addr), PG (c.X.blk s H scope (compEnvC scope cl C c.X.env) fp) tg (gT c.X.K p.t)) ∧ (∀ i ∈ p.t.slots, i ∈ own.map (·.2)) ∧
    (∀ (s : Shared) (H : Hp) (C : Addr) (cl : List (Str × Addr)) (fp : List Addr) (H0 : Hp) (ok pm : Addr → Prop), SndTs ⟨c.X.blk s H scope (compEnvC scope cl C c.X.env) fp, noX, H0, ok, pm⟩ ifs p.ft) ∧
    (∀ (s : Shared) (H : Hp) (C : Addr) (cl : List (Str × Addr)) (fp : List Addr) (H0 : Hp) (ok pm : Addr → Prop), Snd ⟨c.X.blk s H scope (compEnvC scope cl C c.X.env) fp, noX, H0, ok, pm⟩ true elt p.fe)
theorem dxLcP_ok (g : Cg T N sc top k c) {tp : Bool} (htp : tp = true → top = true ∧ T.hot = false) (r : ROk c R) {B : Scope → Rr} (hB : ∀ s c', Cg T N s false k c' → ROk c' (B s)) {elt : Expr} {scope : Scope} {gens : List Comprehension} {p : LcP} (h : dxLcP N sc tp R B elt scope gens = some p) : LcOk c elt gens scope p := by
  unfold dxLcP at h
  split at h
  · rename_i tg iter ifs
    obtain ⟨h1, h2⟩ := gIf_inv h
    rw [Bool.and_eq_true, Bool.and_eq_true] at h1
    split at h2
    · rename_i t src ft fe e1 e2 e3 e4
      obtain ⟨h3, h4⟩ := gIf_inv h2
      cases h4
      obtain ⟨htop, hhot⟩ := htp h1.1.1
      obtain ⟨t1, t2, t3, t4⟩ := g.top htop
      have hb : ∀ (s : Shared) (H : Hp) (C : Addr) (cl : List (Str × Addr)) (fp : List Addr) (H0 : Hp) (ok pm : Addr → Prop), ROk ⟨c.X.blk s H scope (compEnvC scope cl C c.X.env) fp, noX, H0, ok, pm⟩ (B scope) := fun s H C cl fp H0 ok pm => hB scope _ (g.blk)
      refine ⟨g.calm hhot, tg, iter, ifs, ownOf N scope, rfl, rfl, h1.1.2, dxSrc_ok g r e2, ?_, ?_, ?_, ?_, ?_⟩
      · have := blkOk_by h1.2
        rw [t1, g.N]
        exact this
      · intro s H C cl fp
        refine dnTgt_ok (N := N) (sc := scope) (cell := false) g.N g.nd (g.calm hhot) (fun x hx => ?_) e1
        rcases hx with hx | hx
        · have : (relabel scope c.X.env).names.lookup x = some .local := by have := relab (env := c.X.env) hx; rw [if_neg (by simp)] at this; exact this
          exact ⟨.inl this, .inr this⟩
        · cases hx.1
      · intro i hi
        rw [List.all_eq_true] at h3
        simpa using h3 i hi
      · intro s H C cl fp H0 ok pm
        exact dxIfs_ok (hb s H C cl fp H0 ok pm) e3
      · intro s H C cl fp H0 ok pm
        exact (hb s H C cl fp H0 ok pm).v _ _ _ e4
    · cases h2
  · cases h
theorem LcOk.n (g : Cg T N sc top k c) {elt : Expr} {gens : List Comprehension} {scope : Scope} {q : LcP} (h : LcOk c elt gens scope q) : SndN c (.ListComp elt gens scope pos) q.ex := by
  obtain ⟨hcm, tg, iter, ifs, own, rfl, h2, h3, h4, h5, h6, h7, h8, h9⟩ := h
  unfold LcP.ex
  rw [h2]
  exact lc_sound hcm g.nd h4 h5 h6 h7 h8 h9 h3
theorem dxIsE_ok (g : Cg T N sc top k c) {y : Str} {p1 : Pos} (hg : sc.names.lookup ("isinstance" : Str) = some .globalImplicit) (hy : nameOf N sc y = some .glob) (h : dxIsE T N sc y a = some f) : Snd c lv (.Call (.Name "isinstance" p) [a, .Name y p1] [] pos) f := by
  unfold dxIsE at h
  split at h
  · split at h
    · rename_i i e1
      obtain ⟨h1, h2⟩ := gIf_inv h
      cases h2
      obtain ⟨k1, k2⟩ := nameOf_glob hy
      obtain ⟨d1, d2, d3⟩ := okName_d k1
      obtain ⟨m1, m2, m3⟩ := nameOf_slot e1
      obtain ⟨q1, q2, q3⟩ := okName_d m1
      exact snd_isE (g.hotc h1) (by rw [g.N]; exact m2) (g.vis _ m3) q1 q2 (g.gl _ hg) (g.tab.blt _ (by decide)) bt_isi (by decide) (by decide) (g.gl _ k2) d3 d1 fun z b hz => g.tab.isa z y b hz
    · cases h
  · cases h
theorem dxIsi_ok (g : Cg T N sc top k c) (r : ROk c R) {args : List Expr} (hg : sc.names.lookup ("isinstance" : Str) = some .globalImplicit) (h : dxIsi T N sc R args = some f) : Snd c lv (.Call (.Name "isinstance" p) args [] pos) f := by
  unfold dxIsi at h
  split at h
  · rename_i a y _
    split at h
    · rename_i e1
      split at h
      · rename_i ty e2
        obtain ⟨h1, h2⟩ := gIf_inv h
        obtain ⟨u, e3, rfl⟩ := map_inv h2
        obtain ⟨k1, k2⟩ := nameOf_glob e1
        obtain ⟨d1, d2, d3⟩ := okName_d k1
        obtain ⟨i1, i2, i3⟩ := isiTy_ok e2
        exact snd_isi i2 (r.v _ _ _ e3) h1 (g.gl _ hg) (g.tab.blt _ (by decide)) bt_isi (by decide) (by decide) (g.gl _ k2) (g.tab.blt _ i1) i3 d3 d1
      · exact dxIsE_ok g hg e1 h
    · cases h
  · cases h
theorem dxHot_ok (g : Cg T N sc top k c) {x : Str} {args : List Expr} (hh : T.hot = true) (hx : nameOf N sc x = some .glob) (h : dxHot T N sc x args = some f) : Snd c lv (.Call (.Name x p) args [] pos) f := by
  obtain ⟨k1, k2⟩ := nameOf_glob hx
  obtain ⟨d1, d2, d3⟩ := okName_d k1
  unfold dxHot at h
  split at h
  · split at h
    · rename_i i F e1 e2
      cases h
      obtain ⟨m1, m2, m3⟩ := nameOf_slot e1
      obtain ⟨q1, q2, q3⟩ := okName_d m1
      exact snd_callE (g.tab.hfn _ _ e2) g.roomH (g.hotc hh) (g.gl _ k2) d1 (by rw [g.N]; exact m2) (g.vis _ m3) q1 q2
    · cases h
  · cases h
theorem dxFn_ok (g : Cg T N sc top k c) (r : ROk c R) {x : Str} {args : List Expr} (hx : nameOf N sc x = some .glob) (h : dxFn T N sc R x args = some f) : Snd c lv (.Call (.Name x p) args [] pos) f := by
  obtain ⟨k1, k2⟩ := nameOf_glob hx
  obtain ⟨d1, d2, d3⟩ := okName_d k1
  unfold dxFn at h
  obtain ⟨h1, h2⟩ := gIf_inv h
  cases args with
  | nil => cases h1
  | cons a as =>
    split at h2
    · rename_i hi
      subst hi
      exact dxIsi_ok g r k2 h2
    · split at h2
      · rename_i hh
        exact dxHot_ok g hh hx h2
      · rename_i hh
        have hh : T.hot = false := by simpa using hh
        split at h2
        · rename_i n F e1
          split at h2
          · rename_i as' e2
            obtain ⟨h3, h4⟩ := gIf_inv h2
            cases h4
            obtain ⟨q1, q2, q3⟩ := dnAr_ok (c := c) (r.v true) (fun x i lv p hh => var_ok g hh) e2
            exact snd_call (g.tab.fn x n F e1) (g.room hh) g.tk (g.gl x k2) d1 q2 (by simpa using h3) q1
          · cases h2
        · split at h2
          · rename_i id o e3
            obtain ⟨fs, e1, rfl⟩ := map_inv h2
            obtain ⟨q1, q2, q3⟩ := dnL_ok (r.v false) e1
            obtain ⟨b1, b2, b3⟩ := bfOf_ok (c := c) (g.calm hh) e3
            exact snd_callB b2 (g.gl x k2) (g.tab.blt x b1) b3 d3 d1 q2 q1
          · rename_i id o e3
            obtain ⟨fs, e1, rfl⟩ := map_inv h2
            obtain ⟨q1, q2, q3⟩ := dnL_ok (r.v false) e1
            obtain ⟨b1, b2, b3⟩ := bfOf_ok (c := c) (g.calm hh) e3
            exact snd_callTy b2 (g.gl x k2) (g.tab.blt x b1) b3 d3 d1 q2 q1
          · cases h2
theorem dxMt_ok (r : ROk c R) {name : Str} {apos : Pos} {args : List Expr} (h : dxMt R a name apos pos args = some f) : Snd c lv (.Call (.Attribute a name apos) args [] pos) f := by
  unfold dxMt at h
  obtain ⟨h1, h2⟩ := gIf_inv h
  rw [Bool.and_eq_true, Bool.and_eq_true, Bool.and_eq_true, decide_eq_true_eq] at h1
  obtain ⟨⟨⟨h1, h3⟩, h4⟩, h5⟩ := h1
  cases args with
  | nil => cases h1
  | cons a as =>
    split at h2
    · rename_i o e1
      obtain ⟨u, fs, e2, e3, rfl⟩ := op2_inv h2
      obtain ⟨q1, q2, q3⟩ := dnL_ok (r.v false) e3
      unfold mtOf at e1
      split at e1
      · rename_i hn
        subst hn
        cases e1
        exact snd_mt md_split PySem.F.plainAttrs_str PySem.F.slot_str_split PySem.F.type_str_split (r.v _ _ _ e2) q1 h3 q2 h4 h5
      · split at e1
        · rename_i hn
          subst hn
          cases e1
          exact snd_mt md_join PySem.F.plainAttrs_str PySem.F.slot_str_join PySem.F.type_str_join (r.v _ _ _ e2) q1 h3 q2 h4 h5
        · split at e1
          · rename_i hn
            subst hn
            cases e1
            exact snd_mt md_index PySem.F.plainAttrs_list PySem.F.slot_list_index PySem.F.type_list_index (r.v _ _ _ e2) q1 h3 q2 h4 h5
          · split at e1
            · rename_i hn
              subst hn
              cases e1
              exact snd_mt md_count PySem.F.plainAttrs_list PySem.F.slot_list_count PySem.F.type_list_count (r.v _ _ _ e2) q1 h3 q2 h4 h5
            · cases e1
    · cases h2
theorem dxCall_ok (g : Cg T N sc top k c) (r : ROk c R) {args : List Expr} {fn : Expr} (h : dxCall T N sc R args pos fn = some f) : Snd c lv (.Call fn args [] pos) f := by
  unfold dxCall at h
  split at h
  · split at h
    · exact dxFn_ok g r (by assumption) h
    · cases h
  · exact dxMt_ok r h
  · cases h
theorem denE1_ok (g : Cg T N sc top k c) (r : ROk c R) {B : Scope → Rr} (hB : ∀ s c', Cg T N s false k c' → ROk c' (B s)) (h : denE1 T N sc top R B lv e = some f) : Snd c lv e f := by
  cases e with
  | Constant kk j p => exact dxConst_ok h
  | Name x p => exact dxName_ok g h
  | Tuple es kk p =>
    obtain ⟨h1, h2⟩ := gIf_inv h
    obtain ⟨fs, e1, rfl⟩ := map_inv h2
    obtain ⟨q1, q2, q3⟩ := dnL_ok (r.v true) e1
    exact snd_tup (by rw [q3]; exact Nat.le_trans (by simpa using h1) (by decide)) q1
  | List es p =>
    obtain ⟨h1, h2⟩ := gIf_inv h
    obtain ⟨fs, e1, rfl⟩ := map_inv h2
    obtain ⟨q1, q2, q3⟩ := dnL_ok (r.v true) e1
    exact snd_lst (by rw [q3]; exact Nat.le_trans (by simpa using h1) (by decide)) q1
  | BinOp a op b p =>
    have h : dxBin R a op b = some f := h
    unfold dxBin at h
    split at h
    · obtain ⟨u, v, e1, e2, rfl⟩ := op2_inv h
      exact snd_bin (binD_ok (by assumption)) (r.v _ _ _ e1) (r.v _ _ _ e2)
    · cases h
  | Compare a ops bs p => exact (dxCmp_ok g r h).1
  | BoolOp op vs p => exact dnBV_ok r.v h
  | UnaryOp op a p => exact dxUn_ok r h
  | IfExp t a b p =>
    have h : dxIf R lv t a b = some f := h
    unfold dxIf at h
    split at h
    · obtain ⟨u, v, e1, e2, rfl⟩ := op2_inv h
      exact snd_if (r.t _ _ (by assumption)) (r.v _ _ _ e1) (r.v _ _ _ e2)
    · cases h
  | Subscript a b p => exact dxSub_ok r h
  | ListComp elt gens scope p =>
    obtain ⟨q, e1, rfl⟩ := map_inv h
    exact ((dxLcP_ok g (fun z => by simpa using z) r hB e1).n g).s
  | Call fn args kws p =>
    cases kws with
    | nil => exact dxCall_ok g r h
    | cons a b => cases h
  | _ => cases h
theorem denT1_ok (g : Cg T N sc top k c) (r : ROk c R) {B : Scope → Rr} (hB : ∀ s c', Cg T N s false k c' → ROk c' (B s)) {t : Tx} (h : denT1 T N sc top R B e = some t) : SndT c e t := by
  have hv : ∀ {t : Tx}, gIf (plainT e) ((denE1 T N sc top R B false e).map cT) = some t → SndT c e t := fun q => by
    obtain ⟨h1, h2⟩ := gIf_inv q
    obtain ⟨u, e1, rfl⟩ := map_inv h2
    exact sndT_val (denE1_ok g r hB e1) h1
  cases e with
  | Compare a ops bs p =>
    obtain ⟨u, e1, rfl⟩ := map_inv h
    exact (dxCmp_ok (lv := false) g r e1).2
  | BoolOp op vs p => exact (dnBT_ok r.t h).t
  | UnaryOp op a p =>
    cases op with
    | Not =>
      obtain ⟨u, e1, rfl⟩ := map_inv h
      exact sndT_not (r.t _ _ e1)
    | _ => exact hv h
  | _ => exact hv h
end
theorem den_ok {T : Tab} {N : List Str} {k : Nat} : ∀ (n : Nat) {sc : Scope} {top : Bool} {c : C}, Cg T N sc top k c → ROk c (den T N n sc top)
  | 0, _, _, _, _ => ⟨fun _ _ _ h => (by cases h), fun _ _ h => (by cases h)⟩
  | n + 1, sc, top, c, g => ⟨fun lv e f h => denE1_ok g (den_ok n g) (fun s c' g' => den_ok n g') h, fun e f h => denT1_ok g (den_ok n g) (fun s c' g' => den_ok n g') h⟩
end Den

namespace Den
open PySem PySem.Spec PyProof.Rows L2
/-! ### which order the stores take -/
def swNames (sc : Scope) (ts : List Expr) : List Str :=
  ts.filterMap fun
    | .Name id pos => if sc.names.lookup id == some .local && pos.line == (ts.head?.map (·.pos.line)).getD 0 then some id else none
    | _ => none
/-- none: not covered; some none: from the left; some (some _): names, stored from the right -/
def swB (sc : Scope) (ts vs : List Expr) : Option (Option (List Str)) :=
  if (!(ts.length == 2 || ts.length == 3) || vs.length != ts.length) = true then some none else
  if (vs.any fun | .Starred .. => true | _ => false) = true then some none else
  if ((swNames sc ts).length != ts.length || (swNames sc ts).eraseDups.length != (swNames sc ts).length) = true then some none else
  if vs.all (foldedForSure 8) = true then some none else
  if vs.all (constantsAlone 8) = true then none else some (some (swNames sc ts))
theorem swB_ok {env : Env} {ts vs : List Expr} {k k2 : Nat} {p p2 : Pos} {r : Option (List Str)} (hk : env.scope.kind = .function) (h : swB env.scope ts vs = some r) : swappedStores [.Tuple ts k p] (.Tuple vs k2 p2) env = pure r := by
  have hb : env.blockKind = .function := by unfold Env.blockKind; rw [hk]; rfl
  unfold swB at h
  unfold swappedStores
  simp only [hb]
  by_cases c1 : (!(ts.length == 2 || ts.length == 3) || vs.length != ts.length) = true
  · rw [if_pos c1] at h; cases h
    rw [if_pos (by simpa using c1)]
  · rw [if_neg c1] at h
    rw [if_neg (by simpa using c1)]
    by_cases c2 : (vs.any fun | .Starred .. => true | _ => false) = true
    · rw [if_pos c2] at h; cases h
      exact if_pos c2
    · rw [if_neg c2] at h
      refine (if_neg c2).trans ?_
      by_cases c3 : ((swNames env.scope ts).length != ts.length || (swNames env.scope ts).eraseDups.length != (swNames env.scope ts).length) = true
      · rw [if_pos c3] at h; cases h
        exact if_pos c3
      · rw [if_neg c3] at h
        refine (if_neg c3).trans ?_
        by_cases c4 : vs.all (foldedForSure 8) = true
        · rw [if_pos c4] at h; cases h
          exact if_pos c4
        · rw [if_neg c4] at h
          refine (if_neg c4).trans ?_
          by_cases c5 : vs.all (constantsAlone 8) = true
          · rw [if_pos c5] at h; cases h
          · rw [if_neg c5] at h; cases h
            exact if_neg c5
def notTup : Expr → Bool
  | .Tuple _ _ _ => false
  | _ => true
theorem sw_notTup {env : Env} {ts : List Expr} {k : Nat} {p : Pos} {e : Expr} (h : notTup e = true) : swappedStores [.Tuple ts k p] e env = pure none := by
  cases e <;> first | rfl | cases h
/-! ### the translation of statements -/
theorem Cg.re {T : Tab} {N : List Str} {sc : Scope} {top : Bool} {k : Nat} {c : C} (g : Cg T N sc top k c) {H0 : Hp} {ok pm : Addr → Prop} : Cg T N sc top k ⟨c.X, c.W, H0, ok, pm⟩ :=
  ⟨g.tab, g.N, g.nd, g.calm, g.hotc, g.room, g.roomH, g.tk, g.vis, g.gl, g.top⟩
structure Sy where
  T : Tab
  N : List Str
  sc : Scope
  R : Rr
  B : Scope → Rr
/-- values that are new -/
def dxNew (y : Sy) : Expr → Option Ex
  | .List es _ => gIf (decide (es.length ≤ 4096)) ((dnL (y.R.v true) es).map cLst)
  | .ListComp elt gens scope _ => (dxLcP y.N y.sc (!y.T.hot) y.R y.B elt scope gens).map LcP.ex
  | .BinOp a .Add b _ => op2 (cOp dAdd) (y.R.v false a) (y.R.v false b)
  | .Call (.Name x _) (e :: es) [] _ => gIf (decide (x = "list") && (match nameOf y.N y.sc x with | some .glob => true | _ => false)) ((dnL (y.R.v false) (e :: es)).map (cFn dList))
  | _ => none
def dxQ (y : Sy) (e : Expr) : Option (Bool × Ex) := match dxNew y e with
  | some f => some (true, f)
  | none => (y.R.v true e).map fun f => (false, f)
def swLc (sc : Scope) (x : Str) (px : Pos) (scope : Scope) (p : Pos) : Bool := decide (sc.names.lookup x = some .local) && (px.line == p.line) && !(scope.names.any fun (n, k) => n == x && (k == .local || k == .cell))
def dsSet (y : Sy) (x : Str) (px : Pos) (e : Expr) : Option Sd := match e with
  | .ListComp elt gens scope _ => op2 (fun i q => cSet true i (LcP.ex q)) (tgName y.N y.sc true x) (dxLcP y.N y.sc (!y.T.hot) y.R y.B elt scope gens)
  | _ => gIf (noComp e) (op2 (fun i (q : Bool × Ex) => cSet q.1 i q.2) (tgName y.N y.sc true x) (dxQ y e))
def dsTup (y : Sy) (ts : List Expr) (e : Expr) : Option Sd := gIf (noComp e && !y.T.hot) (match e with
  | .Tuple vs _ _ => match swB y.sc ts vs with
    | some none => op2 cUnp (tgNames y.N y.sc true ts) (y.R.v true e)
    | some (some _) => match ts, vs with
      | [.Name x _, .Name z _], [a, b] => gIf (noStar a && noStar b && decide (y.sc.names.lookup x = some .local) && decide (y.sc.names.lookup z = some .local) && decide (swB y.sc ts vs = some (some [x, z]))) (match idx y.N x, idx y.N z, dxQ y a, dxQ y b with
        | some i, some j, some (n, fa), some (m, fb) => gIf (!(i == j)) (some (cPar2 n m i j fa fb))
        | _, _, _, _ => none)
      | _, _ => none
    | none => none
  | _ => op2 cUnp (tgNames y.N y.sc true ts) (y.R.v true e))
def muOf (x : Str) : Option (D → List D → Option D) := if x = "append" then some mAppend else if x = "extend" then some mExtend else none
def dsMut (y : Sy) (x name : Str) (apos pos : Pos) (args : List Expr) : Option Sd :=
  gIf (!args.isEmpty && decide (args.length < 30) && (apos.endLine == pos.line)) (match nameOf y.N y.sc x, muOf name, dnL (y.R.v true) args with
    | some (.slot i), some m, some fs => some (cMut i m fs)
    | _, _, _ => none)
def dsExpr (y : Sy) (e : Expr) : Option Sd := match e with
  | .Call (.Attribute (.Name x _) name apos) args [] pos => match muOf name with
    | some _ => dsMut y x name apos pos args
    | none => gIf (noComp e) ((y.R.v false e).map cExpr)
  | _ => gIf (noComp e) ((y.R.v false e).map cExpr)
def dsFz (y : Sy) : Expr → List Nat
  | .Name x _ => match nameOf y.N y.sc x with
    | some (.slot i) => [i]
    | _ => []
  | _ => []
def dsSrc (y : Sy) (iter : Expr) : Option Sx := match iter with
  | .Call (.Name x _) args [] _ =>
    if x = "range" then gIf (decide (y.sc.names.lookup ("range" : Str) = some .globalImplicit) && args.all noStar) (match args with
      | [_] => (dnL (y.R.v false) args).map cRange1
      | [_, _] => (dnL (y.R.v false) args).map cRange2
      | _ => none)
    else (y.R.v true iter).map cIt
  | _ => (y.R.v true iter).map cIt
def dsFor (y : Sy) (tg iter : Expr) (fb : Option Sd) : Option Sd := gIf (notSet iter && !y.T.hot) (match dnTgt y.N y.sc true tg, dsSrc y iter with
  | some t, some src => fb.map (cFor (dsFz y iter) src t)
  | _, _ => none)
def dsRaise (y : Sy) : Option Expr → Option Expr → Option Sd
  | some (.Call (.Name x _) [.Constant (.str _) _ _] [] _), none => gIf (y.T.exc x && !y.T.hot && (match nameOf y.N y.sc x with | some .glob => true | _ => false)) (some (cRaise x))
  | _, _ => none
def dsAsg (y : Sy) (e : Expr) : List Expr → Option Sd
  | [.Name x px] => dsSet y x px e
  | [.Tuple ts _ _] => dsTup y ts e
  | _ => none
def dsIf (y : Sy) (t : Expr) (a b : Option Sd) : Option Sd := match y.R.t t with
  | some p => op2 (cIfS p) a b
  | none => none
def dnS1 (y : Sy) (rec : List Stmt → Option Sd) : Stmt → Option Sd
  | .Return (some e) _ => (y.R.v false e).map cRet
  | .Return none _ => some cRetN
  | .Pass _ => some cNx
  | .Expr e _ => dsExpr y e
  | .If t a b _ => dsIf y t (rec a) (rec b)
  | .For tg iter body [] _ => dsFor y tg iter (rec body)
  | .While t body [] _ => op2 cWhile (y.R.t t) (rec body)
  | .Assign tgs e _ => dsAsg y e tgs
  | .Raise a b _ => dsRaise y a b
  | _ => none
def dnBlk (r : Stmt → Option Sd) : List Stmt → Option Sd
  | [] => some cNx
  | s :: rest => match rest with
    | [] => r s
    | _ => op2 cSeq (r s) (dnBlk r rest)
/-- hk: what is read by a rule of its own -/
def dnS (y : Sy) (hk : Stmt → Option Sd) : Nat → Stmt → Option Sd
  | 0, _ => none
  | n + 1, s => match hk s with
    | some f => some f
    | none => dnS1 y (dnBlk (dnS y hk n)) s
def noHk : Stmt → Option Sd := fun _ => none
def syOf (T : Tab) (N : List Str) (sc : Scope) (n : Nat) : Sy := ⟨T, N, sc, den T N n sc true, fun s => den T N n s false⟩
def denH (T : Tab) (N : List Str) (sc : Scope) (hk : Stmt → Option Sd) (n : Nat) (body : List Stmt) : Option Sd := dnBlk (dnS (syOf T N sc n) hk n) body
def denB (T : Tab) (N : List Str) (sc : Scope) (n : Nat) (body : List Stmt) : Option Sd := denH T N sc noHk n body
section
variable {T : Tab} {N : List Str} {sc : Scope} {k n : Nat} {c : C} {f : Ex} {e : Expr} {pos : Pos}
theorem map_glob {o : Option Nm} (h : (match o with | some .glob => true | _ => false) = true) : o = some .glob := by
  split at h
  · rfl
  · cases h
theorem dxNew_ok (g : Cg T N sc true k c) (h : dxNew (syOf T N sc n) e = some f) : SndN c e f := by
  have r : ROk c (syOf T N sc n).R := den_ok n g
  have hB : ∀ s c', Cg T N s false k c' → ROk c' ((syOf T N sc n).B s) := fun s c' g' => den_ok n g'
  unfold dxNew at h
  split at h
  · obtain ⟨h1, h2⟩ := gIf_inv h
    obtain ⟨fs, e1, rfl⟩ := map_inv h2
    obtain ⟨q1, q2, q3⟩ := dnL_ok (r.v true) e1
    exact sndN_lst (by rw [q3]; exact Nat.le_trans (by simpa using h1) (by decide)) q1
  · obtain ⟨q, e1, rfl⟩ := map_inv h
    exact (dxLcP_ok g (fun z => ⟨rfl, by simpa [syOf] using z⟩) r hB e1).n g
  · obtain ⟨u, v, e1, e2, rfl⟩ := op2_inv h
    exact sndN_add (r.v _ _ _ e1) (r.v _ _ _ e2)
  · obtain ⟨h1, h2⟩ := gIf_inv h
    rw [Bool.and_eq_true, decide_eq_true_eq] at h1
    obtain ⟨hx, h3⟩ := h1
    subst hx
    obtain ⟨k1, k2⟩ := nameOf_glob (map_glob h3)
    obtain ⟨fs, e1, rfl⟩ := map_inv h2
    obtain ⟨q1, q2, q3⟩ := dnL_ok (r.v false) e1
    exact sndN_list (g.gl _ k2) (g.tab.blt _ (by decide)) bt_list (by decide) (by decide) q2 q1
  · cases h
theorem dxQ_ok (g : Cg T N sc true k c) {b : Bool} (h : dxQ (syOf T N sc n) e = some (b, f)) : SndQ b c e f := by
  unfold dxQ at h
  split at h
  · cases h
    exact sndQ_t (dxNew_ok g (by assumption))
  · obtain ⟨u, e1, e2⟩ := map_inv h
    cases e2
    exact sndQ_f ((den_ok n g).v _ _ _ e1)
theorem loc_top (g : Cg T N sc true k c) : LocOk c.X sc true := fun x hx => by
  obtain ⟨t1, t2, t3, t4⟩ := g.top rfl
  refine ⟨?_, .inl (t2 x)⟩
  unfold L2.Loc
  rw [t1]
  rcases hx with hx | hx
  · exact .inl hx
  · exact .inr hx.2
theorem dsSet_ok (g : Cg T N sc true k c) {x : Str} {px : Pos} {f : Sd} (h : dsSet (syOf T N sc n) x px e = some f) : SndS c (.Assign [.Name x px] e pos) f := by
  obtain ⟨t1, t2, t3, t4⟩ := g.top rfl
  have r : ROk c (syOf T N sc n).R := den_ok n g
  have hB : ∀ s c', Cg T N s false k c' → ROk c' ((syOf T N sc n).B s) := fun s c' g' => den_ok n g'
  unfold dsSet at h
  split at h
  · rename_i elt gens scope p
    obtain ⟨i, q, e1, e5, rfl⟩ := op2_inv h
    obtain ⟨k1, k2⟩ := tgName_ok e1
    obtain ⟨l1, l2⟩ := loc_top g x k2
    have hi : c.X.N[i]? = some x := by rw [g.N]; exact k1
    have L := dxLcP_ok g (fun z => ⟨rfl, by simpa [syOf] using z⟩) r hB e5
    have hb : c.X.env.blockKind = .function := by unfold Env.blockKind; rw [t1, t4]; rfl
    have sw : swapsWith (.ListComp elt gens scope p) (some (.Name x px)) pos.line c.X.env = pure (swLc sc x px scope p) := by
      show pure (c.X.env.blockKind == .function && c.X.env.kindOf x == some .local && px.line == p.line && !(scope.names.any fun (n, k) => n == x && (k == .local || k == .cell))) = _
      rw [hb]
      unfold Env.kindOf swLc
      rw [t1]
      congr 1
      have z1 : (ScopeKind.function == ScopeKind.function) = true := by decide
      have z2 : (List.lookup x sc.names == some NameKind.local) = decide (List.lookup x sc.names = some NameKind.local) := by
        cases hz : (List.lookup x sc.names == some NameKind.local) with
        | true => have := eq_of_beq hz; simp [this]
        | false => have := ne_of_beq_false hz; simp [this]
      rw [z1, z2, Bool.true_and]
    cases hb : swLc sc x px scope p with
    | false => exact snd_set (sndQ_t (L.n g)) g.nd hi l1 l2 (hb ▸ sw)
    | true =>
      have hyl : sc.names.lookup x = some .local := by
        unfold swLc at hb
        rw [Bool.and_eq_true, Bool.and_eq_true, decide_eq_true_eq] at hb
        exact hb.1.1
      obtain ⟨hcm, tg, iter, ifs, own, rfl, h2, h3, h4, h5, h6, h7, h8, h9⟩ := L
      unfold LcP.ex
      rw [h2]
      exact snd_setLc hcm g.nd hi (by rw [t1]; exact hyl) (hb ▸ sw) h4 h5 h6 h7 h8 h9 h3
  · obtain ⟨hn, h2⟩ := gIf_inv h
    obtain ⟨i, ⟨b, q⟩, e1, e5, rfl⟩ := op2_inv h2
    obtain ⟨k1, k2⟩ := tgName_ok e1
    obtain ⟨l1, l2⟩ := loc_top g x k2
    have hi : c.X.N[i]? = some x := by rw [g.N]; exact k1
    exact snd_set (dxQ_ok g e5) g.nd hi l1 l2 (swaps_no hn)
theorem swSole {t : Expr} {line : Nat} {env : Env} (h : noComp e = true) : swapsWithSole [t] e line env = pure false := swaps_no h
theorem unp_ok (g : Cg T N sc true k c) {ts : List Expr} {kt : Nat} {pt : Pos} {f : Sd} (hcm : c.X.calm = true) (hn : noComp e = true) (hw : swappedStores [.Tuple ts kt pt] e c.X.env = pure none) (h : op2 cUnp (tgNames N sc true ts) ((den T N n sc true).v true e) = some f) : SndS c (.Assign [.Tuple ts kt pt] e pos) f := by
  obtain ⟨is, fe, e1, e2, rfl⟩ := op2_inv h
  refine snd_unp ((den_ok n g).v _ _ _ e2) ?_ (swSole hn) hw rfl
  exact dnTgt_ok (tg := .Tuple ts kt pt) (t := .tp is) g.N g.nd hcm (loc_top g) (by show (tgNames N sc true ts).map _ = _; rw [e1]; rfl)
theorem dsTup_ok (g : Cg T N sc true k c) {ts : List Expr} {kt : Nat} {pt : Pos} {f : Sd} (h : dsTup (syOf T N sc n) ts e = some f) : SndS c (.Assign [.Tuple ts kt pt] e pos) f := by
  obtain ⟨t1, t2, t3, t4⟩ := g.top rfl
  unfold dsTup at h
  obtain ⟨hn, h⟩ := gIf_inv h
  rw [Bool.and_eq_true] at hn
  have hcm : c.X.calm = true := g.calm (by simpa [syOf] using hn.2)
  have hn := hn.1
  split at h
  · rename_i vs kv pv
    split at h
    · rename_i e1
      exact unp_ok g hcm hn (swB_ok (by rw [t1]; exact t4) (by rw [t1]; exact e1)) h
    · split at h
      · rename_i x px z pz a b e1
        obtain ⟨h1, h2⟩ := gIf_inv h
        simp only [Bool.and_eq_true, decide_eq_true_eq] at h1
        obtain ⟨⟨⟨⟨h3, h4⟩, h5⟩, h6⟩, h7⟩ := h1
        split at h2
        · rename_i i j n1 fa m1 fb i1 i2 q1 q2
          obtain ⟨h8, h9⟩ := gIf_inv h2
          cases h9
          refine snd_par2 hcm g.nd (by rw [g.N]; exact idx_get i1) (by rw [g.N]; exact idx_get i2) (by simpa using h8) (by rw [t1]; exact h5) (by rw [t1]; exact h6) h3 h4 (dxQ_ok g q1) (fun H0 ok pm => dxQ_ok g.re q2) ?_
          exact swB_ok (by rw [t1]; exact t4) (by rw [t1]; exact h7)
        · cases h2
      · cases h
    · cases h
  · rename_i hne
    refine unp_ok g hcm hn (sw_notTup ?_) h
    cases e <;> first | rfl | exact absurd rfl (hne _ _ _)
theorem vis_ok (g : Cg T N sc true k c) {x : Str} {i : Nat} (h : nameOf N sc x = some (.slot i)) : c.X.N[i]? = some x ∧ Vis c.X.env.scope x ∧ (x == ("__debug__" : Str)) = false ∧ (x == ("__classdict__" : Str)) = false := by
  obtain ⟨h1, h2, h3⟩ := nameOf_slot h
  obtain ⟨d1, d2, d3⟩ := okName_d h1
  exact ⟨by rw [g.N]; exact h2, g.vis x h3, d1, d2⟩
theorem dsMut_ok (g : Cg T N sc true k c) {x name : Str} {px apos pos' : Pos} {args : List Expr} {f : Sd} (h : dsMut (syOf T N sc n) x name apos pos' args = some f) : SndS c (.Expr (.Call (.Attribute (.Name x px) name apos) args [] pos') pos) f := by
  unfold dsMut at h
  obtain ⟨h1, h2⟩ := gIf_inv h
  simp only [Bool.and_eq_true, decide_eq_true_eq] at h1
  obtain ⟨⟨h3, h4⟩, h5⟩ := h1
  cases args with
  | nil => cases h3
  | cons a as =>
    split at h2
    · rename_i i m fs e1 e2 e3
      cases h2
      obtain ⟨q1, q2, q3⟩ := dnL_ok ((den_ok n g).v true) e3
      obtain ⟨v1, v2, v3, v4⟩ := vis_ok g e1
      unfold muOf at e2
      split at e2
      · rename_i hn
        subst hn
        cases e2
        exact snd_mut mu_append PySem.F.plainAttrs_list PySem.F.slot_list_append PySem.F.type_list_append v1 v2 v3 v4 q1 q2 h4 h5
      · split at e2
        · rename_i hn
          subst hn
          cases e2
          exact snd_mut mu_extend PySem.F.plainAttrs_list PySem.F.slot_list_extend PySem.F.type_list_extend v1 v2 v3 v4 q1 q2 h4 h5
        · cases e2
    · cases h2
theorem dsExpr_ok (g : Cg T N sc true k c) {f : Sd} (h : dsExpr (syOf T N sc n) e = some f) : SndS c (.Expr e pos) f := by
  have hv : ∀ {f : Sd}, gIf (noComp e) (((syOf T N sc n).R.v false e).map cExpr) = some f → SndS c (.Expr e pos) f := fun q => by
    obtain ⟨h1, h2⟩ := gIf_inv q
    obtain ⟨u, e1, rfl⟩ := map_inv h2
    exact snd_expr ((den_ok n g).v _ _ _ e1) h1
  unfold dsExpr at h
  split at h
  · split at h
    · exact dsMut_ok g h
    · exact hv h
  · exact hv h
theorem dsSrc_ok (g : Cg T N sc true k c) {tg iter : Expr} {s : Sx} (h : dsSrc (syOf T N sc n) iter = some s) : SndF c tg iter s := by
  have r : ROk c (syOf T N sc n).R := den_ok n g
  have hv : ∀ {s : Sx}, ((syOf T N sc n).R.v true iter).map cIt = some s → SndF c tg iter s := fun q => by
    obtain ⟨u, e1, rfl⟩ := map_inv q
    exact sndF_it (r.v _ _ _ e1)
  unfold dsSrc at h
  split at h
  · rename_i x p args pos
    split at h
    · rename_i hx
      subst hx
      obtain ⟨h1, h2⟩ := gIf_inv h
      rw [Bool.and_eq_true, decide_eq_true_eq] at h1
      have hm := g.tab.blt "range" (by decide)
      split at h2
      · rename_i a
        obtain ⟨fs, e1, rfl⟩ := map_inv h2
        exact sndF_range1 (dnL1 (r.v false) e1) (by simpa using h1.2) (g.gl _ h1.1) hm
      · rename_i a b
        obtain ⟨fs, e1, rfl⟩ := map_inv h2
        have hh : noStar a = true ∧ noStar b = true := by simpa using h1.2
        exact sndF_range2 (dnL1 (r.v false) e1) hh.1 hh.2 (g.gl _ h1.1) hm
      · cases h2
    · exact hv h
  · exact hv h
theorem dnS1_ok (g : Cg T N sc true k c) {rec : List Stmt → Option Sd} (hr : ∀ b f, rec b = some f → SndSs c b f) {st : Stmt} {f : Sd} (h : dnS1 (syOf T N sc n) rec st = some f) : SndS c st f := by
  obtain ⟨t1, t2, t3, t4⟩ := g.top rfl
  have r : ROk c (syOf T N sc n).R := den_ok n g
  unfold dnS1 at h
  split at h
  · obtain ⟨u, e1, rfl⟩ := map_inv h
    exact snd_ret (r.v _ _ _ e1)
  · cases h; exact snd_retN
  · cases h; exact snd_pass
  · exact dsExpr_ok g h
  · unfold dsIf at h
    split at h
    · obtain ⟨u, v, e1, e2, rfl⟩ := op2_inv h
      exact snd_ifS (r.t _ _ (by assumption)) (hr _ _ e1) (hr _ _ e2)
    · cases h
  · unfold dsFor at h
    obtain ⟨h1, h2⟩ := gIf_inv h
    rw [Bool.and_eq_true] at h1
    have hcm : c.X.calm = true := g.calm (by simpa [syOf] using h1.2)
    split at h2
    · rename_i t src e1 e2
      obtain ⟨u, e3, rfl⟩ := map_inv h2
      exact snd_for t3 hcm (dsSrc_ok g e2) (dnTgt_ok g.N g.nd hcm (loc_top g) e1) (hr _ _ e3) h1.1
    · cases h2
  · obtain ⟨u, v, e1, e2, rfl⟩ := op2_inv h
    exact snd_while t3 (r.t _ _ e1) (hr _ _ e2)
  · unfold dsAsg at h
    split at h
    · exact dsSet_ok g h
    · exact dsTup_ok g h
    · cases h
  · unfold dsRaise at h
    split at h
    · obtain ⟨h1, h2⟩ := gIf_inv h
      cases h2
      rw [Bool.and_eq_true, Bool.and_eq_true] at h1
      obtain ⟨k1, k2⟩ := nameOf_glob (map_glob h1.2)
      obtain ⟨d1, d2, d3⟩ := okName_d k1
      exact snd_raise (g.calm (by simpa [syOf] using h1.1.2)) g.tk (g.tab.exc _ h1.1.1) (g.gl _ k2) d1
    · cases h
  · cases h
theorem dnBlk_ok {r : Stmt → Option Sd} (hr : ∀ s f, r s = some f → SndS c s f) : ∀ {b : List Stmt} {f : Sd}, dnBlk r b = some f → SndSs c b f
  | [], f, h => by cases h; exact snds_nil
  | [s], f, h => snds_one (hr s f h)
  | s :: t :: rest, f, h => by
    rw [dnBlk] at h
    case x_2 => simp
    obtain ⟨u, v, e1, e2, rfl⟩ := op2_inv h
    exact snds_cons (hr _ _ e1) (dnBlk_ok hr e2)
theorem dnS_ok (g : Cg T N sc true k c) {hk : Stmt → Option Sd} (hh : ∀ st f, hk st = some f → SndS c st f) : ∀ (m : Nat) {st : Stmt} {f : Sd}, dnS (syOf T N sc n) hk m st = some f → SndS c st f
  | 0, _, _, h => by cases h
  | m + 1, st, f, h => by
    unfold dnS at h
    split at h
    · cases h
      exact hh _ _ (by assumption)
    · exact dnS1_ok g (fun b f hb => dnBlk_ok (fun s f hs => dnS_ok g hh m hs) hb) h
theorem denH_ok (g : Cg T N sc true k c) {hk : Stmt → Option Sd} (hh : ∀ st f, hk st = some f → SndS c st f) {b : List Stmt} {f : Sd} (h : denH T N sc hk n b = some f) : SndSs c b f := dnBlk_ok (fun s f hs => dnS_ok g hh n hs) h
theorem denB_ok (g : Cg T N sc true k c) {b : List Stmt} {f : Sd} (h : denB T N sc n b = some f) : SndSs c b f := denH_ok g (fun _ _ z => by cases z) h
end
end Den

namespace Den
open PySem PySem.Spec PyProof.Rows L2
/-! ### a def -/
def initR (n : Nat) (ds : List D) : Rho := ds.map (fun d => some (Sl.val d)) ++ List.replicate (n - ds.length) none
def runB (n : Nat) (G : Sd) : Fn := fun ds => match G (initR n ds) with
  | some (.nx _) => some (.ok .none)
  | some (.rt d _) => some (.ok d)
  | some (.ex x _) => some (.error x)
  | _ => none
theorem RpAll.at {K : PySem.W.Frag} {H : Hp} {ok : Addr → Prop} : ∀ {vs : List V} {ds : List D} {i : Nat} {d : D}, RpAll K H ok vs ds → ds[i]? = some d → ∃ v, vs[i]? = some v ∧ Rp K H ok v d
  | _, _, i, d, .nil, h => by simp at h
  | _, _, 0, d, .cons r1 r2, h => by simp at h; subst h; exact ⟨_, rfl, r1⟩
  | _, _, i + 1, d, .cons r1 r2, h => by
    simp at h
    obtain ⟨v, h1, h2⟩ := r2.at h
    exact ⟨v, by simpa using h1, h2⟩
theorem initR_get {n : Nat} {ds : List D} {i : Nat} {x : Sl} (h : (initR n ds)[i]? = some (some x)) : ∃ d, ds[i]? = some d ∧ x = .val d := by
  unfold initR at h
  by_cases hi : i < ds.length
  · rw [List.getElem?_append_left (by simpa using hi)] at h
    simp only [List.getElem?_map] at h
    cases e : ds[i]? with
    | none => rw [e] at h; cases h
    | some d => rw [e] at h; simp at h; exact ⟨d, rfl, h.symm⟩
  · rw [List.getElem?_append_right (by simpa using hi)] at h
    simp only [List.length_map] at h
    rw [List.getElem?_replicate] at h
    split at h <;> simp at h
theorem start_get {N : List Str} {vs : List V} {i : Nat} {v : V} (h : vs[i]? = some v) : (L2.start N vs)[i]? = some (some v) := by
  unfold L2.start
  have hi : i < vs.length := (List.getElem?_eq_some_iff.mp h).1
  rw [List.getElem?_append_left (by simpa using hi), List.getElem?_map, h]
  rfl
section
variable {P : Program} {w : World} {K : PySem.W.Frag} {mg : Str → Option Value} {base : Heap}
theorem sr_init {c : C} {H : Hp} {N : List Str} {vs : List V} {ds : List D} (h0 : c.H0 = H) (rp : RpAll c.X.K H c.ok vs ds) : SR c (L2.start N vs) H (initR N.length ds) (fun _ => none) where
  base := fun b o h _ => by rw [← h0]; exact h
  there := fun b o h => ⟨o, by rw [← h0]; exact h⟩
  val := fun i d h => by
    obtain ⟨d', h1, h2⟩ := initR_get h
    cases h2
    obtain ⟨v, h3, h4⟩ := rp.at h1
    exact ⟨v, start_get h3, h4.wide fun a ha => ⟨.inl ha, fun i e => by cases e⟩⟩
  own := fun i d h => by
    obtain ⟨d', h1, h2⟩ := initR_get h
    cases h2
  inj := fun i j a h => by cases h
  fr := fun i a h => by cases h
  dom := fun i a h => by cases h
  len := by unfold initR L2.start; simp [rp.len]
  exc := fun _ i x h => by
    obtain ⟨d', h1, h2⟩ := initR_get h
    cases h2
theorem fn_den {T : Tab} (hh : T.hot = false) {x qual : Str} {st : Stmt} {f : Addr} {fd : FuncData} {N ps : List Str} {k n : Nat} {G : Sd} (F : Fun K x qual st f fd) (S : FnScope N ps (defScope st)) (TO : TabOk T P w K mg base k)
    (h : denB T N (defScope st) n (defBody st) = some G) : FnOk P w K mg base (L2.CX P w) (k + 1) f fd ps (spD K mg ps.length (runB N.length G)) := by
  refine F.okX S (fun vs H Q E hs => hs.1) (fun cdv A outer s H vs Q E hr hs => ?_)
  obtain ⟨hl, ok, ds, rp, r, hF, q⟩ := hs
  refine ⟨_, pss_de, ?_⟩
  let c : C := ⟨cxOf (L2.CX P w) P w K mg base N qual (defScope st) f cdv A outer s H E, fun cls d _ H => E cls d H, H, ok, fun _ => False⟩
  have g : Cg T N (defScope st) true k c := {
    tab := TO
    N := rfl
    nd := S.nd
    calm := fun _ => rfl
    hotc := fun z => absurd (hh.symm.trans z) (by decide)
    room := fun _ => hr
    roomH := L2H.roomH_of hr
    tk := takes_of rfl rfl rfl rfl
    vis := fun x h => h
    gl := fun x h => h
    top := fun _ => ⟨rfl, fun _ => rfl, passes_of rfl, S.kind⟩ }
  have S0 : SR c (L2.start N vs) H (initR N.length ds) (fun _ => none) := sr_init rfl rp
  have hb : SndSs c (defBody st) G := denB_ok g h
  have sm : ∀ {σ' : L2.St} {H' : Hp} {ρ' : Rho} {O' : Own}, SR c σ' H' ρ' O' → Same H H' := fun S' b o e => S'.base b o e (fun z => z)
  unfold runB at hF
  split at hF
  · rename_i ρ' e1
    cases hF
    exact hb _ _ _ _ S0 _ e1 _ fun σ' H' O' S' _ => q _ _ (sm S') .non
  · rename_i d ρ' e1
    cases hF
    exact hb _ _ _ _ S0 _ e1 _ fun v σ' H' O' S' _ rb => q _ _ (sm S') (rb.okF S'.trk)
  · rename_i x ρ' e1
    cases hF
    exact hb _ _ _ _ S0 _ e1 _ fun A σ' H' O' S' _ hm => q A H' (sm S') hm
  · cases hF
end
end Den

namespace Den
open PySem PySem.Spec PyProof.Rows L2
/-! ### tables as lists -/
def tabOf (fs : List (Str × Nat × Fn)) (cs : List (Str × D)) (es : List Str) : Tab := ⟨fun x => fs.lookup x, fun x => cs.lookup x, fun x => es.contains x, false, fun _ _ => none, fun _ => none⟩
/-- what is known of a def's text -/
structure DefOk (T : Tab) (x : Str) (st : Stmt) (ps N : List Str) (G : Sd) : Prop where
  sc : FnScope N ps (defScope st)
  bd : ∀ (kV doc pm : Value) (an : Option Addr) (cdv ct : Value) (us : List Value), us.length = ps.length → bindArgs (PySem.W.fnOf x x (defArgs st) (defBody st) (defScope st) .none kV doc pm an cdv ct) ⟨us, []⟩ = pure (ps.zip us)
  dn : denB T N (defScope st) 40 (defBody st) = some G
/-- what is known of a def in the heap -/
structure DefAt (K : PySem.W.Frag) (mg : Str → Option Value) (x : Str) (st : Stmt) : Prop where
  ex : ∃ f fd, Fun K x x st f fd ∧ mg x = some (.ref f)
theorem FnAt.mono {P : Program} {w : World} {K : PySem.W.Frag} {mg : Str → Option Value} {base : Heap} {j k : Nat} {x : Str} {n : Nat} {F : Fn} (h : FnAt P w K mg base j x n F) (hk : j ≤ k) : FnAt P w K mg base k x n F := by
  obtain ⟨f, fd, ps, h1, h2, h3, h4⟩ := h
  exact ⟨f, fd, ps, h1.mono hk, h2, h3, h4⟩
section
variable {P : Program} {w : World} {K : PySem.W.Frag} {mg : Str → Option Value} {base : Heap} {k : Nat} {fs : List (Str × Nat × Fn)} {cs : List (Str × D)} {es : List Str}
theorem fn_at {T : Tab} (hh : T.hot = false) {x : Str} {st : Stmt} {ps N : List Str} {G : Sd} (TO : TabOk T P w K mg base k) (a : DefAt K mg x st) (o : DefOk T x st ps N G) : FnAt P w K mg base (k + 1) x ps.length (runB N.length G) := by
  obtain ⟨f, fd, F, hm⟩ := a
  exact ⟨f, fd, ps, fn_den hh F o.sc TO o.dn, hm, F.kp, F.binds o.bd⟩
theorem tab_add {x : Str} {n : Nat} {F : Fn} (TO : TabOk (tabOf fs cs es) P w K mg base k) (h : FnAt P w K mg base (k + 1) x n F) : TabOk (tabOf ((x, n, F) :: fs) cs es) P w K mg base (k + 1) where
  fn := fun y m G e => by
    have e : List.lookup y ((x, n, F) :: fs) = some (m, G) := e
    rw [List.lookup_cons] at e
    cases hy : y == x with
    | true =>
      rw [hy] at e
      cases e
      rw [eq_of_beq hy]
      exact h
    | false =>
      rw [hy] at e
      exact (TO.fn y m G e).mono (Nat.le_succ k)
  con := TO.con
  exc := TO.exc
  blt := TO.blt
  isa := fun _ _ _ e => by cases e
  hfn := fun _ _ e => by cases e
theorem tab_step {x : Str} {st : Stmt} {ps N : List Str} {G : Sd} (TO : TabOk (tabOf fs cs es) P w K mg base k) (a : DefAt K mg x st) (o : DefOk (tabOf fs cs es) x st ps N G) : TabOk (tabOf ((x, ps.length, runB N.length G) :: fs) cs es) P w K mg base (k + 1) := tab_add TO (fn_at rfl TO a o)
/-- the beginning: no def, the module's constants, the exceptions -/
theorem tab_nil (hc : ∀ p ∈ cs, ∃ v u, mg p.1 = some u ∧ RelV v u ∧ ∀ H ok, Rp K H ok v p.2) (he : ∀ x ∈ es, ExcAt K mg x) (hb : ∀ x ∈ bltNames, mg x = none) : TabOk (tabOf [] cs es) P w K mg base k where
  fn := fun y m G e => by cases e
  con := fun x d e => by
    have e : List.lookup x cs = some d := e
    clear he hb
    induction cs with
    | nil => cases e
    | cons p r ih =>
      obtain ⟨y, d'⟩ := p
      rw [List.lookup_cons] at e
      cases hy : x == y with
      | true =>
        rw [hy] at e
        cases e
        rw [eq_of_beq hy]
        exact hc (y, d) List.mem_cons_self
      | false =>
        rw [hy] at e
        exact ih (fun p hp => hc p (List.mem_cons_of_mem _ hp)) e e
  exc := fun x e => he x (by simpa [tabOf] using e)
  blt := hb
  isa := fun _ _ _ e => by cases e
  hfn := fun _ _ e => by cases e
theorem con_str {x y : Str} {t : Tok} (hy : sOk y) (h : mg x = some (.str y t)) : ∃ v u, mg x = some u ∧ RelV v u ∧ ∀ H ok, Rp K H ok v (.str y) := ⟨.str y, _, h, ⟨t, rfl⟩, fun H ok => .str hy⟩
theorem con_int {x : Str} {i : Int} {t : Tok} (h : mg x = some (.int i t)) : ∃ v u, mg x = some u ∧ RelV v u ∧ ∀ H ok, Rp K H ok v (.int i) := ⟨.int i, _, h, ⟨t, rfl⟩, fun H ok => .int i⟩
end
end Den

namespace Den
open PySem PySem.Spec PyProof.Rows L2
open L2H (RoomH PinOk cxH)
/-! ### a def called with the exception, by its text -/
def initX (n i : Nat) (y : Str) : Rho := (List.replicate n none).set i (some (.exc y))
/-- what comes back, by the exception's class -/
def runX (n i : Nat) (G : Sd) (y : Str) : Option D := match G (initX n i y) with
  | some (.rt d _) => some d
  | _ => none
theorem initX_get {n i j : Nat} {y : Str} {x : Sl} (h : (initX n i y)[j]? = some (some x)) : j = i ∧ x = .exc y := by
  unfold initX at h
  by_cases hj : i = j
  · subst hj
    by_cases hl : i < n
    · rw [List.getElem?_set_self (by simpa using hl)] at h
      cases h
      exact ⟨rfl, rfl⟩
    · rw [List.getElem?_eq_none (by simpa using hl)] at h; cases h
  · rw [List.getElem?_set_ne hj, List.getElem?_replicate] at h
    split at h <;> cases h
theorem sr_exc {c : C} {σ : L2.St} {H : Hp} {n i : Nat} {y : Str} (h0 : c.H0 = H) (hl : σ.length = n) (he : ExAt c.X σ i y) : SR c σ H (initX n i y) (fun _ => none) where
  base := fun b o h _ => by rw [← h0]; exact h
  there := fun b o h => ⟨o, by rw [← h0]; exact h⟩
  val := fun j d h => by obtain ⟨_, h2⟩ := initX_get h; cases h2
  own := fun j d h => by obtain ⟨_, h2⟩ := initX_get h; cases h2
  inj := fun i j a h => by cases h
  fr := fun i a h => by cases h
  dom := fun i a h => by cases h
  len := by unfold initX; simp [hl]
  exc := fun _ j x h => by
    obtain ⟨h1, h2⟩ := initX_get h
    cases h2
    rw [h1]
    exact he
section
variable {P : Program} {w : World} {K : PySem.W.Frag} {mg : Str → Option Value} {base : Heap}
theorem hfn_den {T : Tab} (hh : T.hot = true) {x a : Str} {st : Stmt} {N : List Str} {G : Sd} {k : Nat} (A : DefAt K mg x st) (o : DefOk T x st [a] N G) (TO : TabOk T P w K mg base k) (hn : 0 < N.length) : HFn P w K mg base (k + 1) x (runX N.length 0 G) := by
  obtain ⟨f, fd, F, hm⟩ := A
  refine ⟨f, fd, a, hm, F.kp, F.binds o.bd, fun A outer s H args us Q p D y d hr hpin e0 hb rv m1 hz hf hF q => ?_⟩
  refine run_hot F o.sc hr hpin e0 hb rv rfl fun cdv hr' => ?_
  let c : C := ⟨cxH (L2.CX P w) P w K mg base N x (defScope st) f cdv A outer s H (fun _ _ _ => False) p, fun _ _ _ _ => False, H, fun _ => False, fun _ => False⟩
  have g : Cg T N (defScope st) true k c := {
    tab := TO
    N := rfl
    nd := o.sc.nd
    calm := fun z => absurd (hh.symm.trans z) (by decide)
    hotc := fun _ => rfl
    room := fun z => absurd (hh.symm.trans z) (by decide)
    roomH := hr'
    tk := takes_of rfl rfl rfl rfl
    vis := fun x h => h
    gl := fun x h => h
    top := fun _ => ⟨rfl, fun _ => rfl, passes_of rfl, o.sc.kind⟩ }
  have hb : SndSs c (defBody st) G := denB_ok g o.dn
  have hs : (L2.start N [V.ref p.1]).length = N.length := by unfold L2.start; simp; omega
  have ea : ExAt c.X (L2.start N [V.ref p.1]) 0 y := ⟨p.1, p.2, D, rfl, List.mem_singleton.mpr rfl, m1, hz, hf⟩
  have S0 : SR c (L2.start N [V.ref p.1]) H (initX N.length 0 y) (fun _ => none) := sr_exc rfl hs ea
  unfold runX at hF
  split at hF
  · rename_i d' ρ' e1
    cases hF
    refine hb _ _ _ _ S0 _ e1 _ fun v σ' H' O' S' _ rb => q v H' (fun b o e => S'.base b o e (fun z => z)) ((rb.okF S'.trk).wide fun b hb => ?_)
    exact hb.elim (fun z => z.elim) id
  · cases hF
end
/-! ### try: return a() / except e as n: suite -/
theorem takes_len {X : Cx} {W : WX} (t : Takes X W) : Takes X fun cls d σ H => σ.length = X.N.length → W cls d σ H := fun u s' ⟨a, B, sI, pins, σ, H, cls, d, e, I, nb, up, sky, na, os, ag, w⟩ =>
  t u s' ⟨a, B, sI, pins, σ, H, cls, d, e, I, nb, up, sky, na, os, ag, w I.len⟩
/-- the module's class y is handled by 'except e' -/
def HdAt (K : PySem.W.Frag) (mg : Str → Option Value) (e y : Str) : Prop := ∃ CS D, mg e = some (.ref CS) ∧ mg y = some (.ref D) ∧ PySem.W.exmOne K (.ref D) (.ref CS) = some true
/-- what the def makes of what it calls: its answer, or the suite's word of the exception -/
def TRes (K : PySem.W.Frag) (mg : Str → Option Value) (e : Str) (Gs : Str → Option D) : (XK → Hp → VK → Prop) → Hp → VK → Prop := fun tl H Q =>
  tl (fun cls d H' => d = none ∧ ∃ y dd, mg y = some cls ∧ HdAt K mg e y ∧ Gs y = some dd ∧ ∀ v H'', Same H' H'' → Rp K H'' (fun b => H' b = none) v dd → Q v H'') H Q
section
variable {X : Cx}
theorem res_gives {T : Tab} (hh : T.hot = true) {Ng : List Str} {x a e n q : Str} {sg : Scope} {g : Addr} {cdg : Value} {b₀ : Stmt} {suite : List Stmt} {Gs : Sd} {i k m : Nat} {p1 p2 p3 p4 p7 p8 : Pos} (hk : sg.kind = .function) (nd : Ng.Nodup) (hi : Ng[i]? = some n) (hln : sg.names.lookup n = some .local)
    (hge : sg.names.lookup e = some .globalImplicit) (hde : (e == ("__debug__" : Str)) = false) {CS : Addr} (hme : X.mg e = some (.ref CS)) (hr : Room (k + 1) X.A) (TO : TabOk T X.prog X.w X.K X.mg X.base k)
    (hd : denB T Ng sg m (b₀ :: suite) = some Gs) (h0 : ∀ f : Addr, (L2.start Ng [V.ref f])[0]? = some (some (V.ref f))) :
    LamX.GivesTo X Ng x sg g cdg [.Try [.Return (some (.Call (.Name a p1) [] [] p2)) p3] [.ExceptHandler (some (.Name e p4)) (some n) (b₀ :: suite) p7] [] [] p8] a q (TRes X.K X.mg e (runX Ng.length i Gs)) := by
  intro f c' s H Q tl act hc h
  let Z : Cx := (cxOf C8.CX0 X.prog X.w X.K X.mg X.base Ng x sg g cdg X.A X.stack s H C8.E0).nox
  have hgl : Gl Z e := hge
  refine ⟨_, pss_one (ps_try_as (X := Z) (c := .ref CS) (i := i)
      (tb := fun W D σ H => ∃ Ech : XK, (∀ cls d σ' H', Ech cls d H' → σ'.length = Ng.length → W cls d σ' H') ∧ σ[0]? = some (some (.ref f)) ∧ H c' = some (LamX.CodeO c' q) ∧ tl Ech H D.rt)
      (ts := fun a cls d D σ H => ∀ (oe : Obj) (pn : List (Addr × Obj)), Zc cls d oe → (∃ vs, oe.data = .fields vs) → DeSs (Z.suite a ((a, oe) :: pn)) (b₀ :: suite) D σ H)
      rfl rfl nd hi hln ⟨hgl, hde, .inl hme⟩ takes0 (fun W pn xe tk _ => ?_) (fun a oe cls d pn hz hf => ⟨fun pins s σ H D I h => h oe pn hz hf pins s I⟩)), ?_⟩
  · refine ⟨fun pins s' σ H' D I h' => ?_⟩
    obtain ⟨Ech, hW, h1, h2, h3⟩ := h'
    have hp := act _ pn xe Ech p1 p2 (takes_len tk) (fun cls d σ' H' he hl => hW cls d σ' H' he hl)
    exact (pss_one (ps_ret (pos := p3) hp)).run pins s' σ H' D I ⟨h1, h2, h3⟩
  · refine ⟨_, fun cls d σ' H' hE hl => ?_, h0 f, hc, h⟩
    obtain ⟨rfl, y, dd, m1, ⟨CS', D, m2, m3, m4⟩, m5, q'⟩ := hE
    rw [hme] at m2
    cases m2
    rw [m1] at m3
    cases m3
    refine ⟨true, m4, fun _ aa na oe pn hz hf => ?_, fun z => by cases z⟩
    let c : C := ⟨Z.suite aa ((aa, oe) :: pn), fun _ _ _ _ => False, H', fun _ => False, fun _ => False⟩
    have hil : i < Ng.length := (List.getElem?_eq_some_iff.mp hi).1
    have hrz : RoomH k (X.A.deeper (envOfC x sg s.heap.objs.size g cdg)) := L2H.roomH_of (hr.deeper _)
    have g : Cg T Ng sg true k c := {
      tab := TO
      N := rfl
      nd := nd
      calm := fun z => absurd (hh.symm.trans z) (by decide)
      hotc := fun _ => rfl
      room := fun z => absurd (hh.symm.trans z) (by decide)
      roomH := ⟨hrz.dp, hrz.un⟩
      tk := takes0
      vis := fun x h => h
      gl := fun x h => h
      top := fun _ => ⟨rfl, fun _ => rfl, PassesOwn.never, hk⟩ }
    have hb : SndSs c (b₀ :: suite) Gs := denB_ok g hd
    have ea : ExAt c.X (σ'.set i (some (.ref aa))) i y := ⟨aa, oe, D, by rw [List.getElem?_set_self (by omega)], List.mem_cons_self, m1, hz, hf⟩
    have S0 : SR c (σ'.set i (some (.ref aa))) H' (initX Ng.length i y) (fun _ => none) := sr_exc rfl (by simp [hl]) ea
    unfold runX at m5
    split at m5
    · rename_i d' ρ' e1
      cases m5
      refine hb _ _ _ _ S0 _ e1 _ fun v σ2 H2 O2 S2 _ rb => q' v H2 (fun b o e => S2.base b o e (fun z => z)) ((rb.okF S2.trk).wide fun b hb => ?_)
      exact hb.elim (fun z => z.elim) id
    · cases m5
end
end Den

namespace Den
open PySem PySem.Spec PyProof.Rows L2
/-! ### all but the tables of code objects stands -/
def ldO : HO → Prop
  | .tbl _ => False
  | _ => True
theorem ldO_ne {o : HO} (h : ldO o) : ∀ ps, o ≠ .tbl ps := fun ps e => by subst e; exact h
section
variable {K : PySem.W.Frag} {H H' : Hp} {ok ok' : Addr → Prop}
theorem rd_okT {a : Addr} {u : HO} (hu : ldO u) (w : ∀ b o, H b = some o → ldO o → ok b → ok' b) (h : Rd H a u) (q : ok a) : ok' a := by
  rcases h with h | ⟨o, h⟩
  · exact w _ _ h hu q
  · exact w _ _ h trivial q
theorem rd_keepT {a : Addr} {u : HO} (hu : ldO u) (k : ∀ o, H a = some o → ldO o → H' a = some o) (h : Rd H a u) : Rd H' a u := by
  rcases h with h | ⟨o, h⟩
  · exact .inl (k _ h hu)
  · exact .inr ⟨o, k _ h trivial⟩
theorem tup_ld {o : HO} (h : tupO o) : ldO o := by cases o <;> first | trivial | exact h
mutual
theorem Rp.keepT (k : ∀ b o, H b = some o → ldO o → H' b = some o) (w : ∀ b o, H b = some o → ldO o → ok b → ok' b) : ∀ {v : V} {d : D}, Rp K H ok v d → Rp K H' ok' v d
  | _, _, .non => .non
  | _, _, .bl b => .bl b
  | _, _, .int i => .int i
  | _, _, .str h => .str h
  | _, _, .lst (xs := xs) a s r => .lst (rd_okT (u := .lst xs) trivial w s a) (rd_keepT (u := .lst xs) trivial (fun o e => k _ o e) s) (RpAll.keepT k w r)
  | _, _, .lstK s r => .lstK s (RpAll.keepT k w r)
  | _, _, .tup s r => .tup (sqT_keep (fun b o e t => k b o e (tup_ld t)) s) (RpAll.keepT k w r)
  | _, _, .dK (kvs := xs) a s r => .dK (rd_okT (u := .dK xs) trivial w s a) (rd_keepT (u := .dK xs) trivial (fun o e => k _ o e) s) (RpKV.keepT k w r)
  | _, _, .dT (kvs := xs) a s r => .dT (rd_okT (u := .dT xs) trivial w s a) (rd_keepT (u := .dT xs) trivial (fun o e => k _ o e) s) (RpKT.keepT k w r)
theorem RpAll.keepT (k : ∀ b o, H b = some o → ldO o → H' b = some o) (w : ∀ b o, H b = some o → ldO o → ok b → ok' b) : ∀ {v : List V} {d : List D}, RpAll K H ok v d → RpAll K H' ok' v d
  | _, _, .nil => .nil
  | _, _, .cons h r => .cons (Rp.keepT k w h) (RpAll.keepT k w r)
theorem RpKV.keepT (k : ∀ b o, H b = some o → ldO o → H' b = some o) (w : ∀ b o, H b = some o → ldO o → ok b → ok' b) : ∀ {v : List (Key × V)} {d : List (D × D)}, RpKV K H ok v d → RpKV K H' ok' v d
  | _, _, .nil => .nil
  | _, _, .cons q h r => .cons q (Rp.keepT k w h) (RpKV.keepT k w r)
theorem RpKT.keepT (k : ∀ b o, H b = some o → ldO o → H' b = some o) (w : ∀ b o, H b = some o → ldO o → ok b → ok' b) : ∀ {v : List (List Key × V)} {d : List (D × D)}, RpKT K H ok v d → RpKT K H' ok' v d
  | _, _, .nil => .nil
  | _, _, .cons q h r => .cons q (Rp.keepT k w h) (RpKT.keepT k w r)
end
theorem cont_keepT {a : Addr} {d : D} (k : ∀ b o, H b = some o → ldO o → H' b = some o) (w : ∀ b o, H b = some o → ldO o → ok b → ok' b) (h : Cont K H ok a d) : Cont K H' ok' a d := by
  cases d with
  | list ds => obtain ⟨xs, h1, h2⟩ := h; exact ⟨xs, k _ _ h1 trivial, h2.keepT k w⟩
  | dict es =>
    rcases h with ⟨kvs, h1, h2⟩ | ⟨kvs, h1, h2⟩
    · exact .inl ⟨kvs, k _ _ h1 trivial, h2.keepT k w⟩
    · exact .inr ⟨kvs, k _ _ h1 trivial, h2.keepT k w⟩
  | none => exact h.elim
  | bool _ => exact h.elim
  | int _ => exact h.elim
  | str _ => exact h.elim
  | tuple _ => exact h.elim
/-- a list or a dict -/
def isLD (o : HO) : Prop := (∃ xs, o = .lst xs) ∨ (∃ k, o = .dK k) ∨ ∃ k, o = .dT k
theorem cont_isLD {a : Addr} {d : D} (h : Cont K H ok a d) : ∃ o, H a = some o ∧ isLD o := by
  cases d with
  | list ds => obtain ⟨xs, h1, h2⟩ := h; exact ⟨_, h1, .inl ⟨_, rfl⟩⟩
  | dict es =>
    rcases h with ⟨kvs, h1, h2⟩ | ⟨kvs, h1, h2⟩
    · exact ⟨_, h1, .inr (.inl ⟨_, rfl⟩)⟩
    · exact ⟨_, h1, .inr (.inr ⟨_, rfl⟩)⟩
  | none => exact h.elim
  | bool _ => exact h.elim
  | int _ => exact h.elim
  | str _ => exact h.elim
  | tuple _ => exact h.elim
end
/-- from now on: the heap as it stands -/
def cNow (c : C) (H : Hp) (O : Own) : C := ⟨c.X, c.W, H, c.okF, fun a => ∃ i, O i = some a⟩
theorem SR.now {c : C} {σ : L2.St} {H H1 : Hp} {ρ : Rho} {O : Own} (S : SR c σ H ρ O) (e : LamX.ExtN H H1) : SR (cNow c H1 O) σ H1 ρ O := by
  have k : ∀ b o, H b = some o → ldO o → H1 b = some o := fun b o h l => e b o h (ldO_ne l)
  have w : ∀ b o, H b = some o → ldO o → c.gd O b → (cNow c H1 O).gd O b := fun b o _ _ g => ⟨.inl g.1, g.2⟩
  refine ⟨fun b o h _ => h, fun b o h => ⟨o, h⟩, fun i d h => ?_, fun i d h => ?_, S.inj, fun i a h => ⟨.inl (S.fr i a h).1, .inr ⟨i, h⟩⟩, S.dom, S.len, S.exc⟩
  · obtain ⟨v, h1, h2⟩ := S.val i d h
    exact ⟨v, h1, h2.keepT k w⟩
  · obtain ⟨a, h1, h2, h3⟩ := S.own i d h
    exact ⟨a, h1, h2, cont_keepT k w h3⟩
/-! ### the law's own statements: all but a lambda that is handed on is as in any def -/
/-- the table at P is known of in the heap H0, and nobody changes it -/
structure TabIn (P : Addr) (q : Str) (c : C) : Prop where
  ok : ¬ c.ok P
  pm : ∀ a, c.pm a → ∃ o, c.H0 a = some o ∧ isLD o
  tab : LamX.TabS c.H0 P q
theorem TabIn.now {P : Addr} {q : Str} {c : C} {σ : L2.St} {H : Hp} {ρ : Rho} {O : Own} (t : TabIn P q c) (S : SR c σ H ρ O) : LamX.TabS H P q := by
  obtain ⟨ps, h1, h2, h3⟩ := t.tab
  have nP : ∀ b o, c.H0 b = some o → ¬ isLD o → H b = some o := fun b o e n => S.base b o e fun z => by
    obtain ⟨o', e', l⟩ := t.pm b z
    rw [e] at e'
    cases e'
    exact n l
  refine ⟨ps, nP _ _ h1 (by rintro (⟨_, z⟩ | ⟨_, z⟩ | ⟨_, z⟩) <;> cases z), h2, fun pos cv hc => ?_⟩
  obtain ⟨c', e, h⟩ := h3 pos cv hc
  exact ⟨c', e, nP _ _ h (by rintro (⟨_, z⟩ | ⟨_, z⟩ | ⟨_, z⟩) <;> cases z)⟩
def SndL (X : Cx) (W : WX) (P : Addr) (q : Str) (body : List Stmt) (f : Sd) : Prop := ∀ (H0 : Hp) (ok pm : Addr → Prop), TabIn P q ⟨X, W, H0, ok, pm⟩ → ∀ (ρ : Rho) (σ : L2.St) (H : Hp) (O : Own), SR ⟨X, W, H0, ok, pm⟩ σ H ρ O → ∀ ρ', f ρ = some (.rt (.bool true) ρ') →
  ∀ D : Ends, (∀ H', D.rt (.bl true) H') → DeSs X body D σ H
section
variable {X : Cx} {W : WX} {P : Addr} {q : Str} {st : Stmt} {rest : List Stmt} {f g : Sd}
theorem sndL_nil : SndL X W P q [] cNx := fun H0 ok pm t ρ σ H O S ρ' h => by cases h
theorem sndL_cons (h1 : ∀ H0 ok pm, SndS ⟨X, W, H0, ok, pm⟩ st f) (h2 : SndL X W P q rest g) : SndL X W P q (st :: rest) (cSeq f g) := fun H0 ok pm t ρ σ H O S ρ' h D hD => by
  refine dess_of (pss_cons ps_de pss_de) ?_
  show DeS X st { D with nx := DeSs X rest D } σ H
  unfold cSeq at h
  split at h
  · rename_i ρ1 e1
    exact h1 H0 ok pm _ _ _ _ S _ e1 _ fun σ' H' O' S' _ => h2 H0 ok pm t _ _ _ _ S' _ h D hD
  · exact h1 H0 ok pm _ _ _ _ S _ h _ fun v σ' H' O' S' _ rb => by rw [rb.bl]; exact hD H'
/-- g(lambda: body), as TT says of what the lambda gives -/
def noPar : Arguments := { posonlyargs := [], args := [], vararg := none, kwonlyargs := [], kw_defaults := [], kwarg := none, defaults := [] }
def LamCall (X : Cx) (P : Addr) (g : Str) (k : Nat) (TT : (XK → Hp → VK → Prop) → Hp → VK → Prop) : Prop :=
  ∀ (body : Expr) (scope : Scope) (t : XK → TE) (p lpos pos : Pos), LamX.LamS X.env.scope scope →
    (∀ (A : Around) (outer : List Env) (s : Shared) (H : Hp) (E : XK) (f c' : Addr), Room k (A.deeper (LamX.lamEnv X scope s.heap.objs.size f c')) → PE (LamX.lamCx X A outer s H E scope f c') body (t E)) →
    PE X (.Call (.Name g p) [.Lambda noPar body scope lpos] [] pos) (LamX.tLam [(P, X.env.qual ++ "<lambda>")] TT t)
def cRes (Gs : Str → Option D) (f : Ex) : Ex := fun ρ => match f ρ with
  | some (.ok d) => some (.ok d)
  | some (.error y) => (Gs y).map .ok
  | none => none
theorem sndL_lam {T : Tab} {N : List Str} {sc scope : Scope} {k n i : Nat} {gn x e : Str} {Gs : Str → Option D} {body : Expr} {fb : Ex} {px p lpos pos spos : Pos} (hh : T.hot = false) (TO : TabOk T X.prog X.w X.K X.mg X.base k) (hN : X.N = N) (nd : X.N.Nodup) (hq : q = X.env.qual ++ "<lambda>")
    (LC : LamCall X P gn k (TRes X.K X.mg e Gs)) (L : LamX.LamS X.env.scope scope) (hd : (den T N n scope false).v true body = some fb) (hi : X.N[i]? = some x) (hx : L2.Loc X.env.scope x) (hf : X.fn x = true) (hcm : X.calm = true) (hw : ∀ y d, Gs y = some d → HdAt X.K X.mg e y)
    (h2 : SndL X W P q rest g) : SndL X W P q (.Assign [.Name x px] (.Call (.Name gn p) [.Lambda noPar body scope lpos] [] pos) spos :: rest) (cSeq (cSet false i (cRes Gs fb)) g) := fun H0 ok pm t ρ σ H O S ρ' h D hD => by
  refine dess_of (pss_cons ps_de pss_de) ?_
  show DeS X _ { D with nx := DeSs X rest D } σ H
  let tl : XK → TE := fun E σ H Q => ∀ (A : Around) (outer : List Env) (s : Shared) (H2 : Hp) (f c' : Addr), Room k (A.deeper (LamX.lamEnv X scope s.heap.objs.size f c')) → De (LamX.lamCx X A outer s H2 E scope f c') body σ H Q
  have pl := LC body scope tl p lpos pos L fun A outer s H2 E f c' hr => ⟨fun pins s' σ H Q I h => h A outer s H2 f c' hr pins s' I⟩
  refine des_of (ps_set nd hi hx pl (swaps_no rfl) (.inl hf)) ?_
  refine ⟨fun p hp => ?_, fun H1 eN T1 => ?_⟩
  · rw [List.mem_singleton.mp hp, ← hq]
    exact t.now S
  have tab1 : LamX.TabS H1 P q := by rw [hq]; exact T1 _ List.mem_cons_self
  let c : C := ⟨X, W, H0, ok, pm⟩
  have S1 : SR (cNow c H1 O) σ H1 ρ O := S.now (c := c) eN
  have tin : TabIn P q (cNow c H1 O) := by
    refine ⟨fun z => ?_, fun a ⟨j, hj⟩ => ?_, tab1⟩
    · rcases z with z | z
      · exact t.ok z
      · obtain ⟨ps, z2, _⟩ := t.tab
        have z1 : H0 P = none := z
        have z2 : H0 P = some (.tbl ps) := z2
        rw [z1] at z2
        cases z2
    · obtain ⟨d, hd⟩ := S1.dom j a hj
      obtain ⟨a', _, h3, h4⟩ := S1.own j d hd
      rw [hj] at h3
      cases h3
      exact cont_isLD h4
  -- what is done behind
  have fin : ∀ (d : PyData) (v : V) (H' : Hp), cRes Gs fb ρ = some (.ok d) → Same H1 H' → Rp X.K H' ((cNow c H1 O).gd O) v d → gName i v σ H' { D with nx := DeSs X rest D }.nx := fun d v H' hr sm rp => by
    show DeSs X rest D (σ.set i (some v)) H'
    unfold cSeq cSet at h
    rw [hr] at h
    dsimp only at h
    by_cases hl : i < ρ.length
    · have ep : put false i d ρ = some (ρ.set i (some (.val d))) := by unfold put; rw [if_pos hl]; rfl
      rw [ep] at h
      have S2 := (S1.same sm).setV (i := i) rp
      exact h2 H1 c.okF (fun a => ∃ i, O i = some a) tin _ _ _ _ S2 _ h D hD
    · have ep : put false i d ρ = none := by unfold put; rw [if_neg hl]
      rw [ep] at h
      cases h
  have lamR : ∀ (E : XK) (Q : VK), (∀ d, fb ρ = some (.ok d) → ∀ v H', Same H1 H' → Rp X.K H' ((cNow c H1 O).gd O) v d → Q v H') → (∀ y, fb ρ = some (.error y) → ∀ A H', Same H1 H' → X.mg y = some (.ref A) → E (.ref A) none H') → (∃ r, fb ρ = some r) → tl E σ H1 Q := fun E Q q1 q2 hr A outer s H2 f c' hrm => by
    let cl : C := ⟨LamX.lamCx X A outer s H2 E scope f c', fun cls d _ H => E cls d H, H1, c.okF, fun a => ∃ i, O i = some a⟩
    have g : Cg T N scope false k cl := {
      tab := TO
      N := hN
      nd := nd
      calm := fun _ => rfl
      hotc := fun z => absurd (hh.symm.trans z) (by decide)
      room := fun _ => hrm
      roomH := L2H.roomH_of hrm
      tk := takes_of rfl rfl rfl rfl
      vis := fun x h => h
      gl := fun x h => h
      top := fun z => by cases z }
    have sb : Snd cl true body fb := (den_ok n g).v _ _ _ hd
    have S2 : SR cl σ H1 ρ O := S1.chX (c' := cl) rfl rfl rfl rfl rfl
    obtain ⟨r, hr⟩ := hr
    cases r with
    | ok d => exact sb.ok S2 hr fun v H' sm rp => q1 d hr v H' sm rp
    | error y => exact sb.er S2 hr fun A H' sm hm => q2 y hr A H' sm hm
  have hres : ∃ d, cRes Gs fb ρ = some (.ok d) := by
    unfold cSeq cSet at h
    unfold cRes at h ⊢
    cases e1 : fb ρ with
    | none => rw [e1] at h; cases h
    | some r =>
      cases r with
      | ok d => exact ⟨d, rfl⟩
      | error y =>
        cases e2 : Gs y with
        | none => rw [e1] at h; dsimp only at h; rw [e2] at h; cases h
        | some d => exact ⟨d, by dsimp only; rw [e2]; rfl⟩
  obtain ⟨d, hres⟩ := hres
  refine lamR _ _ (fun d' hf v H' sm rp => ?_) (fun y hf A H' sm hm => ?_) ?_
  · have : cRes Gs fb ρ = some (.ok d') := by unfold cRes; rw [hf]
    exact fin d' v H' this sm rp
  · have e1 : cRes Gs fb ρ = (Gs y).map .ok := by unfold cRes; rw [hf]
    rw [hres] at e1
    cases e2 : Gs y with
    | none => rw [e2] at e1; cases e1
    | some d' =>
      rw [e2] at e1
      cases e1
      refine ⟨rfl, y, d, hm, hw y d e2, e2, fun v H'' sm2 rp => fin d v H'' hres (sm.trans sm2) (rp.wide fun b hb => ?_)⟩
      exact ((S1.same sm).trk).gd hb
  · unfold cRes at hres
    cases e1 : fb ρ with
    | none => rw [e1] at hres; cases hres
    | some r => exact ⟨r, rfl⟩
end
end Den

namespace Den
open PySem PySem.Spec PyProof.Rows L2
/-! ### the text of a def that calls what it is handed, in a try -/
structure ResText (T : Tab) (st : Stmt) (gn a e n : Str) (Ng : List Str) (i m : Nat) (Gs : Sd) : Prop where
  sc : FnScope Ng [a] (defScope st)
  bd : ∀ (kV doc pm : Value) (an : Option Addr) (cdv ct : Value) (us : List Value), us.length = [a].length → bindArgs (PySem.W.fnOf gn gn (defArgs st) (defBody st) (defScope st) .none kV doc pm an cdv ct) ⟨us, []⟩ = pure ([a].zip us)
  body : ∃ (b₀ : Stmt) (suite : List Stmt) (p1 p2 p3 p4 p7 p8 : Pos), defBody st = [.Try [.Return (some (.Call (.Name a p1) [] [] p2)) p3] [.ExceptHandler (some (.Name e p4)) (some n) (b₀ :: suite) p7] [] [] p8] ∧ denB T Ng (defScope st) m (b₀ :: suite) = some Gs
  hi : Ng[i]? = some n
  hn : (defScope st).names.lookup n = some .local
  he : (defScope st).names.lookup e = some .globalImplicit
  de : (e == ("__debug__" : Str)) = false
  h0 : Ng[0]? = some a
  va : (defScope st).names.lookup a = some .local
  da : (a == ("__debug__" : Str)) = false
  ca : (a == ("__classdict__" : Str)) = false
theorem start0 {Ng : List Str} {a : Str} (h : Ng[0]? = some a) (f : Addr) : (L2.start Ng [V.ref f])[0]? = some (some (V.ref f)) := rfl
theorem lam_call {T : Tab} (hh : T.hot = true) {X : Cx} {st : Stmt} {gn a e n : Str} {Ng : List Str} {i m k k' : Nat} {Gs : Sd} {Pt cc CS : Addr} (R : ResText T st gn a e n Ng i m Gs) (D : DefAt X.K X.mg gn st) (hme : X.mg e = some (.ref CS)) (TO : TabOk T X.prog X.w X.K X.mg X.base k')
    (hg : Gl X gn) (hdg : (gn == ("__debug__" : Str)) = false) (TB : LamX.TabB X.base X.mg cc Pt) (hcode : X.env.code = .ref cc) (hr : Room (k + 2) X.A) (hr' : Room (k' + 1) X.A) : LamCall X Pt gn k (TRes X.K X.mg e (runX Ng.length i Gs)) := fun body scope t p lpos pos L hb => by
  obtain ⟨g, fd, F, hm⟩ := D
  have hbd := F.binds R.bd
  have kp := F.kp
  obtain ⟨oc, od, kV, doc, pm, an, cdv, ct, osl, rfl, lk, hcd⟩ := F.ex
  obtain ⟨b₀, suite, p1, p2, p3, p4, p7, p8, eb, dn⟩ := R.body
  have gv := res_gives (X := X) hh (x := gn) (a := a) (q := X.env.qual ++ "<lambda>") (g := g) (cdg := cdv) (p1 := p1) (p2 := p2) (p3 := p3) (p4 := p4) (p7 := p7) (p8 := p8) R.sc.kind R.sc.nd R.hi R.hn R.he R.de hme hr' TO dn (start0 R.h0)
  rw [← eb] at gv
  exact LamX.pe_lamcall (T := [(Pt, X.env.qual ++ "<lambda>")]) (P := Pt) (c := cc) (k := k) (a := a) hg hm kp lk hcd hbd R.sc R.h0 (.inl R.va) gv TB hcode List.mem_cons_self (fun p hp _ => by rw [List.mem_singleton.mp hp]) hr L rfl (fun _ _ _ _ _ => rfl) hb hdg R.da R.ca
/-! ### the law -/
def noParB : Arguments → Bool
  | ⟨[], [], none, [], [], none, []⟩ => true
  | _ => false
theorem noParB_ok {ps : Arguments} (h : noParB ps = true) : ps = noPar := by
  unfold noParB at h
  split at h
  · rfl
  · cases h
def denLaw (T : Tab) (N : List Str) (sc : Scope) (n : Nat) (gn : Str) (Gs : Str → Option D) : List Stmt → Option Sd
  | [] => some cNx
  | s :: rest => match s with
    | .Assign [.Name x _] (.Call (.Name g _) [.Lambda ps body scope _] [] _) _ => gIf (decide (g = gn) && noParB ps && LamX.lamSB sc scope) (match tgName N sc true x, (den T N n scope false).v true body with
      | some i, some fb => (denLaw T N sc n gn Gs rest).map fun r => cSeq (cSet false i (cRes Gs fb)) r
      | _, _ => none)
    | s => op2 cSeq (dnS (syOf T N sc n) noHk n s) (denLaw T N sc n gn Gs rest)
theorem denLaw_ok {T : Tab} (hh : T.hot = false) {N : List Str} {sc : Scope} {n k : Nat} {gn e q : Str} {Gs : Str → Option D} {X : Cx} {W : WX} {Pt : Addr} (hw : ∀ y d, Gs y = some d → HdAt X.K X.mg e y) (LC : LamCall X Pt gn k (TRes X.K X.mg e Gs)) (hq : q = X.env.qual ++ "<lambda>")
    (g : ∀ H0 ok pm, Cg T N sc true k ⟨X, W, H0, ok, pm⟩) : ∀ {body : List Stmt} {f : Sd}, denLaw T N sc n gn Gs body = some f → SndL X W Pt q body f
  | [], f, h => by cases h; exact sndL_nil
  | s :: rest, f, h => by
    have g0 := g (fun _ => none) (fun _ => False) (fun _ => False)
    obtain ⟨t1, t2, t3, t4⟩ := g0.top rfl
    unfold denLaw at h
    split at h
    · rename_i x px gg pg ps body scope lp cp sp
      obtain ⟨h1, h2⟩ := gIf_inv h
      simp only [Bool.and_eq_true, decide_eq_true_eq] at h1
      obtain ⟨⟨h3, h4⟩, h5⟩ := h1
      subst h3
      have e4 := noParB_ok h4
      subst e4
      split at h2
      · rename_i i fb e1 e2
        obtain ⟨r, e3, rfl⟩ := map_inv h2
        obtain ⟨k1, k2⟩ := tgName_ok e1
        obtain ⟨l1, l2⟩ := loc_top g0 x k2
        refine sndL_lam (sc := sc) hh g0.tab g0.N g0.nd hq LC (by rw [show X.env.scope = sc from t1]; exact LamX.lamS_by h5) e2 (by rw [show X.N = N from g0.N]; exact k1) l1 (t2 x) (g0.calm hh) hw ?_
        exact denLaw_ok hh hw LC hq g e3
      · cases h2
    · obtain ⟨u, v, e1, e2, rfl⟩ := op2_inv h
      exact sndL_cons (fun H0 ok pm => dnS_ok (g H0 ok pm) (fun _ _ z => by cases z) n e1) (denLaw_ok hh hw LC hq g e2)
/-- the law's promise; Pt: the table of its code object -/
def spLawT (K : PySem.W.Frag) (Pt : Addr) : Sp := fun vs H Q _ => ∃ (a : Addr) (ns : List Int), vs = [.ref a] ∧ SqL K H a (ns.map V.int) ∧ ns.length ≤ 63 ∧ H Pt = some (.tbl #[]) ∧ ∀ H', Q (.bl true) H'
theorem ints_rp {K : PySem.W.Frag} {H : Hp} {ok : Addr → Prop} : ∀ ns : List Int, RpAll K H ok (ns.map V.int) (ns.map PyData.int)
  | [] => .nil
  | i :: r => .cons (.int i) (ints_rp r)
section
variable {P : Program} {w : World} {K : PySem.W.Frag} {mg : Str → Option Value} {base : Heap}
theorem law_fn {T TH : Tab} (hh : T.hot = false) (hH : TH.hot = true) {st stR : Stmt} {N Ng : List Str} {k k' n m i : Nat} {gn a e nm : Str} {G GsS : Sd} {fa cc Pt CS : Addr} {oc kV doc pm ct : Value} {od an : Option Addr} {osl : Array (Option Value)}
    (lk : K.lookup fa = some ⟨oc, od, .func (PySem.W.fnOf "law" "law" (defArgs st) (defBody st) (defScope st) .none kV doc pm an (.ref cc) ct), osl⟩) (hcd : PySem.W.codeIn K (.ref cc) "law" = true) (S : FnScope N ["script"] (defScope st)) (TO : TabOk T P w K mg base k) (TOH : TabOk TH P w K mg base k')
    (TB : LamX.TabB base mg cc Pt) (R : ResText TH stR gn a e nm Ng i m GsS) (DR : DefAt K mg gn stR) (hme : mg e = some (.ref CS)) (hw : ∀ y d, runX Ng.length i GsS y = some d → HdAt K mg e y) (hgn : (defScope st).names.lookup gn = some .globalImplicit) (hdg : (gn == ("__debug__" : Str)) = false)
    (dn : denLaw T N (defScope st) n gn (runX Ng.length i GsS) (defBody st) = some G) (hG : ∀ ns : List Int, ns.length ≤ 63 → ∃ ρ', G (initR N.length [.list (ns.map .int)]) = some (.rt (.bool true) ρ')) (hk : k' ≤ k) :
    FnOk P w K mg base (L2.CX P w) (k + 2 + 1) fa (PySem.W.fnOf "law" "law" (defArgs st) (defBody st) (defScope st) .none kV doc pm an (.ref cc) ct) ["script"] (spLawT K Pt) := by
  refine fn_of lk hcd S (fun vs H Q E h => ?_) (fun A outer s H vs Q E hr h => ?_)
  · obtain ⟨a, ns, rfl, _⟩ := h
    rfl
  obtain ⟨aa, ns, rfl, hS, hl, hP, hQ⟩ := h
  refine ⟨_, pss_de, ?_⟩
  let X : Cx := cxOf (L2.CX P w) P w K mg base N "law" (defScope st) fa (.ref cc) A outer s H E
  let W : WX := fun cls d _ H => E cls d H
  have g : ∀ H0 ok pm, Cg T N (defScope st) true k ⟨X, W, H0, ok, pm⟩ := fun H0 ok pm => {
    tab := TO
    N := rfl
    nd := S.nd
    calm := fun _ => rfl
    hotc := fun z => absurd (hh.symm.trans z) (by decide)
    room := fun _ => hr.mono (by omega)
    roomH := L2H.roomH_of (hr.mono (by omega))
    tk := takes_of rfl rfl rfl rfl
    vis := fun x h => h
    gl := fun x h => h
    top := fun _ => ⟨rfl, fun _ => rfl, passes_of rfl, S.kind⟩ }
  have LC : LamCall X Pt gn k (TRes X.K X.mg e (runX Ng.length i GsS)) := lam_call hH R DR hme TOH hgn hdg TB rfl hr (hr.mono (by omega))
  have SL : SndL X W Pt (X.env.qual ++ "<lambda>") (defBody st) G := denLaw_ok hh hw LC rfl g dn
  have rp : RpAll K H (fun b => b = aa ∧ b ≠ Pt) [V.ref aa] [PyData.list (ns.map .int)] := by
    refine .cons ?_ .nil
    rcases hS with h | h
    · refine .lst ⟨rfl, fun z => ?_⟩ h (ints_rp ns)
      subst z
      rcases h with h | ⟨o, h⟩
      · rw [hP] at h; cases h
      · rw [hP] at h; cases h
    · exact .lstK h (ints_rp ns)
  obtain ⟨ρ', e1⟩ := hG ns hl
  have S0 : SR ⟨X, W, H, fun b => b = aa ∧ b ≠ Pt, fun _ => False⟩ (L2.start N [V.ref aa]) H (initR N.length [.list (ns.map .int)]) (fun _ => none) := sr_init rfl rp
  exact SL H (fun b => b = aa ∧ b ≠ Pt) (fun _ => False) ⟨fun z => z.2 rfl, fun a z => z.elim, .nil hP⟩ _ _ _ _ S0 _ e1 _ hQ
end
end Den

namespace Den
open PySem PySem.Spec PyProof.Rows L2
/-! ### the tables of an except suite -/
def hotOf (isa : List (Str × List (Str × Bool))) (hf : List (Str × (Str → Option D))) : Tab := ⟨fun _ => none, fun _ => none, fun _ => false, true, fun x y => (isa.lookup x).bind fun l => l.lookup y, fun x => hf.lookup x⟩
theorem HFn.mono {P : Program} {w : World} {K : PySem.W.Frag} {mg : Str → Option Value} {base : Heap} {j k : Nat} {x : Str} {F : Str → Option D} (h : HFn P w K mg base j x F) (hk : j ≤ k) : HFn P w K mg base k x F := by
  obtain ⟨f, fd, a, h1, h2, h3, h4⟩ := h
  exact ⟨f, fd, a, h1, h2, h3, fun A outer s H args us Q p D y d hr => h4 A outer s H args us Q p D y d (hr.mono hk)⟩
section
variable {P : Program} {w : World} {K : PySem.W.Frag} {mg : Str → Option Value} {base : Heap} {k : Nat} {isa : List (Str × List (Str × Bool))} {hf : List (Str × (Str → Option D))}
theorem hot_nil (hi : ∀ p ∈ isa, ∀ r ∈ p.2, IsaAt K mg p.1 r.1 r.2) (hb : ∀ x ∈ bltNames, mg x = none) : TabOk (hotOf isa []) P w K mg base k where
  fn := fun _ _ _ e => by cases e
  con := fun _ _ e => by cases e
  exc := fun _ e => by cases e
  blt := hb
  isa := fun x y b e => by
    have e : (isa.lookup x).bind (fun l => l.lookup y) = some b := e
    cases h1 : isa.lookup x with
    | none => rw [h1] at e; cases e
    | some l =>
      rw [h1] at e
      exact hi _ (PySem.mem_of_lookup h1) _ (PySem.mem_of_lookup e)
  hfn := fun _ _ e => by cases e
theorem hot_add {x : Str} {F : Str → Option D} (TO : TabOk (hotOf isa hf) P w K mg base k) (h : HFn P w K mg base (k + 1) x F) : TabOk (hotOf isa ((x, F) :: hf)) P w K mg base (k + 1) where
  fn := fun _ _ _ e => by cases e
  con := fun _ _ e => by cases e
  exc := fun _ e => by cases e
  blt := TO.blt
  isa := TO.isa
  hfn := fun y G e => by
    have e : List.lookup y ((x, F) :: hf) = some G := e
    rw [List.lookup_cons] at e
    cases hy : y == x with
    | true =>
      rw [hy] at e
      cases e
      rw [eq_of_beq hy]
      exact h
    | false =>
      rw [hy] at e
      exact (TO.hfn y G e).mono (Nat.le_succ k)
theorem isa_at {x y : Str} {D : Addr} {cv : Value} {b : Bool} (m : mg x = some (.ref D)) (E : ExcC K D) (c : ClsNm mg y cv) (h : PySem.W.kitOne K (.ref D) cv = some b) : IsaAt K mg x y b := ⟨D, cv, m, E, c, h⟩
end
/-! ### the end -/
theorem law_at {l : PySem.W.OpenLaw} {w : World} {K : PySem.W.Frag} {mg : Str → Option Value} {fa cc Pt : Addr} {h : Heap} {fd : FuncData} {k : Nat} (KX : K.In h) (hT : h.get? Pt = some { cls := .none, data := .fields #[] }) (nT : K.lookup Pt = none) (hC : PySem.W.codeHdIn K cc Pt = true)
    (hb : ∀ (s : Shared) (u : Value), BindsTo s fd ⟨[u], []⟩ [("script", u)]) (hF : ∀ base : Heap, K.In base → base.Ns mainGlobals mg → LamX.TabB base mg cc Pt → FnOk l.prog w K mg base (L2.CX l.prog w) k fa fd ["script"] (spLawT K Pt)) :
    LamX.LawAtS l w K (L2.CX l.prog w) k 63 "script" mg fa h := by
  refine ⟨fd, [(cc, Pt)], spLawT K Pt, fun p hp => ?_, fun p hp => ?_, fun p hp => ?_, hb, fun H a ns hl _ hH hS => ?_, fun base kb nb hB => hF base kb nb (hB _ List.mem_cons_self)⟩
  · rw [List.mem_singleton.mp hp]; exact hT
  · rw [List.mem_singleton.mp hp]; exact nT
  · rw [List.mem_singleton.mp hp]; exact PySem.W.codeHd_of_K KX hC
  · exact ⟨a, ns, rfl, hS, hl, hH _ List.mem_cons_self, fun _ => rfl⟩
theorem walkT {l : PySem.W.OpenLaw} {q : Program} {loose : List Str} {XP : (Str → Option Value) → Heap → Prop} {YP : World → Heap → Prop} {d : DefRec} {K : Params → PySem.W.Frag} (k : Nat) (hn : l.most = some 63) (hdf : d.params.defaults = []) (hr : Room k callerA) (hY : ∀ (w : World) (h : Heap), YP w h → (K w.params).In h)
    (F : ∀ (w : World) (mg : Str → Option Value) (fa : Addr) (h : Heap), YP w h → (K w.params).In h → h.Ns mainGlobals mg → mg d.name = some (.ref fa) → LamX.LawAtS l w (K w.params) (L2.CX l.prog w) k 63 "script" mg fa h) :
    PySem.W.WalkO q loose XP YP l.row.toRowW d [] (fun f vs => PySem.call f vs) :=
  LamX.walk_ofTs (n := 63) (k := k) (x := "script") (CX := fun w => L2.CX l.prog w) hn (by decide) hdf hr hY F fun w H s e s' z => by
    obtain ⟨_, _, _, _, _, _, _, _, _, _, _, _, z⟩ := z
    exact z
end Den

namespace Law
open PySem PySem.Spec PyProof.Rows L2 Den
def top (i : Nat) : Stmt := PySem.Challenge.pw_everytree_k01_paths.main.body.getD i (.Pass ⟨0, 0, 0, 0⟩)
def CS : List (Str × D) := [("MAX_PARTS", .int 12), ("MAX_NAME", .int 3), ("LETTERS", .str "abcdefghijklmnopqrstuvwxyz"), ("SELF", .str "."), ("UP", .str ".."), ("ROOT", .str "/")]
def ES : List Str := ["ParseError", "InvalidPath", "TooLarge"]
def FS0 : List (Str × Nat × Fn) := []
abbrev s__law_pick : Stmt := top 27
def G__law_pick : Sd :=
  cSeq (cSet false 3 (cIf (cT (cOp dNe (cVar false 0) (cLst []))) (cOp dIx (cVar false 0) (cOp dMod (cVar false 1) (cFn dLen [cVar false 0]))) (cD (.int 0)))) <|
  cSeq (cPar2 false false 4 5 (cOp dFdiv (cVar false 3) (cOp dPow (cD (.int 10)) (cD (.int 18)))) (cOp dFdiv (cVar false 1) (cFn dMax [cFn dLen [cVar false 0], cD (.int 1)]))) <|
  cSeq (cWhile (cAndT (cT (cOp dGt (cVar false 4) (cD (.int 0)))) (cT (cOp dGt (cVar false 5) (cD (.int 0))))) (cPar2 false false 4 5 (cOp dFdiv (cVar false 4) (cD (.int 840))) (cOp dSub (cVar false 5) (cD (.int 1))))) <|
  cSeq (cIfS (cT (cOp dGt (cVar false 4) (cD (.int 0)))) (cRet (cOp dMod (cOp dMod (cVar false 4) (cD (.int 840))) (cVar false 2))) (cNx)) <|
  cSeq (cSet false 6 (cOp dMod (cOp dMul (cOp dAdd (cOp dMul (cVar false 3) (cD (.int 31))) (cOp dMul (cD (.int 6151)) (cOp dAdd (cVar false 1) (cD (.int 1))))) (cD (.int 40692))) (cD (.int 2147483399)))) <|
  cRet (cOp dMod (cOp dMod (cOp dAdd (cOp dMul (cVar false 6) (cVar false 6)) (cOp dFdiv (cVar false 6) (cD (.int 31)))) (cD (.int 2147483629))) (cVar false 2))
def F__law_pick : Fn := runB 7 G__law_pick
theorem ok__law_pick : DefOk (tabOf FS0 CS ES) "_law_pick" s__law_pick ["script", "k", "many"] ["script", "k", "many", "cell", "rest", "again", "drawn"] G__law_pick := ⟨⟨rfl, rfl, rfl, by decide +kernel, rfl, by decide +kernel, by decide +kernel⟩, fun _ _ _ _ _ _ us hl => match us, hl with | [_, _, _], _ => rfl, by kernel_rfl⟩
def FS1 : List (Str × Nat × Fn) := ("_law_pick", 3, F__law_pick) :: FS0
abbrev s__law_path : Stmt := top 29
def G__law_path : Sd :=
  cSeq (cSet true 3 (cOp dAdd (cCall F__law_pick [.nm 0, .nm 1, .nm 2]) (cD (.int 1)))) <|
  cSeq (cSet false 4 (cTup [cD (.str "a"), cD (.str "b"), cD (.str ".."), cD (.str "z"), cD (.str "k"), cD (.str ".."), cD (.str "."), cD (.str "a"), cD (.str "b")])) <|
  cSeq (cSet false 5 (cFn dTuple [cLc (cRange1 [cVar false 3]) [6] (.nm 6) (cYes) (cOp dIx (cVar false 4) (cCall F__law_pick [.nm 0, .ex (cOp dAdd (cOp dAdd (cVar false 1) (cD (.int 1))) (cVar false 6)), .ex (cD (.int 9))]))])) <|
  cRet (cIf (cT (cOp dEq (cCall F__law_pick [.nm 0, .ex (cOp dAdd (cVar false 1) (cD (.int 15))), .ex (cD (.int 4))]) (cD (.int 0)))) (cTup [cD (.str "/"), cSl (cVar false 5) (some (cD (.int 1))) none]) (cTup [cD (.str ""), cVar true 5]))
def F__law_path : Fn := runB 7 G__law_path
theorem ok__law_path : DefOk (tabOf FS1 CS ES) "_law_path" s__law_path ["script", "place", "most"] ["script", "place", "most", "size", "words", "parts", "i"] G__law_path := ⟨⟨rfl, rfl, rfl, by decide +kernel, rfl, by decide +kernel, by decide +kernel⟩, fun _ _ _ _ _ _ us hl => match us, hl with | [_, _, _], _ => rfl, by kernel_rfl⟩
def FS2 : List (Str × Nat × Fn) := ("_law_path", 3, F__law_path) :: FS1
abbrev s_is_name : Stmt := top 19
def G_is_name : Sd :=
  cRet (cAnd (cUn (dIsi "str") (cVar false 0)) (cAnd (cChain dLe dLe (cD (.int 1)) (cFn dLen [cVar false 0]) (cD (.int 3))) (cFn dAll [cLc (cIt (cVar false 0)) [1] (.nm 1) (cYes) (cOp dIn (cVar false 1) (cD (.str "abcdefghijklmnopqrstuvwxyz")))])))
def F_is_name : Fn := runB 2 G_is_name
theorem ok_is_name : DefOk (tabOf FS2 CS ES) "is_name" s_is_name ["value"] ["value", "sign"] G_is_name := ⟨⟨rfl, rfl, rfl, by decide +kernel, rfl, by decide +kernel, by decide +kernel⟩, fun _ _ _ _ _ _ us hl => match us, hl with | [_], _ => rfl, by kernel_rfl⟩
def FS3 : List (Str × Nat × Fn) := ("is_name", 1, F_is_name) :: FS2
abbrev s_is_part : Stmt := top 20
def G_is_part : Sd :=
  cRet (cOr (cCall F_is_name [.nm 0]) (cAnd (cUn (dIsi "str") (cVar false 0)) (cOp dIn (cVar false 0) (cTup [cD (.str "."), cD (.str "..")]))))
def F_is_part : Fn := runB 1 G_is_part
theorem ok_is_part : DefOk (tabOf FS3 CS ES) "is_part" s_is_part ["value"] ["value"] G_is_part := ⟨⟨rfl, rfl, rfl, by decide +kernel, rfl, by decide +kernel, by decide +kernel⟩, fun _ _ _ _ _ _ us hl => match us, hl with | [_], _ => rfl, by kernel_rfl⟩
def FS4 : List (Str × Nat × Fn) := ("is_part", 1, F_is_part) :: FS3
abbrev s_is_path : Stmt := top 21
def G_is_path : Sd :=
  cSeq (cIfS (cOrT (cNotT (cT (cUn (dIsi "tuple") (cVar false 0)))) (cOrT (cT (cOp dNe (cFn dLen [cVar false 0]) (cD (.int 2)))) (cNotT (cT (cUn (dIsi "str") (cOp dIx (cVar false 0) (cD (.int 0)))))))) (cRet (cD (.bool false))) (cNx)) <|
  cSeq (cUnp [1, 2] (cVar true 0)) <|
  cSeq (cIfS (cOrT (cT (cOp dNotIn (cVar false 1) (cTup [cD (.str "/"), cD (.str "")]))) (cOrT (cNotT (cT (cUn (dIsi "tuple") (cVar false 2)))) (cNotT (cT (cFn dAll [cLc (cIt (cVar false 2)) [3] (.nm 3) (cYes) (cCall F_is_part [.nm 3])]))))) (cRet (cD (.bool false))) (cNx)) <|
  cRet (cAnd (cOp dLe (cFn dLen [cVar false 2]) (cD (.int 12))) (cOr (cOp dEq (cVar false 1) (cD (.str "/"))) (cOp dNe (cVar false 2) (cTup []))))
def F_is_path : Fn := runB 4 G_is_path
theorem ok_is_path : DefOk (tabOf FS4 CS ES) "is_path" s_is_path ["candidate"] ["candidate", "start", "parts", "part"] G_is_path := ⟨⟨rfl, rfl, rfl, by decide +kernel, rfl, by decide +kernel, by decide +kernel⟩, fun _ _ _ _ _ _ us hl => match us, hl with | [_], _ => rfl, by kernel_rfl⟩
def FS5 : List (Str × Nat × Fn) := ("is_path", 1, F_is_path) :: FS4
abbrev s_parse_path : Stmt := top 23
def G_parse_path : Sd :=
  cSeq (cIfS (cNotT (cT (cUn (dIsi "str") (cVar false 0)))) (cRaise "ParseError") (cNx)) <|
  cSeq (cSet false 1 (cIf (cT (cOp dEq (cSl (cVar false 0) none (some (cD (.int 1)))) (cD (.str "/")))) (cD (.str "/")) (cD (.str "")))) <|
  cSeq (cSet true 2 (cLc (cIt (cMtO dSplit (cVar false 0) [cD (.str "/")])) [3] (.nm 3) (cT (cOp dNe (cVar false 3) (cD (.str "")))) (cVar true 3))) <|
  cSeq (cIfS (cAndT (cT (cOp dEq (cSl (cVar false 0) (some (cUn dNeg (cD (.int 1)))) none) (cD (.str "/")))) (cT (cOp dNe (cVar false 2) (cLst [])))) (cMut 2 mAppend [cD (.str ".")]) (cNx)) <|
  cSeq (cSet false 4 (cTup [cVar true 1, cFn dTuple [cVar false 2]])) <|
  cSeq (cIfS (cNotT (cT (cCall F_is_path [.nm 4]))) (cRaise "ParseError") (cNx)) <|
  cRet (cVar false 4)
def F_parse_path : Fn := runB 5 G_parse_path
theorem ok_parse_path : DefOk (tabOf FS5 CS ES) "parse_path" s_parse_path ["text"] ["text", "start", "parts", "part", "path"] G_parse_path := ⟨⟨rfl, rfl, rfl, by decide +kernel, rfl, by decide +kernel, by decide +kernel⟩, fun _ _ _ _ _ _ us hl => match us, hl with | [_], _ => rfl, by kernel_rfl⟩
def FS6 : List (Str × Nat × Fn) := ("parse_path", 1, F_parse_path) :: FS5
abbrev s_check_path : Stmt := top 22
def G_check_path : Sd :=
  cIfS (cNotT (cT (cCall F_is_path [.nm 0]))) (cRaise "InvalidPath") (cNx)
def F_check_path : Fn := runB 1 G_check_path
theorem ok_check_path : DefOk (tabOf FS6 CS ES) "check_path" s_check_path ["value"] ["value"] G_check_path := ⟨⟨rfl, rfl, rfl, by decide +kernel, rfl, by decide +kernel, by decide +kernel⟩, fun _ _ _ _ _ _ us hl => match us, hl with | [_], _ => rfl, by kernel_rfl⟩
def FS7 : List (Str × Nat × Fn) := ("check_path", 1, F_check_path) :: FS6
abbrev s_join : Stmt := top 25
def G_join : Sd :=
  cSeq (cExpr (cCall F_check_path [.nm 0])) <|
  cSeq (cExpr (cCall F_check_path [.nm 1])) <|
  cSeq (cIfS (cT (cOp dEq (cOp dIx (cVar false 1) (cD (.int 0))) (cD (.str "/")))) (cRet (cVar false 1)) (cNx)) <|
  cSeq (cIfS (cT (cOp dGt (cOp dAdd (cFn dLen [cOp dIx (cVar false 0) (cD (.int 1))]) (cFn dLen [cOp dIx (cVar false 1) (cD (.int 1))])) (cD (.int 12)))) (cRaise "TooLarge") (cNx)) <|
  cRet (cTup [cOp dIx (cVar false 0) (cD (.int 0)), cOp dAdd (cOp dIx (cVar false 0) (cD (.int 1))) (cOp dIx (cVar false 1) (cD (.int 1)))])
def F_join : Fn := runB 2 G_join
theorem ok_join : DefOk (tabOf FS7 CS ES) "join" s_join ["one", "other"] ["one", "other"] G_join := ⟨⟨rfl, rfl, rfl, by decide +kernel, rfl, by decide +kernel, by decide +kernel⟩, fun _ _ _ _ _ _ us hl => match us, hl with | [_, _], _ => rfl, by kernel_rfl⟩
def FS8 : List (Str × Nat × Fn) := ("join", 2, F_join) :: FS7
abbrev s__law_value : Stmt := top 28
def G__law_value : Sd :=
  cSeq (cSet true 2 (cLst [cD (.none), cD (.int 0), cD (.bool true), cD (.str ""), cD (.str "dir"), cTup [], cLst [], cTup [cD (.str "a")], cD (.str "a/b"), cTup [cD (.str ""), cTup []], cTup [cTup [cD (.str "a")]]])) <|
  cSeq (cMut 2 mExtend [cLst [cTup [cTup [cTup [cD (.str "a")], cD (.str "dir")]], cTup [cD (.str "/"), cLst [cD (.str "a")]], cTup [cD (.str ""), cTup [cD (.int 1)]]]]) <|
  cRet (cOp dIx (cVar false 2) (cCall F__law_pick [.nm 0, .nm 1, .ex (cD (.int 14))]))
def F__law_value : Fn := runB 3 G__law_value
theorem ok__law_value : DefOk (tabOf FS8 CS ES) "_law_value" s__law_value ["script", "place"] ["script", "place", "plain"] G__law_value := ⟨⟨rfl, rfl, rfl, by decide +kernel, rfl, by decide +kernel, by decide +kernel⟩, fun _ _ _ _ _ _ us hl => match us, hl with | [_, _], _ => rfl, by kernel_rfl⟩
def FS9 : List (Str × Nat × Fn) := ("_law_value", 2, F__law_value) :: FS8
abbrev s__law_judged : Stmt := top 33
def G__law_judged : Sd :=
  cSeq (cUnp [2, 3] (cVar true 1)) <|
  cSeq (cSet true 4 (cLst [cTup [cOp dAdd (cVar false 2) (cD (.str "a")), cVar true 3], cTup [cVar true 2, cFn dList [cVar false 3]], cTup [cVar true 2, cOp dAdd (cVar false 3) (cTup [cD (.str "abcd")])], cTup [cVar true 2, cOp dAdd (cVar false 3) (cTup [cD (.str "")])]])) <|
  cSeq (cMut 4 mExtend [cLst [cTup [cVar true 2, cOp dAdd (cVar false 3) (cTup [cD (.str "A")])], cTup [cVar true 2, cOp dAdd (cVar false 3) (cTup [cD (.str "...")])], cTup [cVar true 2, cOp dAdd (cVar false 3) (cTup [cD (.int 1)])], cTup [cVar true 2, cVar true 3, cD (.int 1)]]]) <|
  cSeq (cMut 4 mExtend [cLst [cLst [cVar true 2, cVar true 3], cTup [cD (.str ""), cTup []], cTup [cVar true 2, cOp dMul (cTup [cD (.str "a")]) (cD (.int 13))], cTup [cD (.bool true), cVar true 3], cCall F__law_value [.nm 0, .ex (cD (.int 90))]]]) <|
  cSeq (cSet true 5 (cLst [cTup [cD (.str "/"), cTup []], cTup [cD (.str "/"), cOp dMul (cTup [cD (.str "a")]) (cD (.int 12))], cTup [cVar true 2, cOp dAdd (cVar false 3) (cTup [cD (.str "abc")])], cTup [cVar true 2, cOp dAdd (cTup [cD (.str "..")]) (cVar false 3)], cTup [cD (.str ""), cTup [cD (.str "."), cD (.str ".")]]])) <|
  cSeq (cIfS (cT (cFn dAny [cLc (cIt (cVar false 5)) [6] (.nm 6) (cYes) (cOp dIsNot (cCall F_is_path [.nm 6]) (cD (.bool true)))])) (cRet (cD (.bool false))) (cNx)) <|
  cRet (cFn dAll [cLc (cIt (cVar false 4)) [6] (.nm 6) (cT (cOp dNotIn (cVar false 6) (cTup [cTup [cD (.str "/"), cTup []], cTup [cD (.str ""), cTup [cD (.str "a")]]]))) (cOp dIs (cCall F_is_path [.nm 6]) (cD (.bool false)))])
def F__law_judged : Fn := runB 7 G__law_judged
theorem ok__law_judged : DefOk (tabOf FS9 CS ES) "_law_judged" s__law_judged ["script", "path"] ["script", "path", "start", "parts", "bad", "good", "value"] G__law_judged := ⟨⟨rfl, rfl, rfl, by decide +kernel, rfl, by decide +kernel, by decide +kernel⟩, fun _ _ _ _ _ _ us hl => match us, hl with | [_, _], _ => rfl, by kernel_rfl⟩
def FS10 : List (Str × Nat × Fn) := ("_law_judged", 2, F__law_judged) :: FS9
abbrev s_format_path : Stmt := top 24
def G_format_path : Sd :=
  cSeq (cExpr (cCall F_check_path [.nm 0])) <|
  cRet (cOp dAdd (cOp dIx (cVar false 0) (cD (.int 0))) (cMtO dJoin (cD (.str "/")) [cOp dIx (cVar false 0) (cD (.int 1))]))
def F_format_path : Fn := runB 1 G_format_path
theorem ok_format_path : DefOk (tabOf FS10 CS ES) "format_path" s_format_path ["path"] ["path"] G_format_path := ⟨⟨rfl, rfl, rfl, by decide +kernel, rfl, by decide +kernel, by decide +kernel⟩, fun _ _ _ _ _ _ us hl => match us, hl with | [_], _ => rfl, by kernel_rfl⟩
def FS11 : List (Str × Nat × Fn) := ("format_path", 1, F_format_path) :: FS10
abbrev s__law_read : Stmt := top 32
def G__law_read : Sd :=
  cSeq (cPar2 true false 1 2 (cLst []) (cD (.str ""))) <|
  cSeq (cFor [] (cIt (cOp dAdd (cVar false 0) (cD (.str "/")))) (.nm 3) (cIfS (cT (cOp dEq (cVar false 3) (cD (.str "/")))) (cSeq (cMut 1 mExtend [cIf (cT (cOp dNe (cVar false 2) (cD (.str "")))) (cLst [cVar true 2]) (cLst [])]) <|
  cSet false 2 (cD (.str ""))) (cSet true 2 (cOp dAdd (cVar false 2) (cVar false 3))))) <|
  cSeq (cSet true 4 (cLc (cIt (cVar false 1)) [5] (.nm 5) (cT (cOp dNotIn (cVar false 5) (cTup [cD (.str "."), cD (.str "..")]))) (cVar true 5))) <|
  cSeq (cIfS (cT (cFn dAny [cLc (cIt (cVar false 4)) [6] (.nm 6) (cYes) (cOr (cOp dIn (cD (.str ".")) (cVar false 6)) (cOp dGt (cFn dLen [cVar false 6]) (cD (.int 3))))])) (cRet (cD (.none))) (cNx)) <|
  cSeq (cIfS (cAndT (cT (cOp dEq (cSl (cVar false 0) (some (cUn dNeg (cD (.int 1)))) none) (cD (.str "/")))) (cT (cOp dNe (cVar false 1) (cLst [])))) (cMut 1 mAppend [cD (.str ".")]) (cNx)) <|
  cSeq (cSet false 7 (cTup [cIf (cT (cOp dEq (cSl (cVar false 0) none (some (cD (.int 1)))) (cD (.str "/")))) (cD (.str "/")) (cD (.str "")), cFn dTuple [cVar false 1]])) <|
  cRet (cIf (cAndT (cT (cOp dNe (cVar false 7) (cTup [cD (.str ""), cTup []]))) (cT (cOp dLe (cFn dLen [cVar false 1]) (cD (.int 12))))) (cVar false 7) (cD (.none)))
def F__law_read : Fn := runB 8 G__law_read
theorem ok__law_read : DefOk (tabOf FS11 CS ES) "_law_read" s__law_read ["text"] ["text", "parts", "word", "sign", "names", "part", "name", "path"] G__law_read := ⟨⟨rfl, rfl, rfl, by decide +kernel, rfl, by decide +kernel, by decide +kernel⟩, fun _ _ _ _ _ _ us hl => match us, hl with | [_], _ => rfl, by kernel_rfl⟩
def FS12 : List (Str × Nat × Fn) := ("_law_read", 1, F__law_read) :: FS11
def ISA : List (Str × List (Str × Bool)) := [("ParseError", [("InvalidPath", false), ("InvalidChart", false), ("InvalidAddress", false), ("InvalidWhat", false), ("NotUnknown", false), ("InvalidMode", false), ("InvalidTree", false), ("InvalidBase", false), ("TooLarge", false), ("ParseError", true), ("ValueError", true)])]
def isaOf (y : Str) : Str → Option Bool := fun z => (ISA.lookup z).bind fun l => l.lookup y
abbrev s__law_class : Stmt := top 30
def G__law_class : Sd :=
  cSeq (cSet true 1 (cLst [cIsE (isaOf "InvalidPath") 0, cIsE (isaOf "InvalidChart") 0])) <|
  cSeq (cMut 1 mExtend [cLst [cIsE (isaOf "InvalidAddress") 0, cIsE (isaOf "InvalidWhat") 0]]) <|
  cSeq (cMut 1 mExtend [cLst [cIsE (isaOf "NotUnknown") 0, cIsE (isaOf "InvalidMode") 0]]) <|
  cSeq (cMut 1 mExtend [cLst [cIsE (isaOf "InvalidTree") 0, cIsE (isaOf "InvalidBase") 0]]) <|
  cSeq (cMut 1 mExtend [cLst [cIsE (isaOf "TooLarge") 0, cIsE (isaOf "ParseError") 0]]) <|
  cSeq (cIfS (cOrT (cT (cOp dNe (cMtO dCount (cVar false 1) [cD (.bool true)]) (cD (.int 1)))) (cNotT (cT (cIsE (isaOf "ValueError") 0)))) (cRet (cD (.str "wrong"))) (cNx)) <|
  cSeq (cSet true 2 (cLst [cD (.str "InvalidPath"), cD (.str "InvalidChart"), cD (.str "InvalidAddress"), cD (.str "InvalidWhat"), cD (.str "NotUnknown")])) <|
  cSeq (cMut 2 mExtend [cLst [cD (.str "InvalidMode"), cD (.str "InvalidTree"), cD (.str "InvalidBase"), cD (.str "TooLarge"), cD (.str "ParseError")]]) <|
  cRet (cOp dIx (cVar false 2) (cMtO dIndex (cVar false 1) [cD (.bool true)]))
def E__law_class : Str → Option D := runX 3 0 G__law_class
theorem ok__law_class : DefOk (hotOf ISA []) "_law_class" s__law_class ["error"] ["error", "kinds", "names"] G__law_class := ⟨⟨rfl, rfl, rfl, by decide +kernel, rfl, by decide +kernel, by decide +kernel⟩, fun _ _ _ _ _ _ us hl => match us, hl with | [_], _ => rfl, by kernel_rfl⟩
def HF : List (Str × (Str → Option D)) := [("_law_class", E__law_class)]
abbrev s__law_result : Stmt := top 31
def G__law_result : Sd :=
  cRet (cTup [cD (.str "error"), cCallE E__law_class 1])
def GR : Str → Option D := runX 2 1 G__law_result
theorem txt__law_result : ResText (hotOf ISA HF) s__law_result "_law_result" "call" "PathError" "error" ["call", "error"] 1 40 G__law_result := ⟨⟨rfl, rfl, rfl, by decide +kernel, rfl, by decide +kernel, by decide +kernel⟩, fun _ _ _ _ _ _ us hl => match us, hl with | [_], _ => rfl, ⟨_, _, _, _, _, _, _, _, rfl, by kernel_rfl⟩, rfl, by decide +kernel, by decide +kernel, by decide +kernel, rfl, by decide +kernel, by decide +kernel, by decide +kernel⟩
abbrev s_law : Stmt := top 34
def G_law : Sd :=
  cSeq (cPar2 false false 1 2 (cCall F__law_path [.nm 0, .ex (cD (.int 0)), .ex (cD (.int 6))]) (cCall F__law_path [.nm 0, .ex (cD (.int 20)), .ex (cD (.int 6))])) <|
  cSeq (cIfS (cOrT (cT (cOp dIsNot (cCall F_is_path [.nm 1]) (cD (.bool true)))) (cNotT (cT (cCall F__law_judged [.nm 0, .nm 1])))) (cRet (cD (.bool false))) (cNx)) <|
  cSeq (cSet true 3 (cOp dAdd (cOp dIx (cVar false 1) (cD (.int 0))) (cMtO dJoin (cD (.str "/")) [cOp dIx (cVar false 1) (cD (.int 1))]))) <|
  cSeq (cIfS (cOrT (cT (cOp dNe (cCall F_format_path [.nm 1]) (cVar false 3))) (cT (cOp dNe (cCall F_parse_path [.nm 3]) (cVar false 1)))) (cRet (cD (.bool false))) (cNx)) <|
  cSeq (cSet true 4 (cOp dAdd (cOp dAdd (cOp dIx (cVar false 1) (cD (.int 0))) (cMtO dJoin (cD (.str "//")) [cOp dIx (cVar false 1) (cD (.int 1))])) (cOp dMul (cD (.str "/")) (cOp dAdd (cD (.int 1)) (cCall F__law_pick [.nm 0, .ex (cD (.int 40)), .ex (cD (.int 2))]))))) <|
  cSeq (cIfS (cT (cOp dNe (cCall F_parse_path [.nm 4]) (cTup [cOp dIx (cVar false 1) (cD (.int 0)), cOp dAdd (cOp dIx (cVar false 1) (cD (.int 1))) (cIf (cT (cOp dNe (cOp dIx (cVar false 1) (cD (.int 1))) (cTup []))) (cTup [cD (.str ".")]) (cTup []))]))) (cRet (cD (.bool false))) (cNx)) <|
  cSeq (cSet false 5 (cIf (cT (cOp dEq (cOp dIx (cVar false 2) (cD (.int 0))) (cD (.str "/")))) (cVar true 2) (cTup [cOp dIx (cVar false 1) (cD (.int 0)), cOp dAdd (cOp dIx (cVar false 1) (cD (.int 1))) (cOp dIx (cVar false 2) (cD (.int 1)))]))) <|
  cSeq (cIfS (cT (cOp dNe (cCall F_join [.nm 1, .nm 2]) (cVar false 5))) (cRet (cD (.bool false))) (cNx)) <|
  cSeq (cSet false 6 (cCall F__law_pick [.nm 0, .ex (cD (.int 41)), .ex (cD (.int 12))])) <|
  cSeq (cSet false 7 (cMtO dJoin (cD (.str "")) [cLc (cRange1 [cVar false 6]) [8] (.nm 8) (cYes) (cOp dIx (cTup [cD (.str "a"), cD (.str "/"), cD (.str "."), cD (.str "b"), cD (.str "/")]) (cCall F__law_pick [.nm 0, .ex (cOp dAdd (cD (.int 42)) (cVar false 8)), .ex (cD (.int 5))]))])) <|
  cSeq (cSet false 9 (cRes GR (cCall F_parse_path [.nm 7]))) <|
  cSeq (cRet (cOp dEq (cVar false 9) (cIf (cT (cOp dIsNot (cCall F__law_read [.nm 7]) (cD (.none)))) (cCall F__law_read [.nm 7]) (cTup [cD (.str "error"), cD (.str "ParseError")])))) <|
  cNx
theorem sc_law : FnScope ["script", "one", "other", "text", "loose", "due", "size", "drawn", "i", "found"] ["script"] (defScope s_law) := ⟨rfl, rfl, rfl, by decide +kernel, rfl, by decide +kernel, by decide +kernel⟩
theorem dn_law : denLaw (tabOf FS12 CS ES) ["script", "one", "other", "text", "loose", "due", "size", "drawn", "i", "found"] (defScope s_law) 40 "_law_result" GR (defBody s_law) = some G_law := by kernel_rfl
end Law

namespace Law
open PySem PySem.Spec PyProof.Rows L2 Den
/-! ### reading of the combinators -/
theorem i1 {n : Nat} {a : D} : initR (n + 1) [a] = some (.val a) :: List.replicate n none := rfl
theorem i2 {n : Nat} {a b : D} : initR (n + 2) [a, b] = some (.val a) :: some (.val b) :: List.replicate n none := rfl
theorem i3 {n : Nat} {a b c : D} : initR (n + 3) [a, b, c] = some (.val a) :: some (.val b) :: some (.val c) :: List.replicate n none := rfl
theorem depth_pos : ∀ l : List Int, nd (.list (l.map .int)) = true := fun l => by
  simp only [nd]
  induction l with
  | nil => rfl
  | cons a r ih => simp [ndAll, nd, ih]
theorem eqv_nil (l : List Int) : PyData.eqv (.list (l.map .int)) (.list []) = l.isEmpty := by
  cases l <;> simp [PyData.eqv, PyData.eqvAll]
theorem ne_nil (l : List Int) : dNe (.list (l.map .int)) (.list []) = some (.bool (!l.isEmpty)) := by
  unfold dNe
  rw [depth_pos l, eqv_nil]
  have h2 : nd (.list []) = true := rfl
  have : min (PyData.depth (.list (l.map .int))) (PyData.depth (.list [])) ≤ 64 := by
    have : PyData.depth (.list []) ≤ 64 := by decide
    omega
  simp [h2, this]
/-- the loop of pick -/
def pkTest : Tx := cAndT (cT (cOp dGt (cVar false 4) (cD (.int 0)))) (cT (cOp dGt (cVar false 5) (cD (.int 0))))
def pkBody : Sd := cPar2 false false 4 5 (cOp dFdiv (cVar false 4) (cD (.int 840))) (cOp dSub (cVar false 5) (cD (.int 1)))
theorem pk_loop (x0 x1 x2 x3 x6 : Option Sl) : ∀ (m : Nat) (rest again : Int) (n : Nat), again ≤ m → m < n → ∃ r' a', whLoop pkTest pkBody n [x0, x1, x2, x3, some (.val (.int rest)), some (.val (.int again)), x6] = some (.nx [x0, x1, x2, x3, some (.val (.int r')), some (.val (.int a')), x6])
  | m, rest, again, 0, h1, h2 => by omega
  | m, rest, again, n + 1, h1, h2 => by
    unfold whLoop
    by_cases hr : 0 < rest
    · by_cases ha : 0 < again
      · have e : pkTest [x0, x1, x2, x3, some (.val (.int rest)), some (.val (.int again)), x6] = some (.ok true) := by simp [pkTest, cAndT, cT, cOp, cVar, cD, eb, pu, dGt, asB, hr, ha]
        have e2 : pkBody [x0, x1, x2, x3, some (.val (.int rest)), some (.val (.int again)), x6] = some (.nx [x0, x1, x2, x3, some (.val (.int (rest / 840))), some (.val (.int (again - 1))), x6]) := by
          simp [pkBody, cPar2, cOp, cVar, cD, eb, pu, dFdiv, dSub, Den.small64, put]
        rw [e]
        dsimp only
        rw [e2]
        dsimp only
        match m with
        | 0 => omega
        | m + 1 => exact pk_loop x0 x1 x2 x3 x6 m (rest / 840) (again - 1) n (by omega) (by omega)
      · have e : pkTest [x0, x1, x2, x3, some (.val (.int rest)), some (.val (.int again)), x6] = some (.ok false) := by simp [pkTest, cAndT, cT, cOp, cVar, cD, eb, pu, dGt, asB, hr, ha]
        rw [e]
        exact ⟨_, _, rfl⟩
    · have e : pkTest [x0, x1, x2, x3, some (.val (.int rest)), some (.val (.int again)), x6] = some (.ok false) := by simp [pkTest, cAndT, cT, cOp, cVar, cD, eb, pu, dGt, asB, hr]
      rw [e]
      exact ⟨_, _, rfl⟩
theorem atI_in {α : Type} {l : List α} {i : Int} (h0 : 0 ≤ i) (h : i < l.length) : ∃ z, L2.atI l i = some z ∧ z ∈ l := by
  have hl : i.toNat < l.length := by omega
  refine ⟨l[i.toNat], ?_, List.getElem_mem hl⟩
  unfold L2.atI L2.ixN
  rw [if_pos h0, if_pos h]
  simp [hl]
theorem G_pick_eq : G__law_pick = 
  (cSeq (cSet false 3 (cIf (cT (cOp dNe (cVar false 0) (cLst []))) (cOp dIx (cVar false 0) (cOp dMod (cVar false 1) (cFn dLen [cVar false 0]))) (cD (.int 0)))) <|
  cSeq (cPar2 false false 4 5 (cOp dFdiv (cVar false 3) (cOp dPow (cD (.int 10)) (cD (.int 18)))) (cOp dFdiv (cVar false 1) (cFn dMax [cFn dLen [cVar false 0], cD (.int 1)]))) <|
  cSeq (whLoop pkTest pkBody manyTurns) <|
  cSeq (cIfS (cT (cOp dGt (cVar false 4) (cD (.int 0)))) (cRet (cOp dMod (cOp dMod (cVar false 4) (cD (.int 840))) (cVar false 2))) (cNx)) <|
  cSeq (cSet false 6 (cOp dMod (cOp dMul (cOp dAdd (cOp dMul (cVar false 3) (cD (.int 31))) (cOp dMul (cD (.int 6151)) (cOp dAdd (cVar false 1) (cD (.int 1))))) (cD (.int 40692))) (cD (.int 2147483399)))) <|
  cRet (cOp dMod (cOp dMod (cOp dAdd (cOp dMul (cVar false 6) (cVar false 6)) (cOp dFdiv (cVar false 6) (cD (.int 31)))) (cD (.int 2147483629))) (cVar false 2))) := rfl
theorem seq_nx {f g : Sd} {ρ ρ' : Rho} (h : f ρ = some (.nx ρ')) : cSeq f g ρ = g ρ' := by unfold cSeq; rw [h]
theorem pick_ok (ns : List Int) (hn : ns.length ≤ 63) (k many : Int) (hk : 0 ≤ k) (hk2 : k < 1000) (hm : 0 < many) : ∃ r, F__law_pick [.list (ns.map .int), .int k, .int many] = some (.ok (.int r)) ∧ 0 ≤ r ∧ r < many := by
  unfold F__law_pick runB
  rw [G_pick_eq, i3]
  simp only [List.replicate]
  -- cell
  obtain ⟨cell, hc⟩ : ∃ cell : Int, cSet false 3 (cIf (cT (cOp dNe (cVar false 0) (cLst []))) (cOp dIx (cVar false 0) (cOp dMod (cVar false 1) (cFn dLen [cVar false 0]))) (cD (.int 0))) [some (.val (.list (ns.map .int))), some (.val (.int k)), some (.val (.int many)), none, none, none, none] = some (.nx [some (.val (.list (ns.map .int))), some (.val (.int k)), some (.val (.int many)), some (.val (.int cell)), none, none, none]) := by
    cases ns with
    | nil =>
      refine ⟨0, ?_⟩
      have := ne_nil []
      simp at this
      simp [cSet, cIf, cT, cOp, cVar, cLst, cArgs, cD, eb, pu, asB, put, this]
    | cons a r =>
      have h1 : (0 : Int) < ((a :: r).length : Int) := by simp
      obtain ⟨z, hz, hz2⟩ := atI_in (l := (a :: r).map PyData.int) (i := k % ((a :: r).length : Int)) (Int.emod_nonneg _ (by omega)) (by rw [List.length_map]; exact Int.emod_lt_of_pos _ h1)
      obtain ⟨y, _, rfl⟩ := List.mem_map.mp hz2
      refine ⟨y, ?_⟩
      have h3 := ne_nil (a :: r)
      simp only [cSet, cIf, cT, cOp, cVar, cLst, cArgs, cD, eb, pu, cFn, dLen, dMod, dIx, List.getElem?_cons_zero, List.getElem?_cons_succ, Bool.false_eq_true, if_false, h3, List.length_map]
      simp only [Option.map_some, asB, List.isEmpty_cons, Bool.not_false, if_true, h1, hz]
      simp [put]
  rw [seq_nx hc]
  -- rest, again
  have hm1 : (0 : Int) < (if (1 : Int) > (ns.length : Int) then 1 else (ns.length : Int)) := by split <;> omega
  have hp : cPar2 false false 4 5 (cOp dFdiv (cVar false 3) (cOp dPow (cD (.int 10)) (cD (.int 18)))) (cOp dFdiv (cVar false 1) (cFn dMax [cFn dLen [cVar false 0], cD (.int 1)])) [some (.val (.list (ns.map .int))), some (.val (.int k)), some (.val (.int many)), some (.val (.int cell)), none, none, none] =
      some (.nx [some (.val (.list (ns.map .int))), some (.val (.int k)), some (.val (.int many)), some (.val (.int cell)), some (.val (.int (cell / 10 ^ 18))), some (.val (.int (k / (if (1 : Int) > (ns.length : Int) then 1 else (ns.length : Int))))), none]) := by
    have hs : Den.small64 (if (1 : Int) > (ns.length : Int) then 1 else (ns.length : Int)) = true := by
      unfold Den.small64
      simp only [Bool.and_eq_true, decide_eq_true_eq]
      split <;> omega
    simp only [cPar2, cOp, cVar, cD, eb, pu, cFn, cArgs, dLen, dMax, dPow, dFdiv, List.getElem?_cons_zero, List.getElem?_cons_succ, Bool.false_eq_true, if_false, List.length_map]
    simp only [Option.map_some, hm1, hs, decide_true, Bool.and_self, if_true]
    simp [put, Den.small64]
  rw [seq_nx hp]
  have hag : k / (if (1 : Int) > (ns.length : Int) then 1 else (ns.length : Int)) ≤ (1000 : Nat) := by
    have := Int.ediv_le_self (if (1 : Int) > (ns.length : Int) then 1 else (ns.length : Int)) hk
    omega
  obtain ⟨rest, again, hw⟩ := pk_loop (some (.val (.list (ns.map .int)))) (some (.val (.int k))) (some (.val (.int many))) (some (.val (.int cell))) none 1000 (cell / 10 ^ 18) _ manyTurns hag (by decide)
  rw [seq_nx hw]
  by_cases hr : 0 < rest
  · refine ⟨rest % 840 % many, ?_, Int.emod_nonneg _ (by omega), Int.emod_lt_of_pos _ hm⟩
    simp [cSeq, cIfS, cT, cOp, cVar, cD, eb, pu, dGt, asB, hr, cRet, dMod, hm]
  · have e1 : cIfS (cT (cOp dGt (cVar false 4) (cD (.int 0)))) (cRet (cOp dMod (cOp dMod (cVar false 4) (cD (.int 840))) (cVar false 2))) (cNx) [some (.val (.list (ns.map .int))), some (.val (.int k)), some (.val (.int many)), some (.val (.int cell)), some (.val (.int rest)), some (.val (.int again)), none] = some (.nx [some (.val (.list (ns.map .int))), some (.val (.int k)), some (.val (.int many)), some (.val (.int cell)), some (.val (.int rest)), some (.val (.int again)), none]) := by
      simp [cIfS, cT, cOp, cVar, cD, eb, pu, dGt, asB, hr, cNx]
    rw [seq_nx e1]
    let dr : Int := (cell * 31 + 6151 * (k + 1)) * 40692 % 2147483399
    have d1 : 0 ≤ dr := Int.emod_nonneg _ (by decide)
    have d2 : dr < 2147483399 := Int.emod_lt_of_pos _ (by decide)
    have e2 : cSet false 6 (cOp dMod (cOp dMul (cOp dAdd (cOp dMul (cVar false 3) (cD (.int 31))) (cOp dMul (cD (.int 6151)) (cOp dAdd (cVar false 1) (cD (.int 1))))) (cD (.int 40692))) (cD (.int 2147483399))) [some (.val (.list (ns.map .int))), some (.val (.int k)), some (.val (.int many)), some (.val (.int cell)), some (.val (.int rest)), some (.val (.int again)), none] = some (.nx [some (.val (.list (ns.map .int))), some (.val (.int k)), some (.val (.int many)), some (.val (.int cell)), some (.val (.int rest)), some (.val (.int again)), some (.val (.int dr))]) := by
      simp [cSet, cOp, cVar, cD, eb, pu, dMod, dMul, dAdd, Den.small64, put, dr]
    rw [seq_nx e2]
    refine ⟨(dr * dr + dr / 31) % 2147483629 % many, ?_, Int.emod_nonneg _ (by omega), Int.emod_lt_of_pos _ hm⟩
    have hs : Den.small64 dr = true := by
      unfold Den.small64
      simp only [Bool.and_eq_true, decide_eq_true_eq]
      omega
    have hs2 : Den.small64 31 = true := by decide
    simp only [cRet, cOp, cVar, cD, eb, pu, dMod, dMul, dAdd, dFdiv, List.getElem?_cons_zero, List.getElem?_cons_succ, Bool.false_eq_true, if_false, hs, hs2]
    simp [hm]
end Law

namespace Law
open PySem PySem.Spec PyProof.Rows L2 Den
/-! ### comprehensions -/
theorem lc_filter {t : Tgt} {ft : Tx} {fe : Ex} {ρ : Rho} (p : D → Bool) (g : D → D) : ∀ (items : List D), (∀ d ∈ items, ∃ ρ1, setT t ρ d = some ρ1 ∧ ft ρ1 = some (.ok (p d)) ∧ (p d = true → fe ρ1 = some (.ok (g d)))) → lcLoop t ft fe ρ items = some ((items.filter p).map g)
  | [], _ => rfl
  | d :: r, h => by
    obtain ⟨ρ1, h1, h2, h3⟩ := h d List.mem_cons_self
    have ih := lc_filter p g r fun x hx => h x (List.mem_cons_of_mem _ hx)
    unfold lcLoop
    rw [h1]
    dsimp only
    rw [h2]
    cases hp : p d with
    | true => dsimp only; rw [h3 hp, ih]; simp [hp]
    | false => dsimp only; rw [ih]; simp [hp]
theorem lc_map {t : Tgt} {fe : Ex} {ρ : Rho} (g : D → D) (items : List D) (h : ∀ d ∈ items, ∃ ρ1, setT t ρ d = some ρ1 ∧ fe ρ1 = some (.ok (g d))) : lcLoop t cYes fe ρ items = some (items.map g) := by
  rw [lc_filter (fun _ => true) g items fun d hd => by obtain ⟨ρ1, h1, h2⟩ := h d hd; exact ⟨ρ1, h1, rfl, fun _ => h2⟩]
  rw [List.filter_eq_self.mpr (by simp)]
theorem lc_ex {t : Tgt} {fe : Ex} {ρ : Rho} (P : D → Prop) : ∀ (items : List D), (∀ d ∈ items, ∃ ρ1 y, setT t ρ d = some ρ1 ∧ fe ρ1 = some (.ok y) ∧ P y) → ∃ out, lcLoop t cYes fe ρ items = some out ∧ out.length = items.length ∧ ∀ y ∈ out, P y
  | [], _ => ⟨[], rfl, rfl, by simp⟩
  | d :: r, h => by
    obtain ⟨ρ1, y, h1, h2, h3⟩ := h d List.mem_cons_self
    obtain ⟨out, h4, h5, h6⟩ := lc_ex P r fun x hx => h x (List.mem_cons_of_mem _ hx)
    refine ⟨y :: out, ?_, by simp [h5], ?_⟩
    · unfold lcLoop
      rw [h1]
      dsimp only [cYes]
      rw [h2]
      dsimp only
      rw [h4]
      rfl
    · intro z hz
      rcases List.mem_cons.mp hz with rfl | hz
      · exact h3
      · exact h6 z hz
theorem bools_map {α : Type} (f : α → Bool) : ∀ l : List α, bools (l.map fun x => .bool (f x)) = some (l.map f)
  | [] => rfl
  | a :: r => by simp [bools, bools_map f r]
/-! ### names, parts, paths -/
def lets : List Nat := (Str.ofString "abcdefghijklmnopqrstuvwxyz").cps.toList
def isNameB (s : Str) : Bool := decide (1 ≤ s.length) && decide (s.length ≤ 3) && s.cps.toList.all (fun k => decide (k ∈ lets))
theorem all_bool (l : List Bool) : dAll [.list (l.map .bool)] = some (.bool (l.all id)) := by
  have : bools (l.map PyData.bool) = some l := by simpa using bools_map (fun x : Bool => x) l
  simp [dAll, this]
theorem name_str (s : Str) : F_is_name [.str s] = some (.ok (.bool (isNameB s))) := by
  have lc : lcLoop (.nm 1) cYes (cOp dIn (cVar false 1) (cD (.str "abcdefghijklmnopqrstuvwxyz"))) [some (.val (.str s)), none] (Den.signs s) = some ((Den.signs s).map fun d => match d with | .str x => .bool (x.cps.toList.all fun k => decide (k ∈ lets)) | _ => .none) := by
    refine lc_map _ _ fun d hd => ?_
    obtain ⟨k, _, rfl⟩ := List.mem_map.mp hd
    refine ⟨[some (.val (.str s)), some (.val (.str ⟨#[k]⟩))], by simp [setT, notOwn], ?_⟩
    simp [cOp, cVar, cD, eb, pu, dIn, lets]
  have e2 : ((Den.signs s).map fun d => match d with | PyData.str x => PyData.bool (x.cps.toList.all fun k => decide (k ∈ lets)) | _ => .none) = (s.cps.toList.map fun k => decide (k ∈ lets)).map PyData.bool := by
    simp [Den.signs]
  rw [e2] at lc
  have al : dAll [.list (List.map (PyData.bool ∘ fun k => decide (k ∈ lets)) s.cps.toList)] = some (.bool (s.cps.toList.all fun k => decide (k ∈ lets))) := by
    have := all_bool (s.cps.toList.map fun k => decide (k ∈ lets))
    rw [List.map_map, List.all_map] at this
    exact this
  unfold F_is_name runB G_is_name
  rw [i1]
  simp only [List.replicate]
  by_cases h1 : 1 ≤ s.length
  · by_cases h2 : s.length ≤ 3
    · have h3 : (1 : Int) ≤ (s.length : Int) := by omega
      have h4 : (s.length : Int) ≤ 3 := by omega
      simp only [cRet, cAnd, cUn, cVar, cChain, cFn, cArgs, cD, cLc, cIt, itemsOf, eb, pu, dIsi, dLe, dLen, List.getElem?_cons_zero, Bool.false_eq_true, if_false]
      simp [h3, h4, notOwn, wipeR, lc, al, isNameB, h1, h2]
    · have h3 : (1 : Int) ≤ (s.length : Int) := by omega
      have h4 : ¬ (s.length : Int) ≤ 3 := by omega
      simp [cRet, cAnd, cUn, cVar, cChain, cFn, cArgs, cD, eb, pu, dIsi, dLe, dLen, h3, h4, isNameB, h2]
  · have h3 : ¬ (1 : Int) ≤ (s.length : Int) := by omega
    simp [cRet, cAnd, cUn, cVar, cChain, cFn, cArgs, cD, eb, pu, dIsi, dLe, dLen, h3, isNameB, h1]
theorem name_other {d : D} (hd : nd d = true) (h : ∀ s, d ≠ .str s) : F_is_name [d] = some (.ok (.bool false)) := by
  unfold F_is_name runB G_is_name
  rw [i1]
  cases d with
  | str s => exact absurd rfl (h s)
  | dict l => simp [nd] at hd
  | _ => simp [cRet, cAnd, cUn, cVar, eb, pu, dIsi]
def isPartB : D → Bool
  | .str s => isNameB s || s == "." || s == ".."
  | _ => false
theorem call1 {F : Fn} {ρ : Rho} {i : Nat} {d : D} (h : ρ[i]? = some (some (.val d))) : cCall F [.nm i] ρ = F [d] := by
  simp [cCall, cArgs, Ar.at, cVar, h, eb]
theorem part_ok {d : D} (hd : nd d = true) : F_is_part [d] = some (.ok (.bool (isPartB d))) := by
  unfold F_is_part runB G_is_part
  rw [i1]
  simp only [List.replicate]
  by_cases hs : ∃ s, d = .str s
  · obtain ⟨s, rfl⟩ := hs
    have e : cCall F_is_name [.nm 0] [some (.val (.str s))] = some (.ok (.bool (isNameB s))) := by rw [call1 (d := .str s) rfl, name_str]
    have e2 : dIn (.str s) (.tuple [.str ".", .str ".."]) = some (.bool (s == "." || s == "..")) := by
      have m : min (PyData.depthAll [.str ".", .str ".."]) (PyData.depth (.str s)) ≤ 64 := by simp [PyData.depth]
      have a1 : ((Str.ofString ".") == s) = (s == ".") := by rw [Bool.beq_comm]
      have a2 : ((Str.ofString "..") == s) = (s == "..") := by rw [Bool.beq_comm]
      simp [dIn, nd, ndAll, m, PyData.eqv, a1, a2]
    cases hn : isNameB s with
    | true => simp [cRet, cOr, e, hn, eb, isPartB]
    | false => simp [cRet, cOr, cAnd, e, hn, eb, isPartB, cUn, cVar, pu, dIsi, cOp, cTup, cArgs, cD, e2]
  · have hs : ∀ s, d ≠ .str s := fun s e => hs ⟨s, e⟩
    have e : cCall F_is_name [.nm 0] [some (.val d)] = some (.ok (.bool false)) := by rw [call1 (d := d) rfl, name_other hd hs]
    cases d with
    | str s => exact absurd rfl (hs s)
    | dict l => simp [nd] at hd
    | _ => simp [cRet, cOr, cAnd, e, eb, isPartB, cUn, cVar, pu, dIsi]
end Law

namespace Law
open PySem PySem.Spec PyProof.Rows L2 Den
def startB (s : Str) : Bool := s == "/" || s == ""
def isPathB : D → Bool
  | .tuple [.str s, .tuple ps] => startB s && ps.all isPartB && decide (ps.length ≤ 12) && (s == "/" || !ps.isEmpty)
  | _ => false
theorem nd_tuple {l : List D} (h : nd (.tuple l) = true) : ∀ d ∈ l, nd d = true := by
  have h : ndAll l = true := by simpa [nd] using h
  induction l with
  | nil => simp
  | cons a r ih =>
    simp only [ndAll, Bool.and_eq_true] at h
    intro d hd
    rcases List.mem_cons.mp hd with rfl | hd
    · exact h.1
    · exact ih (by simpa [nd] using h.2) h.2 d hd
theorem nd_all {l : List D} (h : ∀ d ∈ l, nd d = true) : ndAll l = true := by
  induction l with
  | nil => rfl
  | cons a r ih => simp [ndAll, h a (by simp), ih fun d hd => h d (by simp [hd])]
theorem eqv_tnil (l : List D) : PyData.eqv (.tuple l) (.tuple []) = l.isEmpty := by cases l <;> simp [PyData.eqv, PyData.eqvAll]
theorem ne_tnil {l : List D} (h : nd (.tuple l) = true) : dNe (.tuple l) (.tuple []) = some (.bool (!l.isEmpty)) := by
  have m : min (PyData.depth (.tuple l)) (PyData.depth (.tuple [])) ≤ 64 := by simp [PyData.depth, PyData.depthAll]
  simp [dNe, h, m, eqv_tnil, nd, ndAll]
  simp [nd] at h
  exact h
theorem in_start (s : Str) : dIn (.str s) (.tuple [.str "/", .str ""]) = some (.bool (startB s)) := by
  have m : min (PyData.depthAll [.str "/", .str ""]) (PyData.depth (.str s)) ≤ 64 := by simp [PyData.depth]
  have a1 : ((Str.ofString "/") == s) = (s == "/") := by rw [Bool.beq_comm]
  have a2 : ((Str.ofString "") == s) = (s == "") := by rw [Bool.beq_comm]
  simp [dIn, nd, ndAll, m, PyData.eqv, a1, a2, startB]
theorem path_ok {d : D} (hd : nd d = true) : F_is_path [d] = some (.ok (.bool (isPathB d))) := by
  unfold F_is_path runB G_is_path
  rw [i1]
  simp only [List.replicate]
  cases d with
  | dict l => simp [nd] at hd
  | tuple l =>
    match l, hd with
    | [], _ => simp [cSeq, cIfS, cOrT, cNotT, cT, cUn, cVar, cOp, cFn, cArgs, cD, eb, pu, asB, dIsi, dLen, dNe, nd, PyData.eqv, PyData.depth, cRet, isPathB]
    | [x], _ => simp [cSeq, cIfS, cOrT, cNotT, cT, cUn, cVar, cOp, cFn, cArgs, cD, eb, pu, asB, dIsi, dLen, dNe, nd, PyData.eqv, PyData.depth, cRet, isPathB]
    | x :: y :: z :: r, _ =>
      have h3 : ¬ ((r.length : Int) + 1 + 1 + 1 = 2) := by omega
      simp [cSeq, cIfS, cOrT, cNotT, cT, cUn, cVar, cOp, cFn, cArgs, cD, eb, pu, asB, dIsi, dLen, dNe, nd, PyData.eqv, PyData.depth, cRet, isPathB, h3]
    | [x, y], hd =>
      have hx := nd_tuple hd x (by simp)
      have hy := nd_tuple hd y (by simp)
      have ix : dIx (.tuple [x, y]) (.int 0) = some x := by simp [dIx, L2.atI, L2.ixN]
      by_cases hs : ∃ s, x = .str s
      · obtain ⟨s, rfl⟩ := hs
        have e1 : cIfS (cOrT (cNotT (cT (cUn (dIsi "tuple") (cVar false 0)))) (cOrT (cT (cOp dNe (cFn dLen [cVar false 0]) (cD (.int 2)))) (cNotT (cT (cUn (dIsi "str") (cOp dIx (cVar false 0) (cD (.int 0)))))))) (cRet (cD (.bool false))) (cNx) [some (.val (.tuple [.str s, y])), none, none, none] = some (.nx [some (.val (.tuple [.str s, y])), none, none, none]) := by
          simp [cIfS, cOrT, cNotT, cT, cUn, cVar, cOp, cFn, cArgs, cD, eb, pu, asB, dIsi, dLen, dNe, nd, PyData.eqv, PyData.depth, cRet, ix, cNx]
        rw [seq_nx e1]
        have e2 : cUnp [1, 2] (cVar true 0) [some (.val (.tuple [.str s, y])), none, none, none] = some (.nx [some (.val (.tuple [.str s, y])), some (.val (.str s)), some (.val y), none]) := by
          simp [cUnp, cVar, putV]
        rw [seq_nx e2]
        have nin : dNotIn (.str s) (.tuple [.str "/", .str ""]) = some (.bool (!startB s)) := by simp [dNotIn, in_start, dNot1]
        by_cases hst : startB s = true
        · by_cases hps : ∃ ps, y = .tuple ps
          · obtain ⟨ps, rfl⟩ := hps
            have lc : lcLoop (.nm 3) cYes (cCall F_is_part [.nm 3]) [some (.val (.tuple [.str s, .tuple ps])), some (.val (.str s)), some (.val (.tuple ps)), none] ps = some (ps.map fun d => .bool (isPartB d)) := by
              refine lc_map (fun d => .bool (isPartB d)) ps fun d hd => ⟨[some (.val (.tuple [.str s, .tuple ps])), some (.val (.str s)), some (.val (.tuple ps)), some (.val d)], by simp [setT, notOwn], ?_⟩
              rw [call1 (d := d) rfl, part_ok (nd_tuple hy d hd)]
            have al : dAll [.list (ps.map fun d => .bool (isPartB d))] = some (.bool (ps.all isPartB)) := by
              simp [dAll, bools_map]
            have ne := ne_tnil hy
            have eqs : dEq (.str s) (.str "/") = some (.bool (s == "/")) := by simp [dEq, nd, PyData.depth, PyData.eqv]
            have le : dLe (.int (ps.length : Int)) (.int 12) = some (.bool (decide (ps.length ≤ 12))) := by
              have : decide ((ps.length : Int) ≤ 12) = decide (ps.length ≤ 12) := by
                apply decide_eq_decide.mpr; omega
              simp only [dLe, this]
            by_cases hall : ps.all isPartB = true
            · rw [hall] at al
              by_cases hl : ps.length ≤ 12
              · by_cases hr : (s == "/") = true
                · simp [cSeq, cIfS, cOrT, cNotT, cT, cUn, cVar, cOp, cFn, cArgs, cD, cTup, cLc, cIt, itemsOf, eb, pu, asB, dIsi, dLen, cRet, cNx, nin, hst, lc, notOwn, wipeR, al, hall, cAnd, cOr, le, hl, eqs, hr, isPathB]
                · simp [cSeq, cIfS, cOrT, cNotT, cT, cUn, cVar, cOp, cFn, cArgs, cD, cTup, cLc, cIt, itemsOf, eb, pu, asB, dIsi, dLen, cRet, cNx, nin, hst, lc, notOwn, wipeR, al, hall, cAnd, cOr, le, hl, eqs, hr, isPathB, ne]
              · simp [cSeq, cIfS, cOrT, cNotT, cT, cUn, cVar, cOp, cFn, cArgs, cD, cTup, cLc, cIt, itemsOf, eb, pu, asB, dIsi, dLen, cRet, cNx, nin, hst, lc, notOwn, wipeR, al, hall, cAnd, cOr, le, hl, eqs, isPathB, ne]
            · have hall : ps.all isPartB = false := by simpa using hall
              rw [hall] at al
              simp [cSeq, cIfS, cOrT, cNotT, cT, cUn, cVar, cOp, cFn, cArgs, cD, cTup, cLc, cIt, itemsOf, eb, pu, asB, dIsi, dLen, cRet, cNx, nin, hst, lc, notOwn, wipeR, al, isPathB, hall]
          · cases y with
            | tuple ps => exact absurd ⟨ps, rfl⟩ hps
            | dict l => simp [nd] at hy
            | _ => simp [cSeq, cIfS, cOrT, cNotT, cT, cUn, cVar, cOp, cArgs, cD, cTup, eb, pu, asB, dIsi, cRet, nin, hst, isPathB]
        · have hst : startB s = false := by simpa using hst
          cases y with
          | tuple ps => simp [cSeq, cIfS, cOrT, cNotT, cT, cUn, cVar, cOp, cArgs, cD, cTup, eb, pu, asB, dIsi, cRet, nin, hst, isPathB]
          | _ => simp [cSeq, cIfS, cOrT, cNotT, cT, cUn, cVar, cOp, cArgs, cD, cTup, eb, pu, asB, dIsi, cRet, nin, hst, isPathB]
      · cases x with
        | str s => exact absurd ⟨s, rfl⟩ hs
        | dict l => simp [nd] at hx
        | _ => simp [cSeq, cIfS, cOrT, cNotT, cT, cUn, cVar, cOp, cFn, cArgs, cD, eb, pu, asB, dIsi, dLen, dNe, nd, PyData.eqv, PyData.depth, cRet, ix, isPathB]
  | _ => simp [cSeq, cIfS, cOrT, cNotT, cT, cUn, cVar, eb, pu, asB, dIsi, cRet, isPathB, cD]
end Law

namespace Law
open PySem PySem.Spec PyProof.Rows L2 Den
open TL (tl)
/-! ### texts cut at '/' -/
def sg : List Nat → List Nat → List (List Nat)
  | acc, [] => [acc]
  | acc, c :: r => if c = 47 then acc :: sg [] r else sg (acc ++ [c]) r
def sgf (l : List Nat) : List (List Nat) := (sg [] l).filter fun x => !x.isEmpty
theorem spl_sg : ∀ (l acc : List Nat), TL.spl [47] 0 acc l = sg acc l
  | [], acc => rfl
  | c :: r, acc => by
    unfold TL.spl sg TL.pre
    by_cases h : c = 47
    · subst h
      simp [spl_sg r []]
    · simp [h, spl_sg r (acc ++ [c])]
theorem split_sg (t : Str) : (Txt.split t "/").map tl = sg [] (tl t) := by
  rw [TL.split_spl t "/" (by decide) (TL.kind_ok (by decide +kernel)), ← spl_sg]
  rfl
theorem sg_free : ∀ (a acc : List Nat), 47 ∉ a → sg acc a = [acc ++ a]
  | [], acc, _ => by simp [sg]
  | c :: r, acc, h => by
    have h1 : c ≠ 47 := fun e => h (by simp [e])
    unfold sg
    rw [if_neg h1, sg_free r _ fun m => h (by simp [m])]
    simp
theorem sg_cut : ∀ (a b acc : List Nat), sg acc (a ++ 47 :: b) = sg acc a ++ sg [] b
  | [], b, acc => by simp [sg]
  | c :: r, b, acc => by
    show sg acc (c :: (r ++ 47 :: b)) = _
    have e : ∀ (x : List Nat), sg acc (c :: x) = if c = 47 then acc :: sg [] x else sg (acc ++ [c]) x := fun x => by rw [sg]
    rw [e, e]
    by_cases h : c = 47
    · rw [if_pos h, if_pos h, sg_cut r b []]; rfl
    · rw [if_neg h, if_neg h, sg_cut r b (acc ++ [c])]
theorem sgf_cut (a b : List Nat) : sgf (a ++ 47 :: b) = sgf a ++ sgf b := by
  unfold sgf
  rw [sg_cut, List.filter_append]
theorem sgf_nil : sgf [] = [] := rfl
theorem sgf_cons (b : List Nat) : sgf (47 :: b) = sgf b := by
  have := sgf_cut [] b
  rw [sgf_nil] at this
  simpa using this
theorem sgf_one {a : List Nat} (h : 47 ∉ a) (hn : a ≠ []) : sgf a = [a] := by
  unfold sgf
  rw [sg_free a [] h]
  simp [hn]
def Plain (ls : List (List Nat)) : Prop := ∀ l ∈ ls, 47 ∉ l ∧ l ≠ []
theorem sgf_join : ∀ {ls : List (List Nat)}, Plain ls → sgf (TL.joinL [47] ls) = ls
  | [], _ => rfl
  | [p], h => by
    show sgf p = _
    exact sgf_one (h p (by simp)).1 (h p (by simp)).2
  | p :: q :: r, h => by
    show sgf (p ++ ([47] ++ TL.joinL [47] (q :: r))) = _
    have e : p ++ ([47] ++ TL.joinL [47] (q :: r)) = p ++ 47 :: TL.joinL [47] (q :: r) := rfl
    rw [e, sgf_cut, sgf_one (h p (by simp)).1 (h p (by simp)).2, sgf_join fun l hl => h l (List.mem_cons_of_mem _ hl)]
    rfl
theorem sgf_join2 : ∀ {ls : List (List Nat)}, Plain ls → sgf (TL.joinL [47, 47] ls) = ls
  | [], _ => rfl
  | [p], h => by
    show sgf p = _
    exact sgf_one (h p (by simp)).1 (h p (by simp)).2
  | p :: q :: r, h => by
    show sgf (p ++ ([47, 47] ++ TL.joinL [47, 47] (q :: r))) = _
    have e : p ++ ([47, 47] ++ TL.joinL [47, 47] (q :: r)) = p ++ 47 :: 47 :: TL.joinL [47, 47] (q :: r) := rfl
    rw [e, sgf_cut, sgf_cons, sgf_one (h p (by simp)).1 (h p (by simp)).2, sgf_join2 fun l hl => h l (List.mem_cons_of_mem _ hl)]
    rfl
theorem sg_len : ∀ (l acc : List Nat), (sg acc l).length ≤ l.length + 1
  | [], acc => by simp [sg]
  | c :: r, acc => by
    unfold sg
    split
    · have := sg_len r []; simp; omega
    · have := sg_len r (acc ++ [c]); simp; omega
/-- the parts of a text -/
def ps (t : Str) : List Str := (Txt.split t "/").filter fun p => !(p == "")
theorem tl_empty {p : Str} : (p == "") = (tl p).isEmpty := by
  cases h : (tl p).isEmpty with
  | true =>
    have : tl p = [] := by simpa using h
    have e : p = "" := TL.ext_tl (by rw [this]; rfl)
    simp [e]
  | false =>
    cases h2 : p == "" with
    | false => rfl
    | true =>
      have e : p = "" := eq_of_beq h2
      rw [e] at h
      cases h
theorem ps_tl (t : Str) : (ps t).map tl = sgf (tl t) := by
  unfold ps sgf
  rw [← split_sg, List.filter_map]
  congr 1
  refine List.filter_congr fun p _ => ?_
  simp only [Function.comp, tl_empty]
theorem ps_len (t : Str) : (ps t).length ≤ t.length + 1 := by
  have h1 : (ps t).length ≤ (Txt.split t "/").length := List.length_filter_le _ _
  have h2 : (Txt.split t "/").length = (sg [] (tl t)).length := by rw [← split_sg, List.length_map]
  have h3 := sg_len (tl t) []
  have h4 := TL.len_tl t
  omega
/-! ### the first and the last sign -/
def headS (t : Str) : Bool := decide ((tl t).head? = some 47)
def lastS (t : Str) : Bool := decide ((tl t).getLast? = some 47)
theorem eq_tl {a b : Str} : (a == b) = decide (tl a = tl b) := by
  cases h : a == b with
  | true => rw [eq_of_beq h]; simp
  | false =>
    have : a ≠ b := by simpa using h
    have h2 : tl a ≠ tl b := fun e => this (TL.ext_tl e)
    simp [h2]
theorem slash_tl : tl "/" = [47] := by decide +kernel
theorem cut_head (t : Str) : (cutS t none (some 1) == ("/" : Str)) = headS t := by
  rw [eq_tl, slash_tl]
  unfold headS cutS
  have e : tl (⟨((t.cps.toList.drop (HT.sIx t.length 0 none)).take (HT.sIx t.length t.length (some 1) - HT.sIx t.length 0 none)).toArray⟩ : Str) = (tl t).take (min 1 t.length) := by
    rw [TL.tl_mk]
    simp [HT.sIx]
  rw [e, TL.len_tl]
  cases tl t with
  | nil => simp
  | cons a r => simp
theorem cut_last (t : Str) : (cutS t (some (-1)) none == ("/" : Str)) = lastS t := by
  rw [eq_tl, slash_tl]
  unfold lastS cutS
  have e : tl (⟨((t.cps.toList.drop (HT.sIx t.length 0 (some (-1)))).take (HT.sIx t.length t.length none - HT.sIx t.length 0 (some (-1)))).toArray⟩ : Str) = (tl t).drop ((tl t).length - 1) := by
    rw [TL.tl_mk]
    have h1 : HT.sIx t.length 0 (some (-1)) = (tl t).length - 1 := by
      have := TL.len_tl t
      simp only [HT.sIx]
      rw [if_pos (by omega)]
      omega
    rw [h1]
    apply List.take_of_length_le
    have h2 : t.length = t.cps.toList.length := TL.len_tl t
    show (List.drop ((tl t).length - 1) t.cps.toList).length ≤ t.length - ((tl t).length - 1)
    rw [List.length_drop]
    omega
  rw [e]
  rcases List.eq_nil_or_concat (tl t) with h | ⟨r, a, h⟩
  · simp [h]
  · rw [h]; simp
end Law

namespace Law
open PySem PySem.Spec PyProof.Rows L2 Den
open TL (tl)
def mkP (s : Str) (p : List Str) : D := .tuple [.str s, .tuple (p.map .str)]
theorem nd_strs (p : List Str) : ndAll (p.map .str) = true := nd_all fun d hd => by
  obtain ⟨x, _, rfl⟩ := List.mem_map.mp hd
  simp [nd]
theorem nd_mkP (s : Str) (p : List Str) : nd (mkP s p) = true := by simp [mkP, nd, ndAll, nd_strs]
def partS (x : Str) : Bool := isPartB (.str x)
theorem path_mkP (s : Str) (p : List Str) : isPathB (mkP s p) = (startB s && p.all partS && decide (p.length ≤ 12) && (s == "/" || !p.isEmpty)) := by
  have : (p.map PyData.str).all isPartB = p.all partS := by rw [List.all_map]; rfl
  simp [mkP, isPathB, this]
theorem ne_lnil (l : List Str) : dNe (.list (l.map .str)) (.list []) = some (.bool (!l.isEmpty)) := by
  have m : min (PyData.depth (.list (l.map .str))) (PyData.depth (.list [])) ≤ 64 := by simp [PyData.depth, PyData.depthAll]
  have e : PyData.eqv (.list (l.map .str)) (.list []) = l.isEmpty := by cases l <;> simp [PyData.eqv, PyData.eqvAll]
  simp [dNe, nd, ndAll, nd_strs, m, e]
theorem eq_str (a b : Str) : dEq (.str a) (.str b) = some (.bool (a == b)) := by simp [dEq, nd, PyData.depth, PyData.eqv]
theorem ne_str (a b : Str) : dNe (.str a) (.str b) = some (.bool (!(a == b))) := by simp [dNe, nd, PyData.depth, PyData.eqv]
/-- what parse_path makes of a text -/
def prs (t : Str) : D := mkP (if headS t then "/" else "") (if lastS t && !(ps t).isEmpty then ps t ++ [Str.ofString "."] else ps t)
theorem parse_eq (t : Str) (h : t.length ≤ 1000) : F_parse_path [.str t] = if isPathB (prs t) then some (.ok (prs t)) else some (.error "ParseError") := by
  unfold F_parse_path runB G_parse_path
  rw [i1]
  simp only [List.replicate]
  have e1 : cIfS (cNotT (cT (cUn (dIsi "str") (cVar false 0)))) (cRaise "ParseError") (cNx) [some (.val (.str t)), none, none, none, none] = some (.nx [some (.val (.str t)), none, none, none, none]) := by
    simp [cIfS, cNotT, cT, cUn, cVar, eb, pu, asB, dIsi, cNx]
  rw [seq_nx e1]
  have e2 : cSet false 1 (cIf (cT (cOp dEq (cSl (cVar false 0) none (some (cD (.int 1)))) (cD (.str "/")))) (cD (.str "/")) (cD (.str ""))) [some (.val (.str t)), none, none, none, none] = some (.nx [some (.val (.str t)), some (.val (.str (if headS t then "/" else ""))), none, none, none]) := by
    have := cut_head t
    cases hh : headS t <;> rw [hh] at this <;> simp [cSet, cIf, cT, cOp, cSl, cPart, cVar, cD, eb, pu, dSl, eq_str, this, asB, put]
  rw [seq_nx e2]
  have e3 : cSet true 2 (cLc (cIt (cMtO dSplit (cVar false 0) [cD (.str "/")])) [3] (.nm 3) (cT (cOp dNe (cVar false 3) (cD (.str "")))) (cVar true 3)) [some (.val (.str t)), some (.val (.str (if headS t then "/" else ""))), none, none, none] = some (.nx [some (.val (.str t)), some (.val (.str (if headS t then "/" else ""))), some (.own (.list ((ps t).map .str))), none, none]) := by
    have lc : lcLoop (.nm 3) (cT (cOp dNe (cVar false 3) (cD (.str "")))) (cVar true 3) [some (.val (.str t)), some (.val (.str (if headS t then "/" else ""))), none, none, none] ((Txt.split t "/").map .str) = some ((ps t).map .str) := by
      rw [lc_filter (fun d => match d with | .str x => !(x == "") | _ => false) id]
      · rw [List.map_id, List.filter_map]
        rfl
      · intro d hd
        obtain ⟨x, _, rfl⟩ := List.mem_map.mp hd
        refine ⟨[some (.val (.str t)), some (.val (.str (if headS t then "/" else ""))), none, some (.val (.str x)), none], by simp [setT, notOwn], ?_, fun _ => by simp [cVar]⟩
        simp [cT, cOp, cVar, cD, eb, pu, ne_str, asB]
    have hs : dSplit (.str t) [.str "/"] = some (.list ((Txt.split t "/").map .str)) := by
      have h1 : (("/" : Str).length == 0) = false := by decide +kernel
      have h2 : t.length + 2 ≤ sizeLine := by rw [sizeLine_eq]; omega
      simp [dSplit, h1, h2]
    simp only [cSet, cLc, cIt, cMtO, cMt, okE, cVar, cArgs, cD, eb, pu, List.getElem?_cons_zero, Bool.false_eq_true, if_false, hs, Option.map_some, itemsOf]
    simp [notOwn, wipeR, lc, put, isMut]
  rw [seq_nx e3]
  have e4 : cIfS (cAndT (cT (cOp dEq (cSl (cVar false 0) (some (cUn dNeg (cD (.int 1)))) none) (cD (.str "/")))) (cT (cOp dNe (cVar false 2) (cLst [])))) (cMut 2 mAppend [cD (.str ".")]) (cNx) [some (.val (.str t)), some (.val (.str (if headS t then "/" else ""))), some (.own (.list ((ps t).map .str))), none, none] =
      some (.nx [some (.val (.str t)), some (.val (.str (if headS t then "/" else ""))), some (.own (.list ((if lastS t && !(ps t).isEmpty then ps t ++ [Str.ofString "."] else ps t).map .str))), none, none]) := by
    have hl := cut_last t
    have hn := ne_lnil (ps t)
    have hlen : (ps t).length < sizeLine := by have := ps_len t; rw [sizeLine_eq]; omega
    cases h1 : lastS t <;> rw [h1] at hl
    · simp [cIfS, cAndT, cT, cOp, cSl, cPart, cUn, cVar, cD, eb, pu, dNeg, dSl, eq_str, hl, asB, cNx]
    · cases h2 : (ps t).isEmpty <;> rw [h2] at hn
      · simp [cIfS, cAndT, cT, cOp, cSl, cPart, cUn, cVar, cD, cLst, cArgs, eb, pu, dNeg, dSl, eq_str, hl, hn, asB, cMut, mAppend, hlen]
      · simp [cIfS, cAndT, cT, cOp, cSl, cPart, cUn, cVar, cD, cLst, cArgs, eb, pu, dNeg, dSl, eq_str, hl, hn, asB, cNx]
  rw [seq_nx e4]
  generalize hq : (if lastS t && !(ps t).isEmpty then ps t ++ [Str.ofString "."] else ps t) = q
  generalize hs : (if headS t then ("/" : Str) else "") = s
  have e5 : cSet false 4 (cTup [cVar true 1, cFn dTuple [cVar false 2]]) [some (.val (.str t)), some (.val (.str s)), some (.own (.list (q.map .str))), none, none] = some (.nx [some (.val (.str t)), some (.val (.str s)), some (.own (.list (q.map .str))), none, some (.val (mkP s q))]) := by
    simp [cSet, cTup, cArgs, cVar, cFn, eb, pu, dTuple, put, mkP]
  rw [seq_nx e5]
  have ep : prs t = mkP s q := by unfold prs; rw [hq, hs]
  rw [ep]
  have ec : cCall F_is_path [.nm 4] [some (.val (.str t)), some (.val (.str s)), some (.own (.list (q.map .str))), none, some (.val (mkP s q))] = some (.ok (.bool (isPathB (mkP s q)))) := by
    rw [call1 (d := mkP s q) rfl, path_ok (nd_mkP s q)]
  cases hp : isPathB (mkP s q) <;> rw [hp] at ec
  · simp [cSeq, cIfS, cNotT, cT, ec, eb, asB, cRaise]
  · simp [cSeq, cIfS, cNotT, cT, ec, eb, asB, cNx, cRet, cVar]
theorem check_eq {d : D} (hd : nd d = true) (hp : isPathB d = true) : F_check_path [d] = some (.ok .none) := by
  unfold F_check_path runB G_check_path
  rw [i1]
  have ec : cCall F_is_path [.nm 0] [some (.val d)] = some (.ok (.bool true)) := by rw [call1 (d := d) rfl, path_ok hd, hp]
  simp [cIfS, cNotT, cT, ec, eb, asB, cNx]
theorem ix0 (s : Str) (p : List Str) : dIx (mkP s p) (.int 0) = some (.str s) := by simp [mkP, dIx, L2.atI, L2.ixN]
theorem ix1 (s : Str) (p : List Str) : dIx (mkP s p) (.int 1) = some (.tuple (p.map .str)) := by simp [mkP, dIx, L2.atI, L2.ixN]
theorem strs_of (p : List Str) : strsOf (p.map .str) = some p := by
  induction p with
  | nil => rfl
  | cons a r ih => simp [strsOf, ih]
theorem format_eq {s : Str} {p : List Str} (hp : isPathB (mkP s p) = true) (hj : joinSz "/" p = true) (hl : s.length + (Txt.join "/" p).length ≤ sizeLine) : F_format_path [mkP s p] = some (.ok (.str (s ++ Txt.join "/" p))) := by
  unfold F_format_path runB G_format_path
  rw [i1]
  simp only [List.replicate]
  have ec : cCall F_check_path [.nm 0] [some (.val (mkP s p))] = some (.ok .none) := by rw [call1 (d := mkP s p) rfl, check_eq (nd_mkP s p) hp]
  have e1 : cExpr (cCall F_check_path [.nm 0]) [some (.val (mkP s p))] = some (.nx [some (.val (mkP s p))]) := by simp [cExpr, ec]
  rw [seq_nx e1]
  have hd : dJoin (.str "/") [.tuple (p.map .str)] = some (.str (Txt.join "/" p)) := by simp [dJoin, strs_of, hj]
  simp [cRet, cOp, cVar, cD, eb, pu, ix0, ix1, cMtO, cMt, okE, cArgs, hd, dAdd, hl]
theorem call2 {F : Fn} {ρ : Rho} {i j : Nat} {d e : D} (h : ρ[i]? = some (some (.val d))) (h2 : ρ[j]? = some (some (.val e))) : cCall F [.nm i, .nm j] ρ = F [d, e] := by
  simp [cCall, cArgs, Ar.at, cVar, h, h2, eb]
theorem join_eq {s s2 : Str} {p p2 : List Str} (hp : isPathB (mkP s p) = true) (hp2 : isPathB (mkP s2 p2) = true) (hl : p.length + p2.length ≤ 12) : F_join [mkP s p, mkP s2 p2] = some (.ok (if s2 == "/" then mkP s2 p2 else mkP s (p ++ p2))) := by
  unfold F_join runB G_join
  rw [i2]
  simp only [List.replicate]
  have ec : cCall F_check_path [.nm 0] [some (.val (mkP s p)), some (.val (mkP s2 p2))] = some (.ok .none) := by rw [call1 (d := mkP s p) rfl, check_eq (nd_mkP s p) hp]
  have ec2 : cCall F_check_path [.nm 1] [some (.val (mkP s p)), some (.val (mkP s2 p2))] = some (.ok .none) := by rw [call1 (d := mkP s2 p2) rfl, check_eq (nd_mkP s2 p2) hp2]
  have e1 : cExpr (cCall F_check_path [.nm 0]) [some (.val (mkP s p)), some (.val (mkP s2 p2))] = some (.nx [some (.val (mkP s p)), some (.val (mkP s2 p2))]) := by simp [cExpr, ec]
  have e2 : cExpr (cCall F_check_path [.nm 1]) [some (.val (mkP s p)), some (.val (mkP s2 p2))] = some (.nx [some (.val (mkP s p)), some (.val (mkP s2 p2))]) := by simp [cExpr, ec2]
  rw [seq_nx e1, seq_nx e2]
  have hg : ¬ (12 : Int) < (p.length : Int) + (p2.length : Int) := by omega
  have hz : p.length + p2.length ≤ sizeLine := by rw [sizeLine_eq]; omega
  cases h : s2 == ("/" : Str)
  · simp [cSeq, cIfS, cT, cOp, cVar, cD, eb, pu, ix0, ix1, eq_str, h, asB, cNx, cFn, cArgs, dLen, dAdd, dGt, hg, cRet, cTup, hz]
    simp [mkP]
  · simp [cSeq, cIfS, cT, cOp, cVar, cD, eb, pu, ix0, ix1, eq_str, h, asB, cRet]
end Law

namespace Law
open PySem PySem.Spec PyProof.Rows L2 Den
open TL (tl)
theorem callA {F : Fn} {as : List Ar} {ρ : Rho} {ds : List D} (h : cArgs (as.map (Ar.at true)) ρ = some (.ok ds)) : cCall F as ρ = F ds := by simp [cCall, h]
def wordsL : List Str := [Str.ofString "a", Str.ofString "b", Str.ofString "..", Str.ofString "z", Str.ofString "k", Str.ofString "..", Str.ofString ".", Str.ofString "a", Str.ofString "b"]
theorem strs_ex {W : List Str} : ∀ {ys : List D}, (∀ y ∈ ys, ∃ x ∈ W, y = .str x) → ∃ p : List Str, ys = p.map .str ∧ ∀ x ∈ p, x ∈ W
  | [], _ => ⟨[], rfl, by simp⟩
  | y :: r, h => by
    obtain ⟨x, hx, rfl⟩ := h y List.mem_cons_self
    obtain ⟨p, rfl, hp⟩ := strs_ex fun z hz => h z (List.mem_cons_of_mem _ hz)
    exact ⟨x :: p, rfl, by simpa using ⟨hx, hp⟩⟩
/-- the paths that the law draws -/
def Good (s : Str) (p : List Str) : Prop := (∀ x ∈ p, x ∈ wordsL) ∧ p.length ≤ 6 ∧ (s = Str.ofString "/" ∨ (s = Str.ofString "" ∧ p ≠ []))
theorem drawn_path (ns : List Int) (hn : ns.length ≤ 63) (place most : Int) (h0 : 0 ≤ place) (h1 : place ≤ 100) (h2 : 0 < most) (h3 : most ≤ 6) : ∃ s p, F__law_path [.list (ns.map .int), .int place, .int most] = some (.ok (mkP s p)) ∧ Good s p := by
  unfold F__law_path runB G__law_path
  rw [i3]
  simp only [List.replicate]
  let S : Option Sl := some (.val (.list (ns.map .int)))
  let P : Option Sl := some (.val (.int place))
  let M : Option Sl := some (.val (.int most))
  obtain ⟨r, hr, hr0, hr1⟩ := pick_ok ns hn place most h0 (by omega) h2
  have e1 : cSet true 3 (cOp dAdd (cCall F__law_pick [.nm 0, .nm 1, .nm 2]) (cD (.int 1))) [S, P, M, none, none, none, none] = some (.nx [S, P, M, some (.val (.int (r + 1))), none, none, none]) := by
    have : cCall F__law_pick [.nm 0, .nm 1, .nm 2] [S, P, M, none, none, none, none] = some (.ok (.int r)) := by
      rw [callA (ds := [.list (ns.map .int), .int place, .int most]) (by simp [cArgs, Ar.at, cVar, eb, S, P, M]), hr]
    simp [cSet, cOp, this, cD, eb, pu, dAdd, put, isMut]
  rw [seq_nx e1]
  let Wd : Option Sl := some (.val (.tuple (wordsL.map .str)))
  have e2 : cSet false 4 (cTup [cD (.str "a"), cD (.str "b"), cD (.str ".."), cD (.str "z"), cD (.str "k"), cD (.str ".."), cD (.str "."), cD (.str "a"), cD (.str "b")]) [S, P, M, some (.val (.int (r + 1))), none, none, none] = some (.nx [S, P, M, some (.val (.int (r + 1))), Wd, none, none]) := by
    simp [cSet, cTup, cArgs, cD, eb, put, Wd, wordsL]
  rw [seq_nx e2]
  have hex : ∃ p : List Str, lcLoop (.nm 6) cYes (cOp dIx (cVar false 4) (cCall F__law_pick [.nm 0, .ex (cOp dAdd (cOp dAdd (cVar false 1) (cD (.int 1))) (cVar false 6)), .ex (cD (.int 9))])) [S, P, M, some (.val (.int (r + 1))), Wd, none, none] (rngD 0 (r + 1).toNat) = some (p.map .str) ∧ p.length = (r + 1).toNat ∧ ∀ x ∈ p, x ∈ wordsL := by
    obtain ⟨out, o1, o2, o3⟩ := lc_ex (t := .nm 6) (fe := cOp dIx (cVar false 4) (cCall F__law_pick [.nm 0, .ex (cOp dAdd (cOp dAdd (cVar false 1) (cD (.int 1))) (cVar false 6)), .ex (cD (.int 9))])) (ρ := [S, P, M, some (.val (.int (r + 1))), Wd, none, none]) (fun y => ∃ x ∈ wordsL, y = .str x) (rngD 0 (r + 1).toNat) fun d hd => by
      obtain ⟨i, hi, rfl⟩ := List.mem_map.mp hd
      have hi : i < (r + 1).toNat := by simpa using hi
      obtain ⟨v, hv, hv0, hv1⟩ := pick_ok ns hn (place + 1 + (0 + (i : Nat))) 9 (by omega) (by omega) (by decide)
      obtain ⟨z, hz, hz2⟩ := atI_in (l := wordsL.map PyData.str) (i := v) hv0 (by simpa [wordsL] using hv1)
      obtain ⟨x, hx, rfl⟩ := List.mem_map.mp hz2
      refine ⟨[S, P, M, some (.val (.int (r + 1))), Wd, none, some (.val (.int (0 + (i : Nat))))], .str x, by simp [setT, notOwn], ?_, x, hx, rfl⟩
      have : cCall F__law_pick [.nm 0, .ex (cOp dAdd (cOp dAdd (cVar false 1) (cD (.int 1))) (cVar false 6)), .ex (cD (.int 9))] [S, P, M, some (.val (.int (r + 1))), Wd, none, some (.val (.int (0 + (i : Nat))))] = some (.ok (.int v)) := by
        rw [callA (ds := [.list (ns.map .int), .int (place + 1 + (0 + (i : Nat))), .int 9]) (by simp [cArgs, Ar.at, cVar, cOp, cD, pu, dAdd, eb, S, P, M]), hv]
      simp only [cOp, this, cVar, eb, pu, List.getElem?_cons_zero, List.getElem?_cons_succ, Wd, Bool.false_eq_true, if_false, dIx, hz, Option.map_some]
    obtain ⟨p, rfl, hp⟩ := strs_ex o3
    refine ⟨p, o1, ?_, hp⟩
    simpa [rngD] using o2
  obtain ⟨p, hlc, hpl, hpw⟩ := hex
  have e3 : cSet false 5 (cFn dTuple [cLc (cRange1 [cVar false 3]) [6] (.nm 6) (cYes) (cOp dIx (cVar false 4) (cCall F__law_pick [.nm 0, .ex (cOp dAdd (cOp dAdd (cVar false 1) (cD (.int 1))) (cVar false 6)), .ex (cD (.int 9))]))]) [S, P, M, some (.val (.int (r + 1))), Wd, none, none] = some (.nx [S, P, M, some (.val (.int (r + 1))), Wd, some (.val (.tuple (p.map .str))), none]) := by
    have b1 : (-(2 ^ 62) : Int) ≤ r + 1 := by omega
    have b2 : r + 1 < (2 ^ 62 : Int) := by omega
    have b3 : (r + 1).toNat ≤ sizeLine := by rw [sizeLine_eq]; omega
    have hrg : dRange1 [.int (r + 1)] = some (.ok (rngD 0 (r + 1).toNat)) := by
      simp only [dRange1]
      rw [if_pos (by simp only [Bool.and_eq_true, decide_eq_true_eq]; exact ⟨⟨b1, b2⟩, b3⟩)]
    have hl : cLc (cRange1 [cVar false 3]) [6] (.nm 6) (cYes) (cOp dIx (cVar false 4) (cCall F__law_pick [.nm 0, .ex (cOp dAdd (cOp dAdd (cVar false 1) (cD (.int 1))) (cVar false 6)), .ex (cD (.int 9))])) [S, P, M, some (.val (.int (r + 1))), Wd, none, none] = some (.ok (.list (p.map .str))) := by
      simp only [cLc, cRange1, cArgs, cVar, eb, List.getElem?_cons_zero, List.getElem?_cons_succ, Bool.false_eq_true, if_false, hrg]
      simp [notOwn, wipeR, hlc]
    simp [cSet, cFn, cArgs, hl, eb, pu, dTuple, put]
  rw [seq_nx e3]
  obtain ⟨v, hv, hv0, hv1⟩ := pick_ok ns hn (place + 15) 4 (by omega) (by omega) (by decide)
  have hc : cCall F__law_pick [.nm 0, .ex (cOp dAdd (cVar false 1) (cD (.int 15))), .ex (cD (.int 4))] [S, P, M, some (.val (.int (r + 1))), Wd, some (.val (.tuple (p.map .str))), none] = some (.ok (.int v)) := by
    rw [callA (ds := [.list (ns.map .int), .int (place + 15), .int 4]) (by simp [cArgs, Ar.at, cVar, cOp, cD, pu, dAdd, eb, S, P, M]), hv]
  have heq : dEq (.int v) (.int 0) = some (.bool (v == 0)) := by simp [dEq, nd, PyData.depth, PyData.eqv]
  have hcut : dSl (.tuple (p.map .str)) (some 1) none = some (.tuple ((p.drop 1).map .str)) := by
    have : cutL (p.map PyData.str) (some 1) none = (p.drop 1).map PyData.str := by
      unfold cutL
      have h1 : HT.sIx (p.map PyData.str).length 0 (some 1) = min 1 p.length := by simp [HT.sIx]
      have h2 : HT.sIx (p.map PyData.str).length (p.map PyData.str).length none = p.length := by simp [HT.sIx]
      rw [h1, h2]
      cases p with
      | nil => rfl
      | cons a q =>
        have h9 : min 1 (a :: q).length = 1 := by simp
        rw [h9]
        show ((q.map PyData.str).take ((a :: q).length - 1)) = q.map PyData.str
        exact List.take_of_length_le (by simp)
    simp [dSl, this]
  cases hz : v == 0
  · refine ⟨Str.ofString "", p, ?_, hpw, by omega, .inr ⟨rfl, ?_⟩⟩
    · simp [cRet, cIf, cT, cOp, hc, cD, eb, pu, heq, hz, asB, cTup, cArgs, cVar, mkP]
    · intro e
      rw [e] at hpl
      simp at hpl
      omega
  · refine ⟨Str.ofString "/", p.drop 1, ?_, fun x hx => hpw x (List.mem_of_mem_drop hx), by simp; omega, .inl rfl⟩
    simp [cRet, cIf, cT, cOp, hc, cD, eb, pu, heq, hz, asB, cTup, cArgs, cVar, mkP, cSl, cPart, hcut]
end Law

namespace Law
open PySem PySem.Spec PyProof.Rows L2 Den
open TL (tl)
abbrev os (x : String) : D := .str (Str.ofString x)
def valL : List D := [.none, .int 0, .bool true, os "", os "dir", .tuple [], .list [], .tuple [os "a"], os "a/b", .tuple [os "", .tuple []], .tuple [.tuple [os "a"]], .tuple [.tuple [.tuple [os "a"], os "dir"]], .tuple [os "/", .list [os "a"]], .tuple [os "", .tuple [.int 1]]]
theorem value_ok (ns : List Int) (hn : ns.length ≤ 63) : ∃ v ∈ valL, F__law_value [.list (ns.map .int), .int 90] = some (.ok v) := by
  unfold F__law_value runB G__law_value
  rw [i2]
  simp only [List.replicate]
  obtain ⟨r, hr, hr0, hr1⟩ := pick_ok ns hn 90 14 (by decide) (by decide) (by decide)
  obtain ⟨z, hz, hz2⟩ := atI_in (l := valL) (i := r) hr0 (by simpa [valL] using hr1)
  refine ⟨z, hz2, ?_⟩
  let S : Option Sl := some (.val (.list (ns.map .int)))
  let P : Option Sl := some (.val (.int 90))
  have e1 : cSet true 2 (cLst [cD (.none), cD (.int 0), cD (.bool true), cD (.str ""), cD (.str "dir"), cTup [], cLst [], cTup [cD (.str "a")], cD (.str "a/b"), cTup [cD (.str ""), cTup []], cTup [cTup [cD (.str "a")]]]) [S, P, none] = some (.nx [S, P, some (.own (.list (valL.take 11)))]) := by
    simp [cSet, cLst, cTup, cArgs, cD, eb, put, isMut, valL]
  rw [seq_nx e1]
  have e2 : cMut 2 mExtend [cLst [cTup [cTup [cTup [cD (.str "a")], cD (.str "dir")]], cTup [cD (.str "/"), cLst [cD (.str "a")]], cTup [cD (.str ""), cTup [cD (.int 1)]]]] [S, P, some (.own (.list (valL.take 11)))] = some (.nx [S, P, some (.own (.list valL))]) := by
    have : (11 : Nat) + 3 ≤ sizeLine := by decide
    simp [cMut, cLst, cTup, cArgs, cD, eb, mExtend, valL, this]
  rw [seq_nx e2]
  have hc : cCall F__law_pick [.nm 0, .nm 1, .ex (cD (.int 14))] [S, P, some (.own (.list valL))] = some (.ok (.int r)) := by
    rw [callA (ds := [.list (ns.map .int), .int 90, .int 14]) (by simp [cArgs, Ar.at, cVar, cD, eb, S, P]), hr]
  simp only [cRet, cOp, hc, cVar, eb, pu, List.getElem?_cons_zero, List.getElem?_cons_succ, Bool.false_eq_true, if_false, dIx, hz, Option.map_some]
theorem val_bad : ∀ v ∈ valL, nd v = true ∧ isPathB v = false := by
  intro v hv
  simp only [valL, List.mem_cons, List.not_mem_nil, or_false] at hv
  rcases hv with rfl | rfl | rfl | rfl | rfl | rfl | rfl | rfl | rfl | rfl | rfl | rfl | rfl | rfl <;> exact ⟨by decide +kernel, by decide +kernel⟩
/-! ### judged -/
def badL (s : Str) (q : List D) (v : D) : List D := [.tuple [.str (s ++ Str.ofString "a"), .tuple q], .tuple [.str s, .list q], .tuple [.str s, .tuple (q ++ [os "abcd"])], .tuple [.str s, .tuple (q ++ [os ""])],
  .tuple [.str s, .tuple (q ++ [os "A"])], .tuple [.str s, .tuple (q ++ [os "..."])], .tuple [.str s, .tuple (q ++ [.int 1])], .tuple [.str s, .tuple q, .int 1],
  .list [.str s, .tuple q], .tuple [os "", .tuple []], .tuple [.str s, .tuple (List.replicate 13 (os "a"))], .tuple [.bool true, .tuple q], v]
def goodL (s : Str) (q : List D) : List D := [.tuple [os "/", .tuple []], .tuple [os "/", .tuple (List.replicate 12 (os "a"))], .tuple [.str s, .tuple (q ++ [os "abc"])], .tuple [.str s, .tuple (os ".." :: q)], .tuple [os "", .tuple [os ".", os "."]]]
theorem words_part : ∀ x ∈ wordsL, partS x = true := by
  intro x hx
  simp only [wordsL, List.mem_cons, List.not_mem_nil, or_false] at hx
  rcases hx with rfl | rfl | rfl | rfl | rfl | rfl | rfl | rfl | rfl <;> decide +kernel
theorem Good.start {s : Str} {p : List Str} (g : Good s p) : s = Str.ofString "/" ∨ s = Str.ofString "" := g.2.2.imp id fun h => h.1
theorem Good.all {s : Str} {p : List Str} (g : Good s p) : p.all partS = true := by
  rw [List.all_eq_true]
  exact fun x hx => words_part x (g.1 x hx)
theorem Good.startB {s : Str} {p : List Str} (g : Good s p) : startB s = true := by
  rcases g.start with rfl | rfl <;> decide +kernel
theorem Good.path {s : Str} {p : List Str} (g : Good s p) : isPathB (mkP s p) = true := by
  rw [path_mkP, g.startB, g.all]
  have h1 : decide (p.length ≤ 12) = true := by have := g.2.1; simp; omega
  rw [h1]
  rcases g.2.2 with rfl | ⟨_, h⟩
  · simp
  · simp [h]
theorem part_no : isPartB (os "abcd") = false ∧ isPartB (os "") = false ∧ isPartB (os "A") = false ∧ isPartB (os "...") = false ∧ isPartB (.int 1) = false := by
  refine ⟨?_, ?_, ?_, ?_, rfl⟩ <;> decide +kernel
theorem bad_all {s : Str} {p : List Str} (g : Good s p) {v : D} (hv : nd v = true ∧ isPathB v = false) : ∀ x ∈ badL s (p.map .str) v, nd x = true ∧ isPathB x = false := by
  have hq := nd_strs p
  obtain ⟨n1, n2, n3, n4, n5⟩ := part_no
  have hs : startB (s ++ Str.ofString "a") = false := by rcases g.start with rfl | rfl <;> decide +kernel
  have app : ∀ x : D, nd x = true → ndAll (p.map .str ++ [x]) = true := fun x hx => nd_all fun d hd => by
    rcases List.mem_append.mp hd with h | h
    · exact nd_tuple (l := p.map .str) (by simpa [nd] using hq) d h
    · rw [List.mem_singleton.mp h]; exact hx
  have appS : ∀ x : String, ndAll (p.map .str ++ [os x]) = true := fun x => app _ (by simp [nd])
  have appI : ndAll (p.map .str ++ [.int 1]) = true := app _ (by simp [nd])
  intro x hx
  simp only [badL, List.mem_cons, List.not_mem_nil, or_false] at hx
  rcases hx with rfl | rfl | rfl | rfl | rfl | rfl | rfl | rfl | rfl | rfl | rfl | rfl | rfl
  · exact ⟨by simp [nd, ndAll, hq], by simp [isPathB, hs]⟩
  · exact ⟨by simp [nd, ndAll, hq], by simp [isPathB]⟩
  · exact ⟨by simp [nd, ndAll, appS, appI], by simp [isPathB, n1]⟩
  · exact ⟨by simp [nd, ndAll, appS, appI], by simp [isPathB, n2]⟩
  · exact ⟨by simp [nd, ndAll, appS, appI], by simp [isPathB, n3]⟩
  · exact ⟨by simp [nd, ndAll, appS, appI], by simp [isPathB, n4]⟩
  · exact ⟨by simp [nd, ndAll, appS, appI], by simp [isPathB, n5]⟩
  · exact ⟨by simp [nd, ndAll, hq], by simp [isPathB]⟩
  · exact ⟨by simp [nd, ndAll, hq], by simp [isPathB]⟩
  · exact ⟨by decide +kernel, by decide +kernel⟩
  · exact ⟨by simp [nd, ndAll, List.replicate], by simp [isPathB]⟩
  · exact ⟨by simp [nd, ndAll, hq], by simp [isPathB]⟩
  · exact hv
theorem good_all {s : Str} {p : List Str} (g : Good s p) : ∀ x ∈ goodL s (p.map .str), nd x = true ∧ isPathB x = true := by
  have e1 : ∀ x ∈ goodL s (p.map .str), ∃ s' p', x = mkP s' p' ∧ startB s' = true ∧ p'.all partS = true ∧ p'.length ≤ 12 ∧ (s' = Str.ofString "/" ∨ p' ≠ []) := by
    intro x hx
    simp only [goodL, List.mem_cons, List.not_mem_nil, or_false] at hx
    have ga := g.all
    have gl := g.2.1
    rcases hx with rfl | rfl | rfl | rfl | rfl
    · exact ⟨Str.ofString "/", [], rfl, by decide +kernel, rfl, by decide, .inl rfl⟩
    · exact ⟨Str.ofString "/", List.replicate 12 (Str.ofString "a"), by simp [mkP], by decide +kernel, by decide +kernel, by simp, .inl rfl⟩
    · refine ⟨s, p ++ [Str.ofString "abc"], by simp [mkP], g.startB, ?_, by simp; omega, .inr (by simp)⟩
      rw [List.all_append, ga]
      decide +kernel
    · refine ⟨s, Str.ofString ".." :: p, by simp [mkP], g.startB, ?_, by simp; omega, .inr (by simp)⟩
      rw [List.all_cons, ga]
      decide +kernel
    · exact ⟨Str.ofString "", [Str.ofString ".", Str.ofString "."], rfl, by decide +kernel, by decide +kernel, by decide, .inr (by simp)⟩
  intro x hx
  obtain ⟨s', p', rfl, h1, h2, h3, h4⟩ := e1 x hx
  refine ⟨nd_mkP s' p', ?_⟩
  rw [path_mkP, h1, h2]
  rcases h4 with rfl | h4
  · simp [h3]
  · simp [h3, h4]
theorem judged_ok (ns : List Int) (hn : ns.length ≤ 63) {s : Str} {p : List Str} (g : Good s p) : F__law_judged [.list (ns.map .int), mkP s p] = some (.ok (.bool true)) := by
  obtain ⟨v, hv1, hv2⟩ := value_ok ns hn
  have hv := val_bad v hv1
  unfold F__law_judged runB G__law_judged
  rw [i2]
  simp only [List.replicate]
  let S : Option Sl := some (.val (.list (ns.map .int)))
  let O : Option Sl := some (.val (mkP s p))
  let A : Option Sl := some (.val (.str s))
  let q : List D := p.map .str
  let Q : Option Sl := some (.val (.tuple q))
  have ql : q.length ≤ 6 := by have := g.2.1; simpa [q] using this
  have sl : s.length ≤ 1 := by rcases g.start with rfl | rfl <;> decide +kernel
  have sz := sizeLine_eq
  have hA : dAdd (.str s) (.str "a") = some (.str (s ++ Str.ofString "a")) := by
    have : s.length + (Str.ofString "a").length ≤ sizeLine := by rw [show (Str.ofString "a").length = 1 by decide +kernel]; omega
    simp [dAdd, this]
  have hT : ∀ x : D, dAdd (.tuple q) (.tuple [x]) = some (.tuple (q ++ [x])) := fun x => by
    have : q.length + 1 ≤ sizeLine := by omega
    simp [dAdd, this]
  have hU : dAdd (.tuple [.str ".."]) (.tuple q) = some (.tuple (os ".." :: q)) := by
    have : 1 + q.length ≤ sizeLine := by omega
    simp [dAdd, this]
  have hM : dMul (.tuple [.str "a"]) (.int 13) = some (.tuple (List.replicate 13 (os "a"))) := by kernel_rfl
  have hM2 : dMul (.tuple [.str "a"]) (.int 12) = some (.tuple (List.replicate 12 (os "a"))) := by kernel_rfl
  have e1 : cUnp [2, 3] (cVar true 1) [S, O, none, none, none, none, none] = some (.nx [S, O, A, Q, none, none, none]) := by
    simp [cUnp, cVar, putV, O, A, Q, mkP, q]
  rw [seq_nx e1]
  have e2 : cSet true 4 (cLst [cTup [cOp dAdd (cVar false 2) (cD (.str "a")), cVar true 3], cTup [cVar true 2, cFn dList [cVar false 3]], cTup [cVar true 2, cOp dAdd (cVar false 3) (cTup [cD (.str "abcd")])], cTup [cVar true 2, cOp dAdd (cVar false 3) (cTup [cD (.str "")])]]) [S, O, A, Q, none, none, none] = some (.nx [S, O, A, Q, some (.own (.list ((badL s q v).take 4))), none, none]) := by
    simp [cSet, cLst, cTup, cArgs, cOp, cVar, cFn, cD, eb, pu, A, Q, hA, hT, dList, put, isMut, badL]
  rw [seq_nx e2]
  have e3 : cMut 4 mExtend [cLst [cTup [cVar true 2, cOp dAdd (cVar false 3) (cTup [cD (.str "A")])], cTup [cVar true 2, cOp dAdd (cVar false 3) (cTup [cD (.str "...")])], cTup [cVar true 2, cOp dAdd (cVar false 3) (cTup [cD (.int 1)])], cTup [cVar true 2, cVar true 3, cD (.int 1)]]] [S, O, A, Q, some (.own (.list ((badL s q v).take 4))), none, none] = some (.nx [S, O, A, Q, some (.own (.list ((badL s q v).take 8))), none, none]) := by
    have : (4 : Nat) + 4 ≤ sizeLine := by decide
    simp [cMut, cLst, cTup, cArgs, cOp, cVar, cD, eb, pu, A, Q, hT, mExtend, badL, this]
  rw [seq_nx e3]
  have hcv : cCall F__law_value [.nm 0, .ex (cD (.int 90))] [S, O, A, Q, some (.own (.list ((badL s q v).take 8))), none, none] = some (.ok v) := by
    rw [callA (ds := [.list (ns.map .int), .int 90]) (by simp [cArgs, Ar.at, cVar, cD, eb, S]), hv2]
  have e4 : cMut 4 mExtend [cLst [cLst [cVar true 2, cVar true 3], cTup [cD (.str ""), cTup []], cTup [cVar true 2, cOp dMul (cTup [cD (.str "a")]) (cD (.int 13))], cTup [cD (.bool true), cVar true 3], cCall F__law_value [.nm 0, .ex (cD (.int 90))]]] [S, O, A, Q, some (.own (.list ((badL s q v).take 8))), none, none] = some (.nx [S, O, A, Q, some (.own (.list (badL s q v))), none, none]) := by
    have : (8 : Nat) + 5 ≤ sizeLine := by decide
    simp only [cMut, cLst, cArgs, hcv]
    simp [cLst, cTup, cArgs, cOp, cVar, cD, eb, pu, A, Q, hM, mExtend, badL, this]
  rw [seq_nx e4]
  have e5 : cSet true 5 (cLst [cTup [cD (.str "/"), cTup []], cTup [cD (.str "/"), cOp dMul (cTup [cD (.str "a")]) (cD (.int 12))], cTup [cVar true 2, cOp dAdd (cVar false 3) (cTup [cD (.str "abc")])], cTup [cVar true 2, cOp dAdd (cTup [cD (.str "..")]) (cVar false 3)], cTup [cD (.str ""), cTup [cD (.str "."), cD (.str ".")]]]) [S, O, A, Q, some (.own (.list (badL s q v))), none, none] = some (.nx [S, O, A, Q, some (.own (.list (badL s q v))), some (.own (.list (goodL s q))), none]) := by
    simp [cSet, cLst, cTup, cArgs, cOp, cVar, cD, eb, pu, A, Q, hM2, hT, hU, put, isMut, goodL]
  rw [seq_nx e5]
  have lg : lcLoop (.nm 6) cYes (cOp dIsNot (cCall F_is_path [.nm 6]) (cD (.bool true))) [S, O, A, Q, some (.own (.list (badL s q v))), some (.own (.list (goodL s q))), none] (goodL s q) = some ((goodL s q).map fun _ => .bool false) := by
    refine lc_map (fun _ => .bool false) _ fun d hd => ⟨[S, O, A, Q, some (.own (.list (badL s q v))), some (.own (.list (goodL s q))), some (.val d)], by simp [setT, notOwn], ?_⟩
    obtain ⟨h1, h2⟩ := good_all g d hd
    have hc : cCall F_is_path [.nm 6] [S, O, A, Q, some (.own (.list (badL s q v))), some (.own (.list (goodL s q))), some (.val d)] = some (.ok (.bool true)) := by rw [call1 (d := d) rfl, path_ok h1, h2]
    simp [cOp, hc, cD, eb, pu, dIsNot, dIs, dNot1]
  have an : dAny [.list ((goodL s q).map fun _ => .bool false)] = some (.bool false) := by
    have := bools_map (fun _ : D => false) (goodL s q)
    simp [dAny, this]
  have e6 : cIfS (cT (cFn dAny [cLc (cIt (cVar false 5)) [6] (.nm 6) (cYes) (cOp dIsNot (cCall F_is_path [.nm 6]) (cD (.bool true)))])) (cRet (cD (.bool false))) (cNx) [S, O, A, Q, some (.own (.list (badL s q v))), some (.own (.list (goodL s q))), none] = some (.nx [S, O, A, Q, some (.own (.list (badL s q v))), some (.own (.list (goodL s q))), none]) := by
    simp only [cIfS, cT, cFn, cArgs, cLc, cIt, cVar, eb, itemsOf, List.getElem?_cons_zero, List.getElem?_cons_succ, Bool.false_eq_true, if_false, List.all_cons, List.all_nil, notOwn, Bool.and_true, if_true, wipeR, List.set_cons_zero, List.set_cons_succ, lg]
    simp only [pu, an, Option.map_some, asB, if_false, cNx, Bool.false_eq_true]
  rw [seq_nx e6]
  let ex : List D := [.tuple [os "/", .tuple []], .tuple [os "", .tuple [os "a"]]]
  have lb : lcLoop (.nm 6) (cT (cOp dNotIn (cVar false 6) (cTup [cTup [cD (.str "/"), cTup []], cTup [cD (.str ""), cTup [cD (.str "a")]]]))) (cOp dIs (cCall F_is_path [.nm 6]) (cD (.bool false))) [S, O, A, Q, some (.own (.list (badL s q v))), some (.own (.list (goodL s q))), none] (badL s q v) = some (((badL s q v).filter fun d => !(ex.any fun y => PyData.eqv y d)).map fun _ => .bool true) := by
    refine lc_filter (fun d => !(ex.any fun y => PyData.eqv y d)) (fun _ => .bool true) _ fun d hd => ⟨[S, O, A, Q, some (.own (.list (badL s q v))), some (.own (.list (goodL s q))), some (.val d)], by simp [setT, notOwn], ?_, fun _ => ?_⟩
    · obtain ⟨h1, h2⟩ := bad_all g hv d hd
      have m : min (PyData.depthAll ex) d.depth ≤ 64 := Nat.le_trans (Nat.min_le_left _ _) (by decide +kernel)
      have hex : ndAll ex = true := by decide +kernel
      have hin : dNotIn d (.tuple ex) = some (.bool (!(ex.any fun y => PyData.eqv y d))) := by
        simp only [dNotIn, dIn, h1, hex, m, decide_true, Bool.and_self, if_true, dNot1]
      simp only [cT, cOp, cVar, cTup, cArgs, cD, eb, List.getElem?_cons_zero, List.getElem?_cons_succ]
      show eb (pu (dNotIn d (.tuple ex))) asB = _
      rw [hin]
      rfl
    · obtain ⟨h1, h2⟩ := bad_all g hv d hd
      have hc : cCall F_is_path [.nm 6] [S, O, A, Q, some (.own (.list (badL s q v))), some (.own (.list (goodL s q))), some (.val d)] = some (.ok (.bool false)) := by rw [call1 (d := d) rfl, path_ok h1, h2]
      simp [cOp, hc, cD, eb, pu, dIs]
  have al : ∀ l : List D, dAll [.list (l.map fun _ => .bool true)] = some (.bool true) := fun l => by
    have := bools_map (fun _ : D => true) l
    simp [dAll, this]
  simp only [cRet, cFn, cArgs, cLc, cIt, cVar, eb, itemsOf, List.getElem?_cons_zero, List.getElem?_cons_succ, Bool.false_eq_true, if_false, List.all_cons, List.all_nil, notOwn, Bool.and_true, if_true, wipeR, List.set_cons_zero, List.set_cons_succ, lb]
  simp only [pu, al, Option.map_some]
end Law

namespace Law
open PySem PySem.Spec PyProof.Rows L2 Den
open TL (tl)
def mkS (l : List Nat) : Str := ⟨l.toArray⟩
theorem tl_mkS (l : List Nat) : tl (mkS l) = l := rfl
theorem mkS_tl (x : Str) : mkS (tl x) = x := TL.mk_tl x
theorem len_mkS (l : List Nat) : (mkS l).length = l.length := by rw [TL.len_tl]; rfl
theorem mkS_app (l : List Nat) (k : Nat) : mkS l ++ (⟨#[k]⟩ : Str) = mkS (l ++ [k]) := TL.ext_tl (by rw [TL.tl_append]; rfl)
theorem mkS_nil (l : List Nat) : (mkS l == Str.ofString "") = l.isEmpty := by rw [tl_empty]; rfl
def chr (k : Nat) : D := .str ⟨#[k]⟩
def rdBody : Sd := cIfS (cT (cOp dEq (cVar false 3) (cD (.str "/")))) (cSeq (cMut 1 mExtend [cIf (cT (cOp dNe (cVar false 2) (cD (.str "")))) (cLst [cVar true 2]) (cLst [])]) <| cSet false 2 (cD (.str ""))) (cSet true 2 (cOp dAdd (cVar false 2) (cVar false 3)))
def R (w x : List Nat) : List Str := ((sg w x).filter fun l => !l.isEmpty).map mkS
theorem chr_slash (k : Nat) : dEq (chr k) (.str (Str.ofString "/")) = some (.bool (decide (k = 47))) := by
  unfold chr
  rw [eq_str, eq_tl, slash_tl]
  have : tl (⟨#[k]⟩ : Str) = [k] := rfl
  rw [this]
  by_cases h : k = 47 <;> simp [h]
theorem rd_flush (T x4 x5 x6 x7 x3 : Option Sl) (P : List Str) (w : List Nat) (hP : P.length < 1000) :
    forLoop.setV (.nm 3) [T, some (.own (.list (P.map .str))), some (.val (.str (mkS w))), x3, x4, x5, x6, x7] (chr 47) = some [T, some (.own (.list (P.map .str))), some (.val (.str (mkS w))), some (.val (chr 47)), x4, x5, x6, x7] ∧
    rdBody [T, some (.own (.list (P.map .str))), some (.val (.str (mkS w))), some (.val (chr 47)), x4, x5, x6, x7] = some (.nx [T, some (.own (.list ((P ++ (if w.isEmpty then [] else [mkS w])).map .str))), some (.val (.str (mkS []))), some (.val (chr 47)), x4, x5, x6, x7]) := by
  refine ⟨rfl, ?_⟩
  have h1 := chr_slash 47
  have sz := sizeLine_eq
  have h2 : P.length + 1 ≤ sizeLine := by omega
  have h3 : P.length ≤ sizeLine := by omega
  have e0 : (Str.ofString "") = mkS [] := by rfl
  have hn : dNe (.str (mkS w)) (.str (mkS [])) = some (.bool (!w.isEmpty)) := by rw [← e0, ne_str, mkS_nil]
  cases hw : w.isEmpty <;> rw [hw] at hn
  · simp [rdBody, cIfS, cT, cOp, cVar, cD, eb, pu, h1, asB, cSeq, cMut, cArgs, cIf, hn, cLst, mExtend, h2, cSet, put, e0]
  · simp [rdBody, cIfS, cT, cOp, cVar, cD, eb, pu, h1, asB, cSeq, cMut, cArgs, cIf, hn, cLst, mExtend, h3, cSet, put, e0]
theorem rd_loop (T x4 x5 x6 x7 : Option Sl) : ∀ (x : List Nat) (P : List Str) (w : List Nat) (x3 : Option Sl), P.length + x.length < 900 → w.length + x.length < 900 →
    forLoop (.nm 3) rdBody ((x ++ [47]).map chr) [T, some (.own (.list (P.map .str))), some (.val (.str (mkS w))), x3, x4, x5, x6, x7] = some (.nx [T, some (.own (.list ((P ++ R w x).map .str))), some (.val (.str (mkS []))), some (.val (chr 47)), x4, x5, x6, x7])
  | [], P, w, x3, h1, h2 => by
    obtain ⟨f1, f2⟩ := rd_flush T x4 x5 x6 x7 x3 P w (by simp at h1; omega)
    show forLoop (.nm 3) rdBody [chr 47] _ = _
    unfold forLoop
    rw [f1]
    dsimp only
    rw [f2]
    dsimp only
    unfold forLoop
    have : R w [] = if w.isEmpty then [] else [mkS w] := by
      unfold R sg
      cases w <;> simp
    rw [this]
  | k :: x, P, w, x3, h1, h2 => by
    simp only [List.length_cons] at h1 h2
    show forLoop (.nm 3) rdBody (chr k :: (x ++ [47]).map chr) _ = _
    by_cases hk : k = 47
    · subst hk
      obtain ⟨f1, f2⟩ := rd_flush T x4 x5 x6 x7 x3 P w (by omega)
      unfold forLoop
      rw [f1]
      dsimp only
      rw [f2]
      dsimp only
      rw [rd_loop T x4 x5 x6 x7 x _ [] _ (by split <;> simp <;> omega) (by simp; omega)]
      have : R w (47 :: x) = (if w.isEmpty then [] else [mkS w]) ++ R [] x := by
        unfold R
        rw [sg, if_pos rfl]
        cases w <;> simp
      rw [this, List.append_assoc]
    · have f1 : forLoop.setV (.nm 3) [T, some (.own (.list (P.map .str))), some (.val (.str (mkS w))), x3, x4, x5, x6, x7] (chr k) = some [T, some (.own (.list (P.map .str))), some (.val (.str (mkS w))), some (.val (chr k)), x4, x5, x6, x7] := rfl
      have f2 : rdBody [T, some (.own (.list (P.map .str))), some (.val (.str (mkS w))), some (.val (chr k)), x4, x5, x6, x7] = some (.nx [T, some (.own (.list (P.map .str))), some (.val (.str (mkS (w ++ [k])))), some (.val (chr k)), x4, x5, x6, x7]) := by
        have e1 := chr_slash k
        have sz := sizeLine_eq
        have hz : (mkS w).length + (⟨#[k]⟩ : Str).length ≤ sizeLine := by rw [len_mkS, show (⟨#[k]⟩ : Str).length = 1 from rfl]; omega
        have e2 : dAdd (.str (mkS w)) (chr k) = some (.str (mkS (w ++ [k]))) := by
          unfold chr
          simp [dAdd, hz, mkS_app]
        simp [rdBody, cIfS, cT, cOp, cVar, cD, eb, pu, e1, hk, asB, cSet, e2, put, isMut]
      unfold forLoop
      rw [f1]
      dsimp only
      rw [f2]
      dsimp only
      rw [rd_loop T x4 x5 x6 x7 x P (w ++ [k]) _ (by omega) (by simp; omega)]
      have : R w (k :: x) = R (w ++ [k]) x := by unfold R; rw [sg, if_neg hk]
      rw [this]
theorem R_ps (t : Str) : R [] (tl t) = ps t := by
  refine TL.map_tl_inj ?_
  rw [ps_tl]
  unfold R sgf
  rw [List.map_map]
  have : (tl ∘ mkS) = id := by funext l; rfl
  rw [this, List.map_id]
theorem signs_app (t : Str) : Den.signs (t ++ Str.ofString "/") = (tl t ++ [47]).map chr := by
  unfold Den.signs chr
  have : (t ++ Str.ofString "/").cps.toList = tl t ++ [47] := by
    show tl (t ++ Str.ofString "/") = _
    rw [TL.tl_append, slash_tl]
  rw [this]
end Law

namespace Law
open PySem PySem.Spec PyProof.Rows L2 Den
open TL (tl)
def dots (x : Str) : Bool := x == Str.ofString "." || x == Str.ofString ".."
def badN (x : Str) : Bool := decide (46 ∈ tl x) || decide (3 < x.length)
def rdQ (t : Str) : List Str := if lastS t && !(ps t).isEmpty then ps t ++ [Str.ofString "."] else ps t
def rdS (t : Str) : Str := if headS t then Str.ofString "/" else Str.ofString ""
def rdRes (t : Str) : D := if ((ps t).filter fun x => !dots x).any badN then .none else if (!(rdS t == Str.ofString "" && (rdQ t).isEmpty) && decide ((rdQ t).length ≤ 12)) then mkP (rdS t) (rdQ t) else .none
theorem in_dots (x : Str) : dIn (.str x) (.tuple [.str ".", .str ".."]) = some (.bool (dots x)) := by
  have m : min (PyData.depthAll [.str ".", .str ".."]) (PyData.depth (.str x)) ≤ 64 := by simp [PyData.depth]
  have a1 : ((Str.ofString ".") == x) = (x == ".") := by rw [Bool.beq_comm]
  have a2 : ((Str.ofString "..") == x) = (x == "..") := by rw [Bool.beq_comm]
  simp [dIn, nd, ndAll, m, PyData.eqv, a1, a2, dots]
theorem dot_in (x : Str) : dIn (.str ".") (.str x) = some (.bool (decide (46 ∈ tl x))) := by
  have : (Str.ofString ".").cps.toList = [46] := by decide +kernel
  simp only [dIn, this]
theorem G_read_eq : G__law_read = (cSeq (cPar2 true false 1 2 (cLst []) (cD (.str ""))) <|
  cSeq (cFor [] (cIt (cOp dAdd (cVar false 0) (cD (.str "/")))) (.nm 3) rdBody) <|
  cSeq (cSet true 4 (cLc (cIt (cVar false 1)) [5] (.nm 5) (cT (cOp dNotIn (cVar false 5) (cTup [cD (.str "."), cD (.str "..")]))) (cVar true 5))) <|
  cSeq (cIfS (cT (cFn dAny [cLc (cIt (cVar false 4)) [6] (.nm 6) (cYes) (cOr (cOp dIn (cD (.str ".")) (cVar false 6)) (cOp dGt (cFn dLen [cVar false 6]) (cD (.int 3))))])) (cRet (cD (.none))) (cNx)) <|
  cSeq (cIfS (cAndT (cT (cOp dEq (cSl (cVar false 0) (some (cUn dNeg (cD (.int 1)))) none) (cD (.str "/")))) (cT (cOp dNe (cVar false 1) (cLst [])))) (cMut 1 mAppend [cD (.str ".")]) (cNx)) <|
  cSeq (cSet false 7 (cTup [cIf (cT (cOp dEq (cSl (cVar false 0) none (some (cD (.int 1)))) (cD (.str "/")))) (cD (.str "/")) (cD (.str "")), cFn dTuple [cVar false 1]])) <|
  cRet (cIf (cAndT (cT (cOp dNe (cVar false 7) (cTup [cD (.str ""), cTup []]))) (cT (cOp dLe (cFn dLen [cVar false 1]) (cD (.int 12))))) (cVar false 7) (cD (.none)))) := rfl
theorem read_eq (t : Str) (h : t.length ≤ 100) : F__law_read [.str t] = some (.ok (rdRes t)) := by
  unfold F__law_read runB
  rw [G_read_eq, i1]
  simp only [List.replicate]
  have sz := sizeLine_eq
  let T : Option Sl := some (.val (.str t))
  have e0 : (Str.ofString "") = mkS [] := by rfl
  have e1 : cPar2 true false 1 2 (cLst []) (cD (.str "")) [T, none, none, none, none, none, none, none] = some (.nx [T, some (.own (.list (([] : List Str).map .str))), some (.val (.str (mkS []))), none, none, none, none, none]) := by
    simp [cPar2, cLst, cArgs, cD, eb, put, isMut, e0]
  rw [seq_nx e1]
  have e2 : cFor [] (cIt (cOp dAdd (cVar false 0) (cD (.str "/")))) (.nm 3) rdBody [T, some (.own (.list (([] : List Str).map .str))), some (.val (.str (mkS []))), none, none, none, none, none] = some (.nx [T, some (.own (.list ((ps t).map .str))), some (.val (.str (mkS []))), some (.val (chr 47)), none, none, none, none]) := by
    have hz : t.length + (Str.ofString "/").length ≤ sizeLine := by rw [show (Str.ofString "/").length = 1 by decide +kernel]; omega
    have ha : dAdd (.str t) (.str (Str.ofString "/")) = some (.str (t ++ Str.ofString "/")) := by simp [dAdd, hz]
    have hl := rd_loop T none none none none (tl t) [] [] none (by have := TL.len_tl t; simp only [List.length_nil]; omega) (by have := TL.len_tl t; simp only [List.length_nil]; omega)
    rw [List.nil_append, R_ps] at hl
    unfold cFor
    simp only [List.foldr_nil, cIt, cOp, cVar, cD, eb, pu, List.getElem?_cons_zero, T, Bool.false_eq_true, if_false, ha, Option.map_some, itemsOf, signs_app]
    exact hl
  rw [seq_nx e2]
  let qs : List Str := ps t
  let nm : List Str := qs.filter fun x => !dots x
  have l1 : lcLoop (.nm 5) (cT (cOp dNotIn (cVar false 5) (cTup [cD (.str "."), cD (.str "..")]))) (cVar true 5) [T, some (.own (.list (qs.map .str))), some (.val (.str (mkS []))), some (.val (chr 47)), none, none, none, none] (qs.map .str) = some (nm.map .str) := by
    rw [lc_filter (fun d => match d with | .str x => !dots x | _ => false) id]
    · rw [List.map_id, List.filter_map]
      rfl
    · intro d hd
      obtain ⟨x, _, rfl⟩ := List.mem_map.mp hd
      refine ⟨[T, some (.own (.list (qs.map .str))), some (.val (.str (mkS []))), some (.val (chr 47)), none, some (.val (.str x)), none, none], by simp [setT, notOwn], ?_, fun _ => by simp [cVar]⟩
      have := in_dots x
      simp [cT, cOp, cVar, cTup, cArgs, cD, eb, pu, dNotIn, this, dNot1, asB]
  have e3 : cSet true 4 (cLc (cIt (cVar false 1)) [5] (.nm 5) (cT (cOp dNotIn (cVar false 5) (cTup [cD (.str "."), cD (.str "..")]))) (cVar true 5)) [T, some (.own (.list (qs.map .str))), some (.val (.str (mkS []))), some (.val (chr 47)), none, none, none, none] = some (.nx [T, some (.own (.list (qs.map .str))), some (.val (.str (mkS []))), some (.val (chr 47)), some (.own (.list (nm.map .str))), none, none, none]) := by
    simp only [cSet, cLc, cIt, cVar, eb, itemsOf, List.getElem?_cons_zero, List.getElem?_cons_succ, Bool.false_eq_true, if_false, List.all_cons, List.all_nil, notOwn, Bool.and_true, if_true, wipeR, List.set_cons_zero, List.set_cons_succ, l1]
    simp [put, isMut]
  rw [seq_nx e3]
  have l2 : lcLoop (.nm 6) cYes (cOr (cOp dIn (cD (.str ".")) (cVar false 6)) (cOp dGt (cFn dLen [cVar false 6]) (cD (.int 3)))) [T, some (.own (.list (qs.map .str))), some (.val (.str (mkS []))), some (.val (chr 47)), some (.own (.list (nm.map .str))), none, none, none] (nm.map .str) = some ((nm.map PyData.str).map fun d => match d with | PyData.str x => PyData.bool (badN x) | _ => PyData.none) := by
    refine lc_map _ _ fun d hd => ?_
    obtain ⟨x, _, rfl⟩ := List.mem_map.mp hd
    refine ⟨[T, some (.own (.list (qs.map .str))), some (.val (.str (mkS []))), some (.val (chr 47)), some (.own (.list (nm.map .str))), none, some (.val (.str x)), none], by simp [setT, notOwn], ?_⟩
    have hd := dot_in x
    have hg : decide ((3 : Int) < (x.length : Int)) = decide (3 < x.length) := by apply decide_eq_decide.mpr; omega
    by_cases h46 : 46 ∈ tl x
    · simp [cOr, cOp, cVar, cD, eb, pu, hd, h46, badN]
    · simp [cOr, cOp, cVar, cD, cFn, cArgs, eb, pu, hd, h46, badN, dGt, dLen, hg]
  have an : dAny [.list ((nm.map PyData.str).map fun d => match d with | PyData.str x => PyData.bool (badN x) | _ => PyData.none)] = some (.bool (nm.any badN)) := by
    rw [List.map_map]
    have := bools_map badN nm
    have e : ((fun d => match d with | PyData.str x => PyData.bool (badN x) | _ => PyData.none) ∘ PyData.str) = fun x => PyData.bool (badN x) := rfl
    rw [e]
    simp [dAny, this]
  have c4 : cT (cFn dAny [cLc (cIt (cVar false 4)) [6] (.nm 6) (cYes) (cOr (cOp dIn (cD (.str ".")) (cVar false 6)) (cOp dGt (cFn dLen [cVar false 6]) (cD (.int 3))))]) [T, some (.own (.list (qs.map .str))), some (.val (.str (mkS []))), some (.val (chr 47)), some (.own (.list (nm.map .str))), none, none, none] = some (.ok (nm.any badN)) := by
    have hl : cLc (cIt (cVar false 4)) [6] (.nm 6) (cYes) (cOr (cOp dIn (cD (.str ".")) (cVar false 6)) (cOp dGt (cFn dLen [cVar false 6]) (cD (.int 3)))) [T, some (.own (.list (qs.map .str))), some (.val (.str (mkS []))), some (.val (chr 47)), some (.own (.list (nm.map .str))), none, none, none] = some (.ok (.list ((nm.map PyData.str).map fun d => match d with | PyData.str x => PyData.bool (badN x) | _ => PyData.none))) := by
      simp only [cLc, cIt, eb, List.all_cons, List.all_nil, notOwn, List.getElem?_cons_zero, List.getElem?_cons_succ, Bool.and_true, if_true, wipeR, List.set_cons_zero, List.set_cons_succ]
      simp only [cVar, List.getElem?_cons_zero, List.getElem?_cons_succ, Bool.false_eq_true, if_false, itemsOf]
      rw [l2]
    simp only [cT, cFn, cArgs, hl, eb, pu, an, Option.map_some, asB]
  cases hb : nm.any badN <;> rw [hb] at c4
  · have e4 : cIfS (cT (cFn dAny [cLc (cIt (cVar false 4)) [6] (.nm 6) (cYes) (cOr (cOp dIn (cD (.str ".")) (cVar false 6)) (cOp dGt (cFn dLen [cVar false 6]) (cD (.int 3))))])) (cRet (cD (.none))) (cNx) [T, some (.own (.list (qs.map .str))), some (.val (.str (mkS []))), some (.val (chr 47)), some (.own (.list (nm.map .str))), none, none, none] = some (.nx [T, some (.own (.list (qs.map .str))), some (.val (.str (mkS []))), some (.val (chr 47)), some (.own (.list (nm.map .str))), none, none, none]) := by
      simp only [cIfS, c4]
      rfl
    rw [seq_nx e4]
    have e5 : cIfS (cAndT (cT (cOp dEq (cSl (cVar false 0) (some (cUn dNeg (cD (.int 1)))) none) (cD (.str "/")))) (cT (cOp dNe (cVar false 1) (cLst [])))) (cMut 1 mAppend [cD (.str ".")]) (cNx) [T, some (.own (.list (qs.map .str))), some (.val (.str (mkS []))), some (.val (chr 47)), some (.own (.list (nm.map .str))), none, none, none] = some (.nx [T, some (.own (.list ((rdQ t).map .str))), some (.val (.str (mkS []))), some (.val (chr 47)), some (.own (.list (nm.map .str))), none, none, none]) := by
      have hl := cut_last t
      have hn := ne_lnil (ps t)
      have hlen : (ps t).length < sizeLine := by have := ps_len t; omega
      cases h1 : lastS t <;> rw [h1] at hl
      · simp [cIfS, cAndT, cT, cOp, cSl, cPart, cUn, cVar, cD, eb, pu, dNeg, dSl, eq_str, hl, asB, cNx, T, qs, rdQ, h1]
      · cases h2 : (ps t).isEmpty <;> rw [h2] at hn
        · simp [cIfS, cAndT, cT, cOp, cSl, cPart, cUn, cVar, cD, cLst, cArgs, eb, pu, dNeg, dSl, eq_str, hl, hn, asB, cMut, mAppend, hlen, T, qs, rdQ, h1, h2]
        · simp [cIfS, cAndT, cT, cOp, cSl, cPart, cUn, cVar, cD, cLst, cArgs, eb, pu, dNeg, dSl, eq_str, hl, hn, asB, cNx, T, qs, rdQ, h1, h2]
    rw [seq_nx e5]
    have e6 : cSet false 7 (cTup [cIf (cT (cOp dEq (cSl (cVar false 0) none (some (cD (.int 1)))) (cD (.str "/")))) (cD (.str "/")) (cD (.str "")), cFn dTuple [cVar false 1]]) [T, some (.own (.list ((rdQ t).map .str))), some (.val (.str (mkS []))), some (.val (chr 47)), some (.own (.list (nm.map .str))), none, none, none] = some (.nx [T, some (.own (.list ((rdQ t).map .str))), some (.val (.str (mkS []))), some (.val (chr 47)), some (.own (.list (nm.map .str))), none, none, some (.val (mkP (rdS t) (rdQ t)))]) := by
      have := cut_head t
      cases hh : headS t <;> rw [hh] at this <;> simp [cSet, cTup, cArgs, cFn, dTuple, cIf, cT, cOp, cSl, cPart, cVar, cD, eb, pu, dSl, eq_str, this, asB, put, T, rdS, hh, mkP]
    rw [seq_nx e6]
    have hne : dNe (mkP (rdS t) (rdQ t)) (.tuple [.str (Str.ofString ""), .tuple []]) = some (.bool (!(rdS t == Str.ofString "" && (rdQ t).isEmpty))) := by
      have m : min (PyData.depth (mkP (rdS t) (rdQ t))) (PyData.depth (.tuple [.str (Str.ofString ""), .tuple []])) ≤ 64 := Nat.le_trans (Nat.min_le_right _ _) (by decide +kernel)
      have e : PyData.eqv (mkP (rdS t) (rdQ t)) (.tuple [.str (Str.ofString ""), .tuple []]) = (rdS t == Str.ofString "" && (rdQ t).isEmpty) := by
        unfold mkP
        cases rdQ t <;> simp [PyData.eqv, PyData.eqvAll]
      have n2 : nd (.tuple [.str (Str.ofString ""), .tuple []]) = true := rfl
      simp only [dNe, nd_mkP, n2, m, decide_true, Bool.and_self, if_true, e]
    have hle : dLe (.int ((rdQ t).length : Int)) (.int 12) = some (.bool (decide ((rdQ t).length ≤ 12))) := by
      have : decide (((rdQ t).length : Int) ≤ 12) = decide ((rdQ t).length ≤ 12) := by apply decide_eq_decide.mpr; omega
      simp only [dLe, this]
    have hnm : ((ps t).filter fun x => !dots x).any badN = false := hb
    unfold rdRes
    rw [hnm]
    cases h1 : (!(rdS t == Str.ofString "" && (rdQ t).isEmpty)) <;> rw [h1] at hne
    · simp [cRet, cIf, cAndT, cT, cOp, cVar, cTup, cArgs, cD, eb, pu, hne, asB]
    · cases h2 : decide ((rdQ t).length ≤ 12) <;> rw [h2] at hle
      · simp [cRet, cIf, cAndT, cT, cOp, cVar, cTup, cArgs, cFn, dLen, cD, eb, pu, hne, hle, asB]
      · simp [cRet, cIf, cAndT, cT, cOp, cVar, cTup, cArgs, cFn, dLen, cD, eb, pu, hne, hle, asB]
  · have hnm : ((ps t).filter fun x => !dots x).any badN = true := hb
    unfold rdRes
    rw [hnm]
    have e4 : cIfS (cT (cFn dAny [cLc (cIt (cVar false 4)) [6] (.nm 6) (cYes) (cOr (cOp dIn (cD (.str ".")) (cVar false 6)) (cOp dGt (cFn dLen [cVar false 6]) (cD (.int 3))))])) (cRet (cD (.none))) (cNx) [T, some (.own (.list (qs.map .str))), some (.val (.str (mkS []))), some (.val (chr 47)), some (.own (.list (nm.map .str))), none, none, none] = some (.rt .none [T, some (.own (.list (qs.map .str))), some (.val (.str (mkS []))), some (.val (chr 47)), some (.own (.list (nm.map .str))), none, none, none]) := by
      simp only [cIfS, c4]
      rfl
    unfold cSeq
    rw [e4]
    rfl
end Law

namespace Law
open PySem PySem.Spec PyProof.Rows L2 Den
open TL (tl)
theorem gr_parse : GR (Str.ofString "ParseError") = some (.tuple [os "error", os "ParseError"]) := by kernel_rfl
theorem gr_known {y : Str} {d : D} (h : GR y = some d) : y = Str.ofString "ParseError" := by
  by_cases hy : y = Str.ofString "ParseError"
  · exact hy
  · exfalso
    have hb : (y == Str.ofString "ParseError") = false := by simpa using hy
    have hl : ISA.lookup y = none := by simp [ISA, List.lookup, hb]
    have hi : ∀ z, isaOf z y = none := fun z => by simp [isaOf, hl]
    have he : E__law_class y = none := by
      unfold E__law_class runX G__law_class
      simp [initX, List.replicate, cSeq, cSet, cLst, cArgs, cIsE, hi, eb]
    unfold GR runX G__law_result at h
    simp [initX, List.replicate, cRet, cTup, cArgs, cCallE, he, eb, cD] at h
/-! ### joined texts -/
theorem words_plain : ∀ x ∈ wordsL, 47 ∉ tl x ∧ tl x ≠ [] := by
  intro x hx
  simp only [wordsL, List.mem_cons, List.not_mem_nil, or_false] at hx
  rcases hx with rfl | rfl | rfl | rfl | rfl | rfl | rfl | rfl | rfl <;> decide +kernel
theorem words_len : ∀ x ∈ wordsL, x.length ≤ 2 := by
  intro x hx
  simp only [wordsL, List.mem_cons, List.not_mem_nil, or_false] at hx
  rcases hx with rfl | rfl | rfl | rfl | rfl | rfl | rfl | rfl | rfl <;> decide +kernel
theorem Good.plain {s : Str} {p : List Str} (g : Good s p) : Plain (p.map tl) := fun l hl => by
  obtain ⟨x, hx, rfl⟩ := List.mem_map.mp hl
  exact words_plain x (g.1 x hx)
theorem sum_len : ∀ {p : List Str}, (∀ x ∈ p, x.length ≤ 2) → (p.map (·.length)).sum ≤ 2 * p.length
  | [], _ => by simp
  | a :: r, h => by
    have h1 := h a (by simp)
    have h2 := sum_len fun x hx => h x (List.mem_cons_of_mem _ hx)
    simp only [List.map_cons, List.sum_cons, List.length_cons]
    omega
theorem joinL_head (S : List Nat) : ∀ {ls : List (List Nat)}, Plain ls → ls ≠ [] → ∃ c r, TL.joinL S ls = c :: r ∧ c ≠ 47
  | [], _, h => absurd rfl h
  | [p], h, _ => by
    obtain ⟨h1, h2⟩ := h p (by simp)
    cases p with
    | nil => exact absurd rfl h2
    | cons c r => exact ⟨c, r, rfl, fun e => h1 (by simp [e])⟩
  | p :: q :: r, h, _ => by
    obtain ⟨h1, h2⟩ := h p (by simp)
    cases p with
    | nil => exact absurd rfl h2
    | cons c r' => exact ⟨c, _, rfl, fun e => h1 (by simp [e])⟩
theorem joinL_last (S : List Nat) : ∀ {ls : List (List Nat)}, Plain ls → ls ≠ [] → ∃ r c, TL.joinL S ls = r ++ [c] ∧ c ≠ 47
  | [], _, h => absurd rfl h
  | [p], h, _ => by
    obtain ⟨h1, h2⟩ := h p (by simp)
    rcases List.eq_nil_or_concat p with e | ⟨r, c, e⟩
    · exact absurd e h2
    · rw [List.concat_eq_append] at e
      exact ⟨r, c, e, fun z => h1 (by rw [e, z]; simp)⟩
  | p :: q :: r, h, _ => by
    obtain ⟨r', c, e, hc⟩ := joinL_last S (ls := q :: r) (fun l hl => h l (List.mem_cons_of_mem _ hl)) (by simp)
    refine ⟨p ++ (S ++ r'), c, ?_, hc⟩
    show p ++ (S ++ TL.joinL S (q :: r)) = _
    rw [e]
    simp
theorem join_tl (y : Str) (p : List Str) : tl (Txt.join y p) = TL.joinL (tl y) (p.map tl) := by rw [TL.join_eq, TL.tl_join]
theorem slash2_tl : tl (Str.ofString "//") = [47, 47] := by decide +kernel
theorem headS_tl {t : Str} {l : List Nat} (h : tl t = l) : headS t = decide (l.head? = some 47) := by unfold headS; rw [h]
theorem lastS_tl {t : Str} {l : List Nat} (h : tl t = l) : lastS t = decide (l.getLast? = some 47) := by unfold lastS; rw [h]
theorem ps_of {t : Str} {p : List Str} (h : sgf (tl t) = p.map tl) : ps t = p := TL.map_tl_inj (by rw [ps_tl, h])
theorem prs_text {s : Str} {p : List Str} (g : Good s p) : prs (s ++ Txt.join (Str.ofString "/") p) = mkP s p := by
  have et : tl (s ++ Txt.join (Str.ofString "/") p) = tl s ++ TL.joinL [47] (p.map tl) := by rw [TL.tl_append, join_tl, slash_tl]
  have hps : ps (s ++ Txt.join (Str.ofString "/") p) = p := by
    refine ps_of ?_
    rw [et]
    rcases g.start with rfl | rfl
    · rw [slash_tl]
      show sgf (47 :: TL.joinL [47] (p.map tl)) = _
      rw [sgf_cons, sgf_join g.plain]
    · show sgf (TL.joinL [47] (p.map tl)) = _
      rw [sgf_join g.plain]
  have hh : (if headS (s ++ Txt.join (Str.ofString "/") p) then Str.ofString "/" else Str.ofString "") = s := by
    rw [headS_tl et]
    rcases g.2.2 with rfl | ⟨rfl, hp⟩
    · rw [slash_tl]; simp
    · obtain ⟨c, r, e, hc⟩ := joinL_head [47] g.plain (by simpa using hp)
      have : tl (Str.ofString "") = [] := rfl
      rw [this, List.nil_append, e]
      simp [hc]
  have hl : (lastS (s ++ Txt.join (Str.ofString "/") p) && !p.isEmpty) = false := by
    rw [lastS_tl et]
    by_cases hp : p = []
    · simp [hp]
    · obtain ⟨r, c, e, hc⟩ := joinL_last [47] g.plain (by simpa using hp)
      rw [e, ← List.append_assoc]
      simp [hc]
  unfold prs
  rw [hps, hh, hl]
  rfl
theorem prs_loose {s : Str} {p : List Str} (g : Good s p) (k : Nat) (hk : k = 1 ∨ k = 2) : prs (s ++ Txt.join (Str.ofString "//") p ++ repS (Str.ofString "/") k) = mkP s (p ++ if p.isEmpty then [] else [Str.ofString "."]) := by
  have er : ∃ m : List Nat, tl (repS (Str.ofString "/") k) = 47 :: m ∧ sgf m = [] ∧ (47 :: m).getLast? = some 47 := by
    rcases hk with rfl | rfl
    · exact ⟨[], by decide +kernel, rfl, rfl⟩
    · exact ⟨[47], by decide +kernel, rfl, rfl⟩
  obtain ⟨m, er, em, el⟩ := er
  have et : tl (s ++ Txt.join (Str.ofString "//") p ++ repS (Str.ofString "/") k) = tl s ++ (TL.joinL [47, 47] (p.map tl) ++ 47 :: m) := by rw [TL.tl_append, TL.tl_append, join_tl, slash2_tl, er, List.append_assoc]
  have hps : ps (s ++ Txt.join (Str.ofString "//") p ++ repS (Str.ofString "/") k) = p := by
    refine ps_of ?_
    rw [et]
    rcases g.start with rfl | rfl
    · rw [slash_tl]
      show sgf (47 :: (TL.joinL [47, 47] (p.map tl) ++ 47 :: m)) = _
      rw [sgf_cons, sgf_cut, sgf_join2 g.plain, em, List.append_nil]
    · show sgf (TL.joinL [47, 47] (p.map tl) ++ 47 :: m) = _
      rw [sgf_cut, sgf_join2 g.plain, em, List.append_nil]
  have hh : (if headS (s ++ Txt.join (Str.ofString "//") p ++ repS (Str.ofString "/") k) then Str.ofString "/" else Str.ofString "") = s := by
    rw [headS_tl et]
    rcases g.2.2 with rfl | ⟨rfl, hp⟩
    · rw [slash_tl]; simp
    · obtain ⟨c, r, e, hc⟩ := joinL_head [47, 47] g.plain (by simpa using hp)
      have : tl (Str.ofString "") = [] := rfl
      rw [this, List.nil_append, e]
      simp [hc]
  have hl : lastS (s ++ Txt.join (Str.ofString "//") p ++ repS (Str.ofString "/") k) = true := by
    rw [lastS_tl et, ← List.append_assoc, List.getLast?_append, el]
    simp
  unfold prs
  rw [hps, hh, hl]
  cases p <;> simp
end Law

namespace Law
open PySem PySem.Spec PyProof.Rows L2 Den
open TL (tl)
theorem sg_mem : ∀ (x acc l : List Nat), l ∈ sg acc x → 47 ∉ acc → ∀ c ∈ l, (c ∈ acc ∨ c ∈ x) ∧ c ≠ 47
  | [], acc, l, h, ha, c, hc => by
    rw [sg, List.mem_singleton] at h
    subst h
    exact ⟨.inl hc, fun e => ha (e ▸ hc)⟩
  | k :: r, acc, l, h, ha, c, hc => by
    rw [sg] at h
    split at h
    · rcases List.mem_cons.mp h with rfl | h
      · exact ⟨.inl hc, fun e => ha (e ▸ hc)⟩
      · obtain ⟨h1, h2⟩ := sg_mem r [] l h (by simp) c hc
        exact ⟨.inr (by rcases h1 with h1 | h1 <;> simp_all), h2⟩
    · rename_i hk
      obtain ⟨h1, h2⟩ := sg_mem r (acc ++ [k]) l h (by simp [ha]; exact fun e => hk e.symm) c hc
      refine ⟨?_, h2⟩
      rcases h1 with h1 | h1
      · rcases List.mem_append.mp h1 with h1 | h1
        · exact .inl h1
        · exact .inr (by simp at h1; simp [h1])
      · exact .inr (List.mem_cons_of_mem _ h1)
def Abc (l : List Nat) : Prop := ∀ c ∈ l, c = 97 ∨ c = 98 ∨ c = 46 ∨ c = 47
theorem ps_mem {t x : Str} (h : x ∈ ps t) : tl x ∈ sg [] (tl t) ∧ tl x ≠ [] := by
  have : tl x ∈ sgf (tl t) := by rw [← ps_tl]; exact List.mem_map_of_mem h
  unfold sgf at this
  rw [List.mem_filter] at this
  exact ⟨this.1, by simpa using this.2⟩
theorem part_eq {t x : Str} (ht : Abc (tl t)) (h : x ∈ ps t) : partS x = (!badN x || dots x) := by
  obtain ⟨h1, h2⟩ := ps_mem h
  have hc : ∀ c ∈ tl x, c = 97 ∨ c = 98 ∨ c = 46 := fun c hc => by
    obtain ⟨h3, h4⟩ := sg_mem (tl t) [] (tl x) h1 (by simp) c hc
    rcases h3 with h3 | h3
    · simp at h3
    · rcases ht c h3 with e | e | e | e
      · exact .inl e
      · exact .inr (.inl e)
      · exact .inr (.inr e)
      · exact absurd e h4
  have hl : 1 ≤ x.length := by rw [TL.len_tl]; exact List.length_pos_iff.mpr h2
  have hn : isNameB x = !badN x := by
    have e97 : (97 : Nat) ∈ lets := by decide +kernel
    have e98 : (98 : Nat) ∈ lets := by decide +kernel
    have e46 : (46 : Nat) ∉ lets := by decide +kernel
    have ha : ((tl x).all fun k => decide (k ∈ lets)) = !decide (46 ∈ tl x) := by
      by_cases h46 : 46 ∈ tl x
      · have : ((tl x).all fun k => decide (k ∈ lets)) = false := by
          rw [List.all_eq_false]
          exact ⟨46, h46, by simp [e46]⟩
        rw [this]; simp [h46]
      · have : ((tl x).all fun k => decide (k ∈ lets)) = true := by
          rw [List.all_eq_true]
          intro c hcx
          rcases hc c hcx with rfl | rfl | rfl
          · simp [e97]
          · simp [e98]
          · exact absurd hcx h46
        rw [this]; simp [h46]
    have e3 : decide (x.length ≤ 3) = !decide (3 < x.length) := by
      by_cases h3 : x.length ≤ 3
      · have : ¬ 3 < x.length := by omega
        simp [h3, this]
      · have : 3 < x.length := by omega
        simp [h3, this]
    unfold isNameB badN
    rw [show x.cps.toList = tl x from rfl, ha, e3]
    simp [hl, Bool.and_comm]
  show (isNameB x || x == Str.ofString "." || x == Str.ofString "..") = _
  rw [hn, Bool.or_assoc]
  rfl
theorem all_eq {t : Str} (ht : Abc (tl t)) : (ps t).all partS = !(((ps t).filter fun x => !dots x).any badN) := by
  have : ∀ l : List Str, (∀ x ∈ l, partS x = (!badN x || dots x)) → l.all partS = !((l.filter fun x => !dots x).any badN) := fun l => by
    induction l with
    | nil => intro _; rfl
    | cons a r ih =>
      intro h
      have ha := h a (by simp)
      have ihr := ih fun x hx => h x (List.mem_cons_of_mem _ hx)
      rw [List.all_cons, ha, ihr, List.filter_cons]
      cases hd : dots a <;> cases hb : badN a <;> simp [hb]
  exact this _ fun x hx => part_eq ht hx
theorem rd_iff {t : Str} (ht : Abc (tl t)) : rdRes t = if isPathB (prs t) then prs t else .none := by
  have ep : prs t = mkP (rdS t) (rdQ t) := rfl
  have hdot : partS (Str.ofString ".") = true := by decide +kernel
  have hall : (rdQ t).all partS = (ps t).all partS := by
    unfold rdQ
    split
    · rw [List.all_append]; simp [hdot]
    · rfl
  have hs : startB (rdS t) = true ∧ (rdS t == Str.ofString "/" || !(rdQ t).isEmpty) = !(rdS t == Str.ofString "" && (rdQ t).isEmpty) := by
    unfold rdS
    cases headS t
    · refine ⟨by decide +kernel, ?_⟩
      have a1 : (Str.ofString "" == Str.ofString "/") = false := by decide +kernel
      have a2 : (Str.ofString "" == Str.ofString "") = true := by decide +kernel
      simp only [Bool.false_eq_true, if_false, a1, a2]
      simp
    · refine ⟨by decide +kernel, ?_⟩
      have a1 : (Str.ofString "/" == Str.ofString "") = false := by decide +kernel
      have a2 : (Str.ofString "/" == Str.ofString "/") = true := by decide +kernel
      simp only [if_true, a1, a2]
      simp
  rw [ep, path_mkP, hall, all_eq ht, hs.1, hs.2]
  unfold rdRes
  cases ((ps t).filter fun x => !dots x).any badN <;> cases (!(rdS t == Str.ofString "" && (rdQ t).isEmpty)) <;> cases decide ((rdQ t).length ≤ 12) <;> simp
end Law

namespace Law
open PySem PySem.Spec PyProof.Rows L2 Den
open TL (tl)
theorem eqv_strs : ∀ p : List Str, PyData.eqvAll (p.map .str) (p.map .str) = true
  | [] => rfl
  | a :: r => by simp [PyData.eqvAll, PyData.eqv, eqv_strs r]
theorem eqv_mkP (s : Str) (p : List Str) : PyData.eqv (mkP s p) (mkP s p) = true := by simp [mkP, PyData.eqv, PyData.eqvAll, eqv_strs]
theorem depth_strs : ∀ p : List Str, PyData.depthAll (p.map .str) = 0
  | [] => rfl
  | a :: r => by simp [PyData.depthAll, PyData.depth, depth_strs r]
theorem depth_mkP (s : Str) (p : List Str) : PyData.depth (mkP s p) ≤ 64 := by simp [mkP, PyData.depth, PyData.depthAll, depth_strs]
theorem ne_mkP (s : Str) (p : List Str) : dNe (mkP s p) (mkP s p) = some (.bool false) := by
  have := depth_mkP s p
  simp [dNe, nd_mkP, eqv_mkP, this]
theorem ne_refl_str (a : Str) : dNe (.str a) (.str a) = some (.bool false) := by rw [ne_str]; simp
theorem join_len (y : Str) (p : List Str) : (Txt.join y p).length ≤ (p.map (·.length)).sum + p.length * y.length := by
  rw [TL.join_eq]
  exact StrLaws.join_length_le y p
theorem Good.sum {s : Str} {p : List Str} (g : Good s p) : (p.map (·.length)).sum ≤ 12 := by
  have h1 := sum_len fun x hx => words_len x (g.1 x hx)
  have h2 := g.2.1
  omega
theorem l1 : (Str.ofString "/").length = 1 := by decide +kernel
theorem l2 : (Str.ofString "//").length = 2 := by decide +kernel
theorem Good.sl {s : Str} {p : List Str} (g : Good s p) : s.length ≤ 1 := by rcases g.start with rfl | rfl <;> decide +kernel
theorem Good.j1 {s : Str} {p : List Str} (g : Good s p) : (Txt.join (Str.ofString "/") p).length ≤ 18 ∧ joinSz (Str.ofString "/") p = true := by
  have h1 := join_len (Str.ofString "/") p
  have h2 := g.sum
  have h3 := g.2.1
  rw [l1] at h1
  refine ⟨by omega, ?_⟩
  unfold joinSz
  rw [l1, decide_eq_true_eq]
  omega
theorem Good.j2 {s : Str} {p : List Str} (g : Good s p) : (Txt.join (Str.ofString "//") p).length ≤ 24 ∧ joinSz (Str.ofString "//") p = true := by
  have h1 := join_len (Str.ofString "//") p
  have h2 := g.sum
  have h3 := g.2.1
  rw [l2] at h1
  refine ⟨by omega, ?_⟩
  unfold joinSz
  rw [l2, decide_eq_true_eq]
  omega
/-- the law up to what is drawn last -/
theorem law_one (ns : List Int) (hn : ns.length ≤ 63) {s s2 : Str} {p p2 : List Str} (g : Good s p) (g2 : Good s2 p2) (S : Option Sl) (hS : S = some (.val (.list (ns.map .int))))
    (h1 : F__law_path [.list (ns.map .int), .int 0, .int 6] = some (.ok (mkP s p))) (h2 : F__law_path [.list (ns.map .int), .int 20, .int 6] = some (.ok (mkP s2 p2))) {rest : Sd} :
    ∃ x3 x4 x5, (cSeq (cPar2 false false 1 2 (cCall F__law_path [.nm 0, .ex (cD (.int 0)), .ex (cD (.int 6))]) (cCall F__law_path [.nm 0, .ex (cD (.int 20)), .ex (cD (.int 6))])) <|
  cSeq (cIfS (cOrT (cT (cOp dIsNot (cCall F_is_path [.nm 1]) (cD (.bool true)))) (cNotT (cT (cCall F__law_judged [.nm 0, .nm 1])))) (cRet (cD (.bool false))) (cNx)) <|
  cSeq (cSet true 3 (cOp dAdd (cOp dIx (cVar false 1) (cD (.int 0))) (cMtO dJoin (cD (.str "/")) [cOp dIx (cVar false 1) (cD (.int 1))]))) <|
  cSeq (cIfS (cOrT (cT (cOp dNe (cCall F_format_path [.nm 1]) (cVar false 3))) (cT (cOp dNe (cCall F_parse_path [.nm 3]) (cVar false 1)))) (cRet (cD (.bool false))) (cNx)) <|
  cSeq (cSet true 4 (cOp dAdd (cOp dAdd (cOp dIx (cVar false 1) (cD (.int 0))) (cMtO dJoin (cD (.str "//")) [cOp dIx (cVar false 1) (cD (.int 1))])) (cOp dMul (cD (.str "/")) (cOp dAdd (cD (.int 1)) (cCall F__law_pick [.nm 0, .ex (cD (.int 40)), .ex (cD (.int 2))]))))) <|
  cSeq (cIfS (cT (cOp dNe (cCall F_parse_path [.nm 4]) (cTup [cOp dIx (cVar false 1) (cD (.int 0)), cOp dAdd (cOp dIx (cVar false 1) (cD (.int 1))) (cIf (cT (cOp dNe (cOp dIx (cVar false 1) (cD (.int 1))) (cTup []))) (cTup [cD (.str ".")]) (cTup []))]))) (cRet (cD (.bool false))) (cNx)) <|
  cSeq (cSet false 5 (cIf (cT (cOp dEq (cOp dIx (cVar false 2) (cD (.int 0))) (cD (.str "/")))) (cVar true 2) (cTup [cOp dIx (cVar false 1) (cD (.int 0)), cOp dAdd (cOp dIx (cVar false 1) (cD (.int 1))) (cOp dIx (cVar false 2) (cD (.int 1)))]))) <|
  cSeq (cIfS (cT (cOp dNe (cCall F_join [.nm 1, .nm 2]) (cVar false 5))) (cRet (cD (.bool false))) (cNx)) rest) [S, none, none, none, none, none, none, none, none, none] = rest [S, some (.val (mkP s p)), some (.val (mkP s2 p2)), x3, x4, x5, none, none, none, none] := by
  have sz := sizeLine_eq
  let A : Option Sl := some (.val (mkP s p))
  let B : Option Sl := some (.val (mkP s2 p2))
  have hsl := g.sl
  obtain ⟨j1, j1'⟩ := g.j1
  obtain ⟨j2, j2'⟩ := g.j2
  have c1 : ∀ ρ : Rho, ρ[0]? = some S → cCall F__law_path [.nm 0, .ex (cD (.int 0)), .ex (cD (.int 6))] ρ = some (.ok (mkP s p)) := fun ρ h => by
    rw [callA (ds := [.list (ns.map .int), .int 0, .int 6]) (by simp [cArgs, Ar.at, cVar, cD, eb, h, hS]), h1]
  have c2 : ∀ ρ : Rho, ρ[0]? = some S → cCall F__law_path [.nm 0, .ex (cD (.int 20)), .ex (cD (.int 6))] ρ = some (.ok (mkP s2 p2)) := fun ρ h => by
    rw [callA (ds := [.list (ns.map .int), .int 20, .int 6]) (by simp [cArgs, Ar.at, cVar, cD, eb, h, hS]), h2]
  have e1 : cPar2 false false 1 2 (cCall F__law_path [.nm 0, .ex (cD (.int 0)), .ex (cD (.int 6))]) (cCall F__law_path [.nm 0, .ex (cD (.int 20)), .ex (cD (.int 6))]) [S, none, none, none, none, none, none, none, none, none] = some (.nx [S, A, B, none, none, none, none, none, none, none]) := by
    unfold cPar2
    rw [c1 _ rfl, c2 _ rfl]
    simp [put, A, B]
  rw [seq_nx e1]
  have cp : cCall F_is_path [.nm 1] [S, A, B, none, none, none, none, none, none, none] = some (.ok (.bool true)) := by rw [call1 (d := mkP s p) rfl, path_ok (nd_mkP s p), g.path]
  have cj : cCall F__law_judged [.nm 0, .nm 1] [S, A, B, none, none, none, none, none, none, none] = some (.ok (.bool true)) := by rw [call2 (d := .list (ns.map .int)) (e := mkP s p) (by simp [hS]) rfl, judged_ok ns hn g]
  have e2 : cIfS (cOrT (cT (cOp dIsNot (cCall F_is_path [.nm 1]) (cD (.bool true)))) (cNotT (cT (cCall F__law_judged [.nm 0, .nm 1])))) (cRet (cD (.bool false))) (cNx) [S, A, B, none, none, none, none, none, none, none] = some (.nx [S, A, B, none, none, none, none, none, none, none]) := by
    simp [cIfS, cOrT, cNotT, cT, cOp, cp, cj, cD, eb, pu, dIsNot, dIs, dNot1, asB, cNx]
  rw [seq_nx e2]
  let tx : Str := s ++ Txt.join (Str.ofString "/") p
  have hj : dJoin (.str (Str.ofString "/")) [.tuple (p.map .str)] = some (.str (Txt.join (Str.ofString "/") p)) := by simp [dJoin, strs_of, j1']
  have hj2 : dJoin (.str (Str.ofString "//")) [.tuple (p.map .str)] = some (.str (Txt.join (Str.ofString "//") p)) := by simp [dJoin, strs_of, j2']
  have htl : tx.length ≤ 19 := by show (s ++ _).length ≤ 19; rw [len_app]; omega
  have ha : dAdd (.str s) (.str (Txt.join (Str.ofString "/") p)) = some (.str tx) := by
    have : s.length + (Txt.join (Str.ofString "/") p).length ≤ sizeLine := by omega
    simp [dAdd, this, tx]
  let T : Option Sl := some (.val (.str tx))
  have e3 : cSet true 3 (cOp dAdd (cOp dIx (cVar false 1) (cD (.int 0))) (cMtO dJoin (cD (.str "/")) [cOp dIx (cVar false 1) (cD (.int 1))])) [S, A, B, none, none, none, none, none, none, none] = some (.nx [S, A, B, T, none, none, none, none, none, none]) := by
    simp [cSet, cOp, cVar, cD, eb, pu, A, ix0, ix1, cMtO, cMt, okE, cArgs, hj, ha, put, isMut, T]
  rw [seq_nx e3]
  have cf : cCall F_format_path [.nm 1] [S, A, B, T, none, none, none, none, none, none] = some (.ok (.str tx)) := by
    rw [call1 (d := mkP s p) rfl, format_eq g.path j1' (by omega)]
  have cpa : cCall F_parse_path [.nm 3] [S, A, B, T, none, none, none, none, none, none] = some (.ok (mkP s p)) := by
    rw [call1 (d := .str tx) rfl, parse_eq tx (by omega), show prs tx = mkP s p from prs_text g, g.path]
    rfl
  have e4 : cIfS (cOrT (cT (cOp dNe (cCall F_format_path [.nm 1]) (cVar false 3))) (cT (cOp dNe (cCall F_parse_path [.nm 3]) (cVar false 1)))) (cRet (cD (.bool false))) (cNx) [S, A, B, T, none, none, none, none, none, none] = some (.nx [S, A, B, T, none, none, none, none, none, none]) := by
    simp [cIfS, cOrT, cT, cOp, cf, cpa, cVar, T, A, eb, pu, ne_refl_str, ne_mkP, asB, cNx]
  rw [seq_nx e4]
  obtain ⟨r, hr, hr0, hr1⟩ := pick_ok ns hn 40 2 (by decide) (by decide) (by decide)
  have ck : cCall F__law_pick [.nm 0, .ex (cD (.int 40)), .ex (cD (.int 2))] [S, A, B, T, none, none, none, none, none, none] = some (.ok (.int r)) := by
    rw [callA (ds := [.list (ns.map .int), .int 40, .int 2]) (by simp [cArgs, Ar.at, cVar, cD, eb, hS]), hr]
  let k : Nat := (1 + r).toNat
  have hk : k = 1 ∨ k = 2 := by show (1 + r).toNat = 1 ∨ (1 + r).toNat = 2; omega
  let lo : Str := s ++ Txt.join (Str.ofString "//") p ++ repS (Str.ofString "/") k
  have hlr : (repS (Str.ofString "/") k).length ≤ 2 := by rw [repS_len, l1]; omega
  have hll : lo.length ≤ 100 := by show (s ++ _ ++ _).length ≤ 100; rw [len_app, len_app]; omega
  have hmul : dMul (.str (Str.ofString "/")) (.int (1 + r)) = some (.str (repS (Str.ofString "/") k)) := by
    have z1 : (1 : Int) ≤ 1 + r := by omega
    have z2 : 1 + r ≤ (1000 : Int) := by omega
    have z3 : (Str.ofString "/").length ≤ 1000 := by rw [l1]; omega
    simp only [dMul, z1, z2, z3, decide_true, Bool.and_self, if_true, k]
  have ha2 : dAdd (.str s) (.str (Txt.join (Str.ofString "//") p)) = some (.str (s ++ Txt.join (Str.ofString "//") p)) := by
    have : s.length + (Txt.join (Str.ofString "//") p).length ≤ sizeLine := by omega
    simp [dAdd, this]
  have ha3 : dAdd (.str (s ++ Txt.join (Str.ofString "//") p)) (.str (repS (Str.ofString "/") k)) = some (.str lo) := by
    have : (s ++ Txt.join (Str.ofString "//") p).length + (repS (Str.ofString "/") k).length ≤ sizeLine := by rw [len_app]; omega
    simp [dAdd, this, lo]
  let L : Option Sl := some (.val (.str lo))
  have e5 : cSet true 4 (cOp dAdd (cOp dAdd (cOp dIx (cVar false 1) (cD (.int 0))) (cMtO dJoin (cD (.str "//")) [cOp dIx (cVar false 1) (cD (.int 1))])) (cOp dMul (cD (.str "/")) (cOp dAdd (cD (.int 1)) (cCall F__law_pick [.nm 0, .ex (cD (.int 40)), .ex (cD (.int 2))])))) [S, A, B, T, none, none, none, none, none, none] = some (.nx [S, A, B, T, L, none, none, none, none, none]) := by
    have hadd : dAdd (.int 1) (.int r) = some (.int (1 + r)) := rfl
    simp only [cSet, cOp, ck, cVar, cD, eb, pu, List.getElem?_cons_zero, List.getElem?_cons_succ, A, Bool.false_eq_true, if_false, ix0, ix1, cMtO, cMt, okE, cArgs, hj2, ha2, hadd, hmul, ha3, Option.map_some]
    simp [put, isMut, L]
  rw [seq_nx e5]
  let p' : List Str := p ++ if p.isEmpty then [] else [Str.ofString "."]
  have hp' : isPathB (mkP s p') = true := by
    rw [path_mkP, g.startB]
    have hdot : partS (Str.ofString ".") = true := by decide +kernel
    have h6 := g.2.1
    by_cases hp : p = []
    · have : s = Str.ofString "/" := by rcases g.2.2 with e | ⟨_, e⟩ <;> first | exact e | exact absurd hp e
      subst this
      simp [p', hp]
    · have : p'.all partS = true := by simp [p', g.all, hp, hdot, List.all_append]
      have h7 : p'.length ≤ 12 := by simp [p', hp]; omega
      rw [this]
      simp [h7]
      simp [p', hp]
  have cpl : cCall F_parse_path [.nm 4] [S, A, B, T, L, none, none, none, none, none] = some (.ok (mkP s p')) := by
    rw [call1 (d := .str lo) rfl, parse_eq lo (by omega), show prs lo = mkP s p' from prs_loose g k hk, hp']
    rfl
  have hplen : p.length ≤ 6 := g.2.1
  have htup : (cTup [cOp dIx (cVar false 1) (cD (.int 0)), cOp dAdd (cOp dIx (cVar false 1) (cD (.int 1))) (cIf (cT (cOp dNe (cOp dIx (cVar false 1) (cD (.int 1))) (cTup []))) (cTup [cD (.str ".")]) (cTup []))]) [S, A, B, T, L, none, none, none, none, none] = some (.ok (mkP s p')) := by
    have hn1 : dNe (.tuple (p.map .str)) (.tuple []) = some (.bool (!p.isEmpty)) := by
      have := ne_tnil (l := p.map .str) (by simpa [nd] using nd_strs p)
      simpa using this
    have z1 : p.length + 1 ≤ sizeLine := by omega
    have z0 : p.length ≤ sizeLine := by omega
    have hz : mkP s p' = .tuple [.str s, .tuple (p.map .str ++ (if p.isEmpty then [] else [.str (Str.ofString ".")]))] := by
      unfold mkP
      simp only [p']
      cases p.isEmpty <;> simp
    rw [hz]
    cases hb : p.isEmpty <;> rw [hb] at hn1
    · simp [cTup, cArgs, cOp, cVar, cD, cIf, cT, eb, pu, A, ix0, ix1, hn1, asB, dAdd, z1]
    · simp [cTup, cArgs, cOp, cVar, cD, cIf, cT, eb, pu, A, ix0, ix1, hn1, asB, dAdd, z0]
  have e6 : cIfS (cT (cOp dNe (cCall F_parse_path [.nm 4]) (cTup [cOp dIx (cVar false 1) (cD (.int 0)), cOp dAdd (cOp dIx (cVar false 1) (cD (.int 1))) (cIf (cT (cOp dNe (cOp dIx (cVar false 1) (cD (.int 1))) (cTup []))) (cTup [cD (.str ".")]) (cTup []))]))) (cRet (cD (.bool false))) (cNx) [S, A, B, T, L, none, none, none, none, none] = some (.nx [S, A, B, T, L, none, none, none, none, none]) := by
    have hop : cOp dNe (cCall F_parse_path [.nm 4]) (cTup [cOp dIx (cVar false 1) (cD (.int 0)), cOp dAdd (cOp dIx (cVar false 1) (cD (.int 1))) (cIf (cT (cOp dNe (cOp dIx (cVar false 1) (cD (.int 1))) (cTup []))) (cTup [cD (.str ".")]) (cTup []))]) [S, A, B, T, L, none, none, none, none, none] = some (.ok (.bool false)) := by
      show eb (cCall F_parse_path [.nm 4] _) (fun x => eb ((cTup _) _) fun y => pu (dNe x y)) = _
      rw [cpl, htup]
      simp [eb, pu, ne_mkP]
    simp only [cIfS, cT, hop, eb, asB]
    rfl
  rw [seq_nx e6]
  have hp2len : p2.length ≤ 6 := g2.2.1
  let du : D := if s2 == Str.ofString "/" then mkP s2 p2 else mkP s (p ++ p2)
  have hdu : ∃ s3 p3, du = mkP s3 p3 := by
    simp only [du]
    split
    · exact ⟨_, _, rfl⟩
    · exact ⟨_, _, rfl⟩
  have e7 : cSet false 5 (cIf (cT (cOp dEq (cOp dIx (cVar false 2) (cD (.int 0))) (cD (.str "/")))) (cVar true 2) (cTup [cOp dIx (cVar false 1) (cD (.int 0)), cOp dAdd (cOp dIx (cVar false 1) (cD (.int 1))) (cOp dIx (cVar false 2) (cD (.int 1)))])) [S, A, B, T, L, none, none, none, none, none] = some (.nx [S, A, B, T, L, some (.val du), none, none, none, none]) := by
    have z : p.length + p2.length ≤ sizeLine := by omega
    have hz : mkP s (p ++ p2) = .tuple [.str s, .tuple (p.map .str ++ p2.map .str)] := by simp [mkP]
    cases hs2 : (s2 == Str.ofString "/")
    · simp [cSet, cIf, cT, cOp, cVar, cD, cTup, cArgs, eb, pu, A, B, ix0, ix1, eq_str, hs2, asB, dAdd, z, put, du, hz]
    · simp [cSet, cIf, cT, cOp, cVar, cD, eb, pu, A, B, ix0, eq_str, hs2, asB, put, du]
  rw [seq_nx e7]
  have cjn : cCall F_join [.nm 1, .nm 2] [S, A, B, T, L, some (.val du), none, none, none, none] = some (.ok du) := by
    rw [call2 (d := mkP s p) (e := mkP s2 p2) rfl rfl, join_eq g.path g2.path (by omega)]
  have e8 : cIfS (cT (cOp dNe (cCall F_join [.nm 1, .nm 2]) (cVar false 5))) (cRet (cD (.bool false))) (cNx) [S, A, B, T, L, some (.val du), none, none, none, none] = some (.nx [S, A, B, T, L, some (.val du), none, none, none, none]) := by
    obtain ⟨s3, p3, h3⟩ := hdu
    rw [h3] at cjn ⊢
    simp [cIfS, cT, cOp, cjn, cVar, eb, pu, ne_mkP, asB, cNx]
  rw [seq_nx e8]
  exact ⟨_, _, _, rfl⟩
end Law

namespace Law
open PySem PySem.Spec PyProof.Rows L2 Den
open TL (tl)
def signL : List Str := [Str.ofString "a", Str.ofString "/", Str.ofString ".", Str.ofString "b", Str.ofString "/"]
theorem sign_len : ∀ x ∈ signL, x.length = 1 ∧ Abc (tl x) := by
  intro x hx
  simp only [signL, List.mem_cons, List.not_mem_nil, or_false] at hx
  rcases hx with rfl | rfl | rfl | rfl | rfl <;> exact ⟨by decide +kernel, by unfold Abc; decide +kernel⟩
theorem join0 : ∀ {p : List Str}, (∀ x ∈ p, x ∈ signL) → (Txt.join (Str.ofString "") p).length ≤ p.length ∧ Abc (tl (Txt.join (Str.ofString "") p)) := fun {p} h => by
  have h1 := join_len (Str.ofString "") p
  have hs : (p.map (·.length)).sum = p.length := by
    clear h1
    induction p with
    | nil => rfl
    | cons a r ih =>
      have e1 := (sign_len a (h a (by simp))).1
      have e2 := ih fun x hx => h x (List.mem_cons_of_mem _ hx)
      simp only [List.map_cons, List.sum_cons, List.length_cons, e1, e2]
      omega
  have h0 : (Str.ofString "").length = 0 := by decide +kernel
  rw [h0] at h1
  refine ⟨by omega, ?_⟩
  rw [join_tl, show tl (Str.ofString "") = [] from rfl]
  clear h1 hs
  induction p with
  | nil => intro c hc; simp [TL.joinL] at hc
  | cons a r ih =>
    have e1 := (sign_len a (h a (by simp))).2
    have e2 := ih fun x hx => h x (List.mem_cons_of_mem _ hx)
    cases r with
    | nil => exact e1
    | cons b q =>
      intro c hc
      have hc : c ∈ tl a ++ ([] ++ TL.joinL [] ((b :: q).map tl)) := hc
      rw [List.nil_append] at hc
      rcases List.mem_append.mp hc with hc | hc
      · exact e1 c hc
      · exact e2 c hc
theorem fo_eq (b : Bool) (s : Str) (p : List Str) : dEq (if b = true then mkP s p else .tuple [os "error", os "ParseError"]) (if b = true then mkP s p else .tuple [os "error", os "ParseError"]) = some (.bool true) := by
  cases b with
  | true =>
    have := depth_mkP s p
    simp [dEq, nd_mkP, eqv_mkP, this]
  | false => kernel_rfl
theorem law_true : ∀ ns : List Int, ns.length ≤ 63 → ∃ ρ', G_law (initR 10 [.list (ns.map .int)]) = some (.rt (.bool true) ρ') := fun ns hn => by
  obtain ⟨s, p, h1, g⟩ := drawn_path ns hn 0 6 (by decide) (by decide) (by decide) (by decide)
  obtain ⟨s2, p2, h2, g2⟩ := drawn_path ns hn 20 6 (by decide) (by decide) (by decide) (by decide)
  rw [i1]
  let S : Option Sl := some (.val (.list (ns.map .int)))
  obtain ⟨x3, x4, x5, e⟩ := law_one ns hn g g2 S rfl h1 h2 (rest :=
    cSeq (cSet false 6 (cCall F__law_pick [.nm 0, .ex (cD (.int 41)), .ex (cD (.int 12))])) <|
    cSeq (cSet false 7 (cMtO dJoin (cD (.str "")) [cLc (cRange1 [cVar false 6]) [8] (.nm 8) (cYes) (cOp dIx (cTup [cD (.str "a"), cD (.str "/"), cD (.str "."), cD (.str "b"), cD (.str "/")]) (cCall F__law_pick [.nm 0, .ex (cOp dAdd (cD (.int 42)) (cVar false 8)), .ex (cD (.int 5))]))])) <|
    cSeq (cSet false 9 (cRes GR (cCall F_parse_path [.nm 7]))) <|
    cSeq (cRet (cOp dEq (cVar false 9) (cIf (cT (cOp dIsNot (cCall F__law_read [.nm 7]) (cD (.none)))) (cCall F__law_read [.nm 7]) (cTup [cD (.str "error"), cD (.str "ParseError")])))) cNx)
  refine (fun (z : ∃ ρ', _ = some (Out.rt (.bool true) ρ')) => z) ?_
  show ∃ ρ', G_law [S, none, none, none, none, none, none, none, none, none] = _
  unfold G_law
  rw [e]
  let A : Option Sl := some (.val (mkP s p))
  let B : Option Sl := some (.val (mkP s2 p2))
  obtain ⟨r, hr, hr0, hr1⟩ := pick_ok ns hn 41 12 (by decide) (by decide) (by decide)
  have f1 : cSet false 6 (cCall F__law_pick [.nm 0, .ex (cD (.int 41)), .ex (cD (.int 12))]) [S, A, B, x3, x4, x5, none, none, none, none] = some (.nx [S, A, B, x3, x4, x5, some (.val (.int r)), none, none, none]) := by
    have : cCall F__law_pick [.nm 0, .ex (cD (.int 41)), .ex (cD (.int 12))] [S, A, B, x3, x4, x5, none, none, none, none] = some (.ok (.int r)) := by
      rw [callA (ds := [.list (ns.map .int), .int 41, .int 12]) (by simp [cArgs, Ar.at, cVar, cD, eb, S]), hr]
    simp [cSet, this, put]
  rw [seq_nx f1]
  have hex : ∃ q : List Str, lcLoop (.nm 8) cYes (cOp dIx (cTup [cD (.str "a"), cD (.str "/"), cD (.str "."), cD (.str "b"), cD (.str "/")]) (cCall F__law_pick [.nm 0, .ex (cOp dAdd (cD (.int 42)) (cVar false 8)), .ex (cD (.int 5))])) [S, A, B, x3, x4, x5, some (.val (.int r)), none, none, none] (rngD 0 r.toNat) = some (q.map .str) ∧ q.length = r.toNat ∧ ∀ x ∈ q, x ∈ signL := by
    obtain ⟨out, o1, o2, o3⟩ := lc_ex (t := .nm 8) (fe := cOp dIx (cTup [cD (.str "a"), cD (.str "/"), cD (.str "."), cD (.str "b"), cD (.str "/")]) (cCall F__law_pick [.nm 0, .ex (cOp dAdd (cD (.int 42)) (cVar false 8)), .ex (cD (.int 5))])) (ρ := [S, A, B, x3, x4, x5, some (.val (.int r)), none, none, none]) (fun y => ∃ x ∈ signL, y = .str x) (rngD 0 r.toNat) fun d hd => by
      obtain ⟨i, hi, rfl⟩ := List.mem_map.mp hd
      have hi : i < r.toNat := by simpa using hi
      obtain ⟨v, hv, hv0, hv1⟩ := pick_ok ns hn (42 + (0 + (i : Nat))) 5 (by omega) (by omega) (by decide)
      obtain ⟨z, hz, hz2⟩ := atI_in (l := signL.map PyData.str) (i := v) hv0 (by simpa [signL] using hv1)
      obtain ⟨x, hx, rfl⟩ := List.mem_map.mp hz2
      refine ⟨[S, A, B, x3, x4, x5, some (.val (.int r)), none, some (.val (.int (0 + (i : Nat)))), none], .str x, by simp [setT, notOwn], ?_, x, hx, rfl⟩
      have hc : cCall F__law_pick [.nm 0, .ex (cOp dAdd (cD (.int 42)) (cVar false 8)), .ex (cD (.int 5))] [S, A, B, x3, x4, x5, some (.val (.int r)), none, some (.val (.int (0 + (i : Nat)))), none] = some (.ok (.int v)) := by
        rw [callA (ds := [.list (ns.map .int), .int (42 + (0 + (i : Nat))), .int 5]) (by simp [cArgs, Ar.at, cVar, cOp, cD, pu, dAdd, eb, S]), hv]
      have ht : cTup [cD (.str "a"), cD (.str "/"), cD (.str "."), cD (.str "b"), cD (.str "/")] [S, A, B, x3, x4, x5, some (.val (.int r)), none, some (.val (.int (0 + (i : Nat)))), none] = some (.ok (.tuple (signL.map .str))) := rfl
      simp only [cOp, ht, hc, eb, pu, dIx, hz, Option.map_some]
    obtain ⟨q, rfl, hq⟩ := strs_ex o3
    refine ⟨q, o1, ?_, hq⟩
    simpa [rngD] using o2
  obtain ⟨q, hlc, hql, hqs⟩ := hex
  obtain ⟨hdl, habc⟩ := join0 hqs
  let dr : Str := Txt.join (Str.ofString "") q
  have hdr : dr.length ≤ 12 := by show (Txt.join (Str.ofString "") q).length ≤ 12; omega
  have f2 : cSet false 7 (cMtO dJoin (cD (.str "")) [cLc (cRange1 [cVar false 6]) [8] (.nm 8) (cYes) (cOp dIx (cTup [cD (.str "a"), cD (.str "/"), cD (.str "."), cD (.str "b"), cD (.str "/")]) (cCall F__law_pick [.nm 0, .ex (cOp dAdd (cD (.int 42)) (cVar false 8)), .ex (cD (.int 5))]))]) [S, A, B, x3, x4, x5, some (.val (.int r)), none, none, none] = some (.nx [S, A, B, x3, x4, x5, some (.val (.int r)), some (.val (.str dr)), none, none]) := by
    have hrg : dRange1 [.int r] = some (.ok (rngD 0 r.toNat)) := by
      simp only [dRange1]
      rw [if_pos (by simp only [Bool.and_eq_true, decide_eq_true_eq]; exact ⟨⟨by omega, by omega⟩, by rw [sizeLine_eq]; omega⟩)]
    have hl : cLc (cRange1 [cVar false 6]) [8] (.nm 8) (cYes) (cOp dIx (cTup [cD (.str "a"), cD (.str "/"), cD (.str "."), cD (.str "b"), cD (.str "/")]) (cCall F__law_pick [.nm 0, .ex (cOp dAdd (cD (.int 42)) (cVar false 8)), .ex (cD (.int 5))])) [S, A, B, x3, x4, x5, some (.val (.int r)), none, none, none] = some (.ok (.list (q.map .str))) := by
      simp only [cLc, cRange1, cArgs, eb, List.all_cons, List.all_nil, notOwn, List.getElem?_cons_zero, List.getElem?_cons_succ, Bool.and_true, if_true, wipeR, List.set_cons_zero, List.set_cons_succ]
      simp only [cVar, List.getElem?_cons_zero, List.getElem?_cons_succ, Bool.false_eq_true, if_false, hrg]
      rw [hlc]
    have hjz : joinSz (Str.ofString "") q = true := by
      unfold joinSz
      rw [decide_eq_true_eq]
      have h0 : (Str.ofString "").length = 0 := by decide +kernel
      have hs : (q.map (·.length)).sum ≤ 2 * q.length := sum_len fun x hx => by rw [(sign_len x (hqs x hx)).1]; omega
      rw [h0]
      omega
    have hj : dJoin (.str (Str.ofString "")) [.list (q.map .str)] = some (.str dr) := by simp [dJoin, strs_of, hjz, dr]
    simp only [cSet, cMtO, cMt, okE, cD, eb, cArgs, hl, pu, hj, Option.map_some]
    simp [put]
  rw [seq_nx f2]
  let D7 : Option Sl := some (.val (.str dr))
  have cpd : cCall F_parse_path [.nm 7] [S, A, B, x3, x4, x5, some (.val (.int r)), D7, none, none] = if isPathB (prs dr) then some (.ok (prs dr)) else some (.error "ParseError") := by
    rw [call1 (d := .str dr) rfl, parse_eq dr (by omega)]
  let fo : D := if isPathB (prs dr) then prs dr else .tuple [os "error", os "ParseError"]
  have f3 : cSet false 9 (cRes GR (cCall F_parse_path [.nm 7])) [S, A, B, x3, x4, x5, some (.val (.int r)), D7, none, none] = some (.nx [S, A, B, x3, x4, x5, some (.val (.int r)), D7, none, some (.val fo)]) := by
    cases hp : isPathB (prs dr) <;> rw [hp] at cpd
    · simp [cSet, cRes, cpd, gr_parse, put, fo, hp]
    · simp [cSet, cRes, cpd, put, fo, hp]
  rw [seq_nx f3]
  have crd : cCall F__law_read [.nm 7] [S, A, B, x3, x4, x5, some (.val (.int r)), D7, none, some (.val fo)] = some (.ok (if isPathB (prs dr) then prs dr else .none)) := by
    rw [call1 (d := .str dr) rfl, read_eq dr (by omega), rd_iff habc]
  have hqq : dEq fo fo = some (.bool true) := fo_eq (isPathB (prs dr)) (rdS dr) (rdQ dr)
  refine ⟨[S, A, B, x3, x4, x5, some (.val (.int r)), D7, none, some (.val fo)], ?_⟩
  · cases hp : isPathB (prs dr) <;> rw [hp] at crd
    · have hfo : fo = .tuple [os "error", os "ParseError"] := by simp [fo, hp]
      rw [hfo] at hqq crd ⊢
      simp [cSeq, cRet, cOp, cVar, cIf, cT, crd, cD, eb, pu, dIsNot, dIs, dNot1, asB, cTup, cArgs, hqq]
    · have hfo : fo = mkP (rdS dr) (rdQ dr) := by simp [fo, hp]; rfl
      have hpr : prs dr = mkP (rdS dr) (rdQ dr) := rfl
      rw [hpr] at crd
      rw [hfo] at hqq crd ⊢
      have hiz : dIsNot (mkP (rdS dr) (rdQ dr)) .none = some (.bool true) := rfl
      simp [cSeq, cRet, cOp, cVar, cIf, cT, crd, cD, eb, pu, hiz, asB, hqq]
end Law

namespace Law
open PySem PySem.Spec PyProof.Rows L2 Den
theorem fin {l : PySem.W.OpenLaw} {w : World} {K : PySem.W.Frag} {h : Heap} {mg : Str → Option Value} {fa : Addr} (X : K.In h) (G : h.Ns mainGlobals mg) (hfa : mg "law" = some (.ref fa))
    {f__law_pick : Addr} {oc__law_pick kV__law_pick dc__law_pick pm__law_pick cd__law_pick ct__law_pick : Value} {od__law_pick an__law_pick : Option Addr} {sl__law_pick : Array (Option Value)}
    {f__law_path : Addr} {oc__law_path kV__law_path dc__law_path pm__law_path cd__law_path ct__law_path : Value} {od__law_path an__law_path : Option Addr} {sl__law_path : Array (Option Value)}
    {f_is_name : Addr} {oc_is_name kV_is_name dc_is_name pm_is_name cd_is_name ct_is_name : Value} {od_is_name an_is_name : Option Addr} {sl_is_name : Array (Option Value)}
    {f_is_part : Addr} {oc_is_part kV_is_part dc_is_part pm_is_part cd_is_part ct_is_part : Value} {od_is_part an_is_part : Option Addr} {sl_is_part : Array (Option Value)}
    {f_is_path : Addr} {oc_is_path kV_is_path dc_is_path pm_is_path cd_is_path ct_is_path : Value} {od_is_path an_is_path : Option Addr} {sl_is_path : Array (Option Value)}
    {f_parse_path : Addr} {oc_parse_path kV_parse_path dc_parse_path pm_parse_path cd_parse_path ct_parse_path : Value} {od_parse_path an_parse_path : Option Addr} {sl_parse_path : Array (Option Value)}
    {f_check_path : Addr} {oc_check_path kV_check_path dc_check_path pm_check_path cd_check_path ct_check_path : Value} {od_check_path an_check_path : Option Addr} {sl_check_path : Array (Option Value)}
    {f_join : Addr} {oc_join kV_join dc_join pm_join cd_join ct_join : Value} {od_join an_join : Option Addr} {sl_join : Array (Option Value)}
    {f__law_value : Addr} {oc__law_value kV__law_value dc__law_value pm__law_value cd__law_value ct__law_value : Value} {od__law_value an__law_value : Option Addr} {sl__law_value : Array (Option Value)}
    {f__law_judged : Addr} {oc__law_judged kV__law_judged dc__law_judged pm__law_judged cd__law_judged ct__law_judged : Value} {od__law_judged an__law_judged : Option Addr} {sl__law_judged : Array (Option Value)}
    {f_format_path : Addr} {oc_format_path kV_format_path dc_format_path pm_format_path cd_format_path ct_format_path : Value} {od_format_path an_format_path : Option Addr} {sl_format_path : Array (Option Value)}
    {f__law_read : Addr} {oc__law_read kV__law_read dc__law_read pm__law_read cd__law_read ct__law_read : Value} {od__law_read an__law_read : Option Addr} {sl__law_read : Array (Option Value)}
    {f__law_class : Addr} {oc__law_class kV__law_class dc__law_class pm__law_class cd__law_class ct__law_class : Value} {od__law_class an__law_class : Option Addr} {sl__law_class : Array (Option Value)}
    {f__law_result : Addr} {oc__law_result kV__law_result dc__law_result pm__law_result cd__law_result ct__law_result : Value} {od__law_result an__law_result : Option Addr} {sl__law_result : Array (Option Value)}
    {f_law cc Pt : Addr} {oc_law kV_law dc_law pm_law ct_law : Value} {od_law an_law : Option Addr} {sl_law : Array (Option Value)}
    {A_ParseError : Addr}
    {A_InvalidPath : Addr}
    {A_TooLarge : Addr}
    {A_InvalidChart : Addr}
    {A_InvalidAddress : Addr}
    {A_InvalidWhat : Addr}
    {A_NotUnknown : Addr}
    {A_InvalidMode : Addr}
    {A_InvalidTree : Addr}
    {A_InvalidBase : Addr}
    {A_PathError : Addr}
    {tk_MAX_PARTS : Tok}
    {tk_MAX_NAME : Tok}
    {tk_LETTERS : Tok}
    {tk_SELF : Tok}
    {tk_UP : Tok}
    {tk_ROOT : Tok}
    (a__law_pick : PySem.W.nsIn K mainGlobals "_law_pick" = some (some (.ref f__law_pick))) (l__law_pick : K.lookup f__law_pick = some ⟨oc__law_pick, od__law_pick, .func (PySem.W.fnOf "_law_pick" "_law_pick" (defArgs s__law_pick) (defBody s__law_pick) (defScope s__law_pick) .none kV__law_pick dc__law_pick pm__law_pick an__law_pick cd__law_pick ct__law_pick), sl__law_pick⟩) (c__law_pick : PySem.W.codeIn K cd__law_pick "_law_pick" = true) (k__law_pick : PySem.W.keepIn K (.ref f__law_pick) = true)
    (a__law_path : PySem.W.nsIn K mainGlobals "_law_path" = some (some (.ref f__law_path))) (l__law_path : K.lookup f__law_path = some ⟨oc__law_path, od__law_path, .func (PySem.W.fnOf "_law_path" "_law_path" (defArgs s__law_path) (defBody s__law_path) (defScope s__law_path) .none kV__law_path dc__law_path pm__law_path an__law_path cd__law_path ct__law_path), sl__law_path⟩) (c__law_path : PySem.W.codeIn K cd__law_path "_law_path" = true) (k__law_path : PySem.W.keepIn K (.ref f__law_path) = true)
    (a_is_name : PySem.W.nsIn K mainGlobals "is_name" = some (some (.ref f_is_name))) (l_is_name : K.lookup f_is_name = some ⟨oc_is_name, od_is_name, .func (PySem.W.fnOf "is_name" "is_name" (defArgs s_is_name) (defBody s_is_name) (defScope s_is_name) .none kV_is_name dc_is_name pm_is_name an_is_name cd_is_name ct_is_name), sl_is_name⟩) (c_is_name : PySem.W.codeIn K cd_is_name "is_name" = true) (k_is_name : PySem.W.keepIn K (.ref f_is_name) = true)
    (a_is_part : PySem.W.nsIn K mainGlobals "is_part" = some (some (.ref f_is_part))) (l_is_part : K.lookup f_is_part = some ⟨oc_is_part, od_is_part, .func (PySem.W.fnOf "is_part" "is_part" (defArgs s_is_part) (defBody s_is_part) (defScope s_is_part) .none kV_is_part dc_is_part pm_is_part an_is_part cd_is_part ct_is_part), sl_is_part⟩) (c_is_part : PySem.W.codeIn K cd_is_part "is_part" = true) (k_is_part : PySem.W.keepIn K (.ref f_is_part) = true)
    (a_is_path : PySem.W.nsIn K mainGlobals "is_path" = some (some (.ref f_is_path))) (l_is_path : K.lookup f_is_path = some ⟨oc_is_path, od_is_path, .func (PySem.W.fnOf "is_path" "is_path" (defArgs s_is_path) (defBody s_is_path) (defScope s_is_path) .none kV_is_path dc_is_path pm_is_path an_is_path cd_is_path ct_is_path), sl_is_path⟩) (c_is_path : PySem.W.codeIn K cd_is_path "is_path" = true) (k_is_path : PySem.W.keepIn K (.ref f_is_path) = true)
    (a_parse_path : PySem.W.nsIn K mainGlobals "parse_path" = some (some (.ref f_parse_path))) (l_parse_path : K.lookup f_parse_path = some ⟨oc_parse_path, od_parse_path, .func (PySem.W.fnOf "parse_path" "parse_path" (defArgs s_parse_path) (defBody s_parse_path) (defScope s_parse_path) .none kV_parse_path dc_parse_path pm_parse_path an_parse_path cd_parse_path ct_parse_path), sl_parse_path⟩) (c_parse_path : PySem.W.codeIn K cd_parse_path "parse_path" = true) (k_parse_path : PySem.W.keepIn K (.ref f_parse_path) = true)
    (a_check_path : PySem.W.nsIn K mainGlobals "check_path" = some (some (.ref f_check_path))) (l_check_path : K.lookup f_check_path = some ⟨oc_check_path, od_check_path, .func (PySem.W.fnOf "check_path" "check_path" (defArgs s_check_path) (defBody s_check_path) (defScope s_check_path) .none kV_check_path dc_check_path pm_check_path an_check_path cd_check_path ct_check_path), sl_check_path⟩) (c_check_path : PySem.W.codeIn K cd_check_path "check_path" = true) (k_check_path : PySem.W.keepIn K (.ref f_check_path) = true)
    (a_join : PySem.W.nsIn K mainGlobals "join" = some (some (.ref f_join))) (l_join : K.lookup f_join = some ⟨oc_join, od_join, .func (PySem.W.fnOf "join" "join" (defArgs s_join) (defBody s_join) (defScope s_join) .none kV_join dc_join pm_join an_join cd_join ct_join), sl_join⟩) (c_join : PySem.W.codeIn K cd_join "join" = true) (k_join : PySem.W.keepIn K (.ref f_join) = true)
    (a__law_value : PySem.W.nsIn K mainGlobals "_law_value" = some (some (.ref f__law_value))) (l__law_value : K.lookup f__law_value = some ⟨oc__law_value, od__law_value, .func (PySem.W.fnOf "_law_value" "_law_value" (defArgs s__law_value) (defBody s__law_value) (defScope s__law_value) .none kV__law_value dc__law_value pm__law_value an__law_value cd__law_value ct__law_value), sl__law_value⟩) (c__law_value : PySem.W.codeIn K cd__law_value "_law_value" = true) (k__law_value : PySem.W.keepIn K (.ref f__law_value) = true)
    (a__law_judged : PySem.W.nsIn K mainGlobals "_law_judged" = some (some (.ref f__law_judged))) (l__law_judged : K.lookup f__law_judged = some ⟨oc__law_judged, od__law_judged, .func (PySem.W.fnOf "_law_judged" "_law_judged" (defArgs s__law_judged) (defBody s__law_judged) (defScope s__law_judged) .none kV__law_judged dc__law_judged pm__law_judged an__law_judged cd__law_judged ct__law_judged), sl__law_judged⟩) (c__law_judged : PySem.W.codeIn K cd__law_judged "_law_judged" = true) (k__law_judged : PySem.W.keepIn K (.ref f__law_judged) = true)
    (a_format_path : PySem.W.nsIn K mainGlobals "format_path" = some (some (.ref f_format_path))) (l_format_path : K.lookup f_format_path = some ⟨oc_format_path, od_format_path, .func (PySem.W.fnOf "format_path" "format_path" (defArgs s_format_path) (defBody s_format_path) (defScope s_format_path) .none kV_format_path dc_format_path pm_format_path an_format_path cd_format_path ct_format_path), sl_format_path⟩) (c_format_path : PySem.W.codeIn K cd_format_path "format_path" = true) (k_format_path : PySem.W.keepIn K (.ref f_format_path) = true)
    (a__law_read : PySem.W.nsIn K mainGlobals "_law_read" = some (some (.ref f__law_read))) (l__law_read : K.lookup f__law_read = some ⟨oc__law_read, od__law_read, .func (PySem.W.fnOf "_law_read" "_law_read" (defArgs s__law_read) (defBody s__law_read) (defScope s__law_read) .none kV__law_read dc__law_read pm__law_read an__law_read cd__law_read ct__law_read), sl__law_read⟩) (c__law_read : PySem.W.codeIn K cd__law_read "_law_read" = true) (k__law_read : PySem.W.keepIn K (.ref f__law_read) = true)
    (a__law_class : PySem.W.nsIn K mainGlobals "_law_class" = some (some (.ref f__law_class))) (l__law_class : K.lookup f__law_class = some ⟨oc__law_class, od__law_class, .func (PySem.W.fnOf "_law_class" "_law_class" (defArgs s__law_class) (defBody s__law_class) (defScope s__law_class) .none kV__law_class dc__law_class pm__law_class an__law_class cd__law_class ct__law_class), sl__law_class⟩) (c__law_class : PySem.W.codeIn K cd__law_class "_law_class" = true) (k__law_class : PySem.W.keepIn K (.ref f__law_class) = true)
    (a__law_result : PySem.W.nsIn K mainGlobals "_law_result" = some (some (.ref f__law_result))) (l__law_result : K.lookup f__law_result = some ⟨oc__law_result, od__law_result, .func (PySem.W.fnOf "_law_result" "_law_result" (defArgs s__law_result) (defBody s__law_result) (defScope s__law_result) .none kV__law_result dc__law_result pm__law_result an__law_result cd__law_result ct__law_result), sl__law_result⟩) (c__law_result : PySem.W.codeIn K cd__law_result "_law_result" = true) (k__law_result : PySem.W.keepIn K (.ref f__law_result) = true)
    (a_law : PySem.W.nsIn K mainGlobals "law" = some (some (.ref f_law))) (l_law : K.lookup f_law = some ⟨oc_law, od_law, .func (PySem.W.fnOf "law" "law" (defArgs s_law) (defBody s_law) (defScope s_law) .none kV_law dc_law pm_law an_law (.ref cc) ct_law), sl_law⟩) (c_law : PySem.W.codeIn K (.ref cc) "law" = true) (k_law : PySem.W.keepIn K (.ref f_law) = true)
    (n_ParseError : PySem.W.nsIn K mainGlobals "ParseError" = some (some (.ref A_ParseError)))
    (n_InvalidPath : PySem.W.nsIn K mainGlobals "InvalidPath" = some (some (.ref A_InvalidPath)))
    (n_TooLarge : PySem.W.nsIn K mainGlobals "TooLarge" = some (some (.ref A_TooLarge)))
    (n_InvalidChart : PySem.W.nsIn K mainGlobals "InvalidChart" = some (some (.ref A_InvalidChart)))
    (n_InvalidAddress : PySem.W.nsIn K mainGlobals "InvalidAddress" = some (some (.ref A_InvalidAddress)))
    (n_InvalidWhat : PySem.W.nsIn K mainGlobals "InvalidWhat" = some (some (.ref A_InvalidWhat)))
    (n_NotUnknown : PySem.W.nsIn K mainGlobals "NotUnknown" = some (some (.ref A_NotUnknown)))
    (n_InvalidMode : PySem.W.nsIn K mainGlobals "InvalidMode" = some (some (.ref A_InvalidMode)))
    (n_InvalidTree : PySem.W.nsIn K mainGlobals "InvalidTree" = some (some (.ref A_InvalidTree)))
    (n_InvalidBase : PySem.W.nsIn K mainGlobals "InvalidBase" = some (some (.ref A_InvalidBase)))
    (n_PathError : PySem.W.nsIn K mainGlobals "PathError" = some (some (.ref A_PathError)))
    (x1_ParseError : PySem.W.excIn K A_ParseError [.type "ValueError", .type "Exception", .type "BaseException", .type "object"] "ValueError.__new__" = true) (x2_ParseError : PySem.W.keepIn K (.ref A_ParseError) = true) (x3_ParseError : PySem.W.subIn K (.ref A_ParseError) (.type "BaseException") = some true) (x4_ParseError : PySem.W.typeIn K (.ref A_ParseError) = some (.type "type"))
    (x1_InvalidPath : PySem.W.excIn K A_InvalidPath [.type "ValueError", .type "Exception", .type "BaseException", .type "object"] "ValueError.__new__" = true) (x2_InvalidPath : PySem.W.keepIn K (.ref A_InvalidPath) = true) (x3_InvalidPath : PySem.W.subIn K (.ref A_InvalidPath) (.type "BaseException") = some true) (x4_InvalidPath : PySem.W.typeIn K (.ref A_InvalidPath) = some (.type "type"))
    (x1_TooLarge : PySem.W.excIn K A_TooLarge [.type "ValueError", .type "Exception", .type "BaseException", .type "object"] "ValueError.__new__" = true) (x2_TooLarge : PySem.W.keepIn K (.ref A_TooLarge) = true) (x3_TooLarge : PySem.W.subIn K (.ref A_TooLarge) (.type "BaseException") = some true) (x4_TooLarge : PySem.W.typeIn K (.ref A_TooLarge) = some (.type "type"))
    (y1_ParseError : PySem.W.findIn K (.ref A_ParseError) "__getattribute__" = some (some (.builtin "BaseException.__getattribute__"))) (y2_ParseError : PySem.W.findIn K (.ref A_ParseError) "__getattr__" = some none) (y3_ParseError : PySem.W.subIn K (.ref A_ParseError) (.type "BaseException") = some true) (y4_ParseError : PySem.W.hasDictIn K A_ParseError = true) (y5_ParseError : PySem.W.findIn K (.ref A_ParseError) "__class__" = some (some (.builtin "object.__class__"))) (y6_ParseError : PySem.W.specialIn K (.builtin "object.__class__") "__get__" = some (some (.builtin "getset_descriptor.__get__"))) (y7_ParseError : PySem.W.takesIn K (.builtin "object.__class__") = some true) (y8_ParseError : PySem.W.mroIn K A_ParseError (.type "object") = some true)
    (t_ParseError_InvalidPath : PySem.W.kitOne K (.ref A_ParseError) (.ref A_InvalidPath) = some false)
    (t_ParseError_InvalidChart : PySem.W.kitOne K (.ref A_ParseError) (.ref A_InvalidChart) = some false)
    (t_ParseError_InvalidAddress : PySem.W.kitOne K (.ref A_ParseError) (.ref A_InvalidAddress) = some false)
    (t_ParseError_InvalidWhat : PySem.W.kitOne K (.ref A_ParseError) (.ref A_InvalidWhat) = some false)
    (t_ParseError_NotUnknown : PySem.W.kitOne K (.ref A_ParseError) (.ref A_NotUnknown) = some false)
    (t_ParseError_InvalidMode : PySem.W.kitOne K (.ref A_ParseError) (.ref A_InvalidMode) = some false)
    (t_ParseError_InvalidTree : PySem.W.kitOne K (.ref A_ParseError) (.ref A_InvalidTree) = some false)
    (t_ParseError_InvalidBase : PySem.W.kitOne K (.ref A_ParseError) (.ref A_InvalidBase) = some false)
    (t_ParseError_TooLarge : PySem.W.kitOne K (.ref A_ParseError) (.ref A_TooLarge) = some false)
    (t_ParseError_ParseError : PySem.W.kitOne K (.ref A_ParseError) (.ref A_ParseError) = some true)
    (t_ParseError_ValueError : PySem.W.kitOne K (.ref A_ParseError) (.type "ValueError") = some true)
    (h_ParseError : PySem.W.exmOne K (.ref A_ParseError) (.ref A_PathError) = some true)
    (v_MAX_PARTS : PySem.W.nsIn K mainGlobals "MAX_PARTS" = some (some (.int 12 tk_MAX_PARTS)))
    (v_MAX_NAME : PySem.W.nsIn K mainGlobals "MAX_NAME" = some (some (.int 3 tk_MAX_NAME)))
    (v_LETTERS : PySem.W.nsIn K mainGlobals "LETTERS" = some (some (.str "abcdefghijklmnopqrstuvwxyz" tk_LETTERS)))
    (v_SELF : PySem.W.nsIn K mainGlobals "SELF" = some (some (.str "." tk_SELF)))
    (v_UP : PySem.W.nsIn K mainGlobals "UP" = some (some (.str ".." tk_UP)))
    (v_ROOT : PySem.W.nsIn K mainGlobals "ROOT" = some (some (.str "/" tk_ROOT)))
    (b_len : PySem.W.nsIn K mainGlobals "len" = some none)
    (b_all : PySem.W.nsIn K mainGlobals "all" = some none)
    (b_any : PySem.W.nsIn K mainGlobals "any" = some none)
    (b_tuple : PySem.W.nsIn K mainGlobals "tuple" = some none)
    (b_list : PySem.W.nsIn K mainGlobals "list" = some none)
    (b_int : PySem.W.nsIn K mainGlobals "int" = some none)
    (b_max : PySem.W.nsIn K mainGlobals "max" = some none)
    (b_min : PySem.W.nsIn K mainGlobals "min" = some none)
    (b_isinstance : PySem.W.nsIn K mainGlobals "isinstance" = some none)
    (b_range : PySem.W.nsIn K mainGlobals "range" = some none)
    (b_zip : PySem.W.nsIn K mainGlobals "zip" = some none)
    (b_str : PySem.W.nsIn K mainGlobals "str" = some none)
    (b_bool : PySem.W.nsIn K mainGlobals "bool" = some none)
    (b_ValueError : PySem.W.nsIn K mainGlobals "ValueError" = some none)
    (p1 : K.lookup Pt = none) (p2 : PySem.W.codeHdIn K cc Pt = true)
    (hT : h.get? Pt = some { cls := .none, data := .fields #[] }) : LamX.LawAtS l w K (L2.CX l.prog w) 15 63 "script" mg fa h := by
  have e := hfa.symm.trans (PySem.W.mg_of X G a_law)
  cases e
  have hb : ∀ x ∈ bltNames, mg x = none := by
    intro x hx
    simp only [bltNames, List.mem_cons, List.not_mem_nil, or_false] at hx
    rcases hx with rfl | rfl | rfl | rfl | rfl | rfl | rfl | rfl | rfl | rfl | rfl | rfl | rfl
    · exact PySem.W.mg_none_of X G b_len
    · exact PySem.W.mg_none_of X G b_all
    · exact PySem.W.mg_none_of X G b_any
    · exact PySem.W.mg_none_of X G b_tuple
    · exact PySem.W.mg_none_of X G b_list
    · exact PySem.W.mg_none_of X G b_int
    · exact PySem.W.mg_none_of X G b_max
    · exact PySem.W.mg_none_of X G b_min
    · exact PySem.W.mg_none_of X G b_isinstance
    · exact PySem.W.mg_none_of X G b_range
    · exact PySem.W.mg_none_of X G b_zip
    · exact PySem.W.mg_none_of X G b_str
    · exact PySem.W.mg_none_of X G b_bool
  have hc : ∀ p ∈ CS, ∃ v u, mg p.1 = some u ∧ RelV v u ∧ ∀ H ok, Rp K H ok v p.2 := by
    intro p hp
    simp only [CS, List.mem_cons, List.not_mem_nil, or_false] at hp
    rcases hp with rfl | rfl | rfl | rfl | rfl | rfl
    · exact con_int (PySem.W.mg_of X G v_MAX_PARTS)
    · exact con_int (PySem.W.mg_of X G v_MAX_NAME)
    · exact con_str (sOkB_ok (by decide +kernel)) (PySem.W.mg_of X G v_LETTERS)
    · exact con_str (sOkB_ok (by decide +kernel)) (PySem.W.mg_of X G v_SELF)
    · exact con_str (sOkB_ok (by decide +kernel)) (PySem.W.mg_of X G v_UP)
    · exact con_str (sOkB_ok (by decide +kernel)) (PySem.W.mg_of X G v_ROOT)
  have he : ∀ x ∈ ES, ExcAt K mg x := by
    intro x hx
    simp only [ES, List.mem_cons, List.not_mem_nil, or_false] at hx
    rcases hx with rfl | rfl | rfl
    · exact ⟨_, PySem.W.mg_of X G n_ParseError, x1_ParseError, x2_ParseError, x3_ParseError, x4_ParseError⟩
    · exact ⟨_, PySem.W.mg_of X G n_InvalidPath, x1_InvalidPath, x2_InvalidPath, x3_InvalidPath, x4_InvalidPath⟩
    · exact ⟨_, PySem.W.mg_of X G n_TooLarge, x1_TooLarge, x2_TooLarge, x3_TooLarge, x4_TooLarge⟩
  have E_ParseError : ExcC K A_ParseError := ⟨y1_ParseError, y2_ParseError, y3_ParseError, y4_ParseError, y5_ParseError, y6_ParseError, y7_ParseError, y8_ParseError⟩
  have hi : ∀ p ∈ ISA, ∀ r ∈ p.2, IsaAt K mg p.1 r.1 r.2 := by
    intro p hp
    simp only [ISA, List.mem_cons, List.not_mem_nil, or_false] at hp
    rcases hp with rfl
    · intro r hr
      simp only [List.mem_cons, List.not_mem_nil, or_false] at hr
      rcases hr with rfl | rfl | rfl | rfl | rfl | rfl | rfl | rfl | rfl | rfl | rfl
      · exact isa_at (PySem.W.mg_of X G n_ParseError) E_ParseError (.inl ⟨_, rfl, PySem.W.mg_of X G n_InvalidPath⟩) t_ParseError_InvalidPath
      · exact isa_at (PySem.W.mg_of X G n_ParseError) E_ParseError (.inl ⟨_, rfl, PySem.W.mg_of X G n_InvalidChart⟩) t_ParseError_InvalidChart
      · exact isa_at (PySem.W.mg_of X G n_ParseError) E_ParseError (.inl ⟨_, rfl, PySem.W.mg_of X G n_InvalidAddress⟩) t_ParseError_InvalidAddress
      · exact isa_at (PySem.W.mg_of X G n_ParseError) E_ParseError (.inl ⟨_, rfl, PySem.W.mg_of X G n_InvalidWhat⟩) t_ParseError_InvalidWhat
      · exact isa_at (PySem.W.mg_of X G n_ParseError) E_ParseError (.inl ⟨_, rfl, PySem.W.mg_of X G n_NotUnknown⟩) t_ParseError_NotUnknown
      · exact isa_at (PySem.W.mg_of X G n_ParseError) E_ParseError (.inl ⟨_, rfl, PySem.W.mg_of X G n_InvalidMode⟩) t_ParseError_InvalidMode
      · exact isa_at (PySem.W.mg_of X G n_ParseError) E_ParseError (.inl ⟨_, rfl, PySem.W.mg_of X G n_InvalidTree⟩) t_ParseError_InvalidTree
      · exact isa_at (PySem.W.mg_of X G n_ParseError) E_ParseError (.inl ⟨_, rfl, PySem.W.mg_of X G n_InvalidBase⟩) t_ParseError_InvalidBase
      · exact isa_at (PySem.W.mg_of X G n_ParseError) E_ParseError (.inl ⟨_, rfl, PySem.W.mg_of X G n_TooLarge⟩) t_ParseError_TooLarge
      · exact isa_at (PySem.W.mg_of X G n_ParseError) E_ParseError (.inl ⟨_, rfl, PySem.W.mg_of X G n_ParseError⟩) t_ParseError_ParseError
      · exact isa_at (PySem.W.mg_of X G n_ParseError) E_ParseError (.inr ⟨_, rfl, PySem.W.mg_none_of X G b_ValueError, by first | rfl | decide +kernel | kernel_rfl⟩) t_ParseError_ValueError
  have hw : ∀ y d, GR y = some d → HdAt K mg "PathError" y := by
    intro y d hy
    have := gr_known hy
    rcases this with rfl
    · exact ⟨_, _, PySem.W.mg_of X G n_PathError, PySem.W.mg_of X G n_ParseError, h_ParseError⟩
  refine law_at (fd := PySem.W.fnOf "law" "law" (defArgs s_law) (defBody s_law) (defScope s_law) .none kV_law dc_law pm_law an_law (.ref cc) ct_law) X hT p1 p2 (fun s v => .of_eq rfl) fun base kb nb TB => ?_
  have T0 : TabOk (tabOf FS0 CS ES) l.prog w K mg base 0 := tab_nil hc he hb
  have T1 : TabOk (tabOf FS1 CS ES) l.prog w K mg base 1 := tab_step T0 ⟨_, _, fun_mk l__law_pick c__law_pick k__law_pick, PySem.W.mg_of X G a__law_pick⟩ ok__law_pick
  have T2 : TabOk (tabOf FS2 CS ES) l.prog w K mg base 2 := tab_step T1 ⟨_, _, fun_mk l__law_path c__law_path k__law_path, PySem.W.mg_of X G a__law_path⟩ ok__law_path
  have T3 : TabOk (tabOf FS3 CS ES) l.prog w K mg base 3 := tab_step T2 ⟨_, _, fun_mk l_is_name c_is_name k_is_name, PySem.W.mg_of X G a_is_name⟩ ok_is_name
  have T4 : TabOk (tabOf FS4 CS ES) l.prog w K mg base 4 := tab_step T3 ⟨_, _, fun_mk l_is_part c_is_part k_is_part, PySem.W.mg_of X G a_is_part⟩ ok_is_part
  have T5 : TabOk (tabOf FS5 CS ES) l.prog w K mg base 5 := tab_step T4 ⟨_, _, fun_mk l_is_path c_is_path k_is_path, PySem.W.mg_of X G a_is_path⟩ ok_is_path
  have T6 : TabOk (tabOf FS6 CS ES) l.prog w K mg base 6 := tab_step T5 ⟨_, _, fun_mk l_parse_path c_parse_path k_parse_path, PySem.W.mg_of X G a_parse_path⟩ ok_parse_path
  have T7 : TabOk (tabOf FS7 CS ES) l.prog w K mg base 7 := tab_step T6 ⟨_, _, fun_mk l_check_path c_check_path k_check_path, PySem.W.mg_of X G a_check_path⟩ ok_check_path
  have T8 : TabOk (tabOf FS8 CS ES) l.prog w K mg base 8 := tab_step T7 ⟨_, _, fun_mk l_join c_join k_join, PySem.W.mg_of X G a_join⟩ ok_join
  have T9 : TabOk (tabOf FS9 CS ES) l.prog w K mg base 9 := tab_step T8 ⟨_, _, fun_mk l__law_value c__law_value k__law_value, PySem.W.mg_of X G a__law_value⟩ ok__law_value
  have T10 : TabOk (tabOf FS10 CS ES) l.prog w K mg base 10 := tab_step T9 ⟨_, _, fun_mk l__law_judged c__law_judged k__law_judged, PySem.W.mg_of X G a__law_judged⟩ ok__law_judged
  have T11 : TabOk (tabOf FS11 CS ES) l.prog w K mg base 11 := tab_step T10 ⟨_, _, fun_mk l_format_path c_format_path k_format_path, PySem.W.mg_of X G a_format_path⟩ ok_format_path
  have T12 : TabOk (tabOf FS12 CS ES) l.prog w K mg base 12 := tab_step T11 ⟨_, _, fun_mk l__law_read c__law_read k__law_read, PySem.W.mg_of X G a__law_read⟩ ok__law_read
  have H0 : TabOk (hotOf ISA []) l.prog w K mg base 0 := hot_nil hi hb
  have H1 : TabOk (hotOf ISA HF) l.prog w K mg base 1 := hot_add H0 (hfn_den rfl ⟨_, _, fun_mk l__law_class c__law_class k__law_class, PySem.W.mg_of X G a__law_class⟩ ok__law_class H0 (by decide))
  exact law_fn (T := tabOf FS12 CS ES) (TH := hotOf ISA HF) rfl rfl l_law c_law sc_law T12 H1 TB txt__law_result ⟨_, _, fun_mk l__law_result c__law_result k__law_result, PySem.W.mg_of X G a__law_result⟩ (PySem.W.mg_of X G n_PathError) hw (by decide +kernel) (by decide +kernel) dn_law law_true (by decide)
end Law

open PySem PySem.W PyProof.Rows
set_option maxRecDepth 100000 in
set_option maxHeartbeats 0 in
theorem PySem.Challenge.cw_everytree_k01_paths_holds : PySem.Challenge.rw_everytree_k01_paths.Holds := by
  w_on; o_law; k_head; (case hw => w_witness2)
  k_fill
  refine Den.walkT (l := PySem.Challenge.rw_everytree_k01_paths) 15 rfl rfl ⟨rfl, by decide, by decide⟩ (fun w h Y => PySem.W.km_in_of Y) ?F
  case F =>
    intro w mg fa h Y KX G hmg
    refine' Law.fin KX G hmg ?a__law_pick ?l__law_pick ?c__law_pick ?k__law_pick ?a__law_path ?l__law_path ?c__law_path ?k__law_path ?a_is_name ?l_is_name ?c_is_name ?k_is_name ?a_is_part ?l_is_part ?c_is_part ?k_is_part ?a_is_path ?l_is_path ?c_is_path ?k_is_path ?a_parse_path ?l_parse_path ?c_parse_path ?k_parse_path ?a_check_path ?l_check_path ?c_check_path ?k_check_path ?a_join ?l_join ?c_join ?k_join ?a__law_value ?l__law_value ?c__law_value ?k__law_value ?a__law_judged ?l__law_judged ?c__law_judged ?k__law_judged ?a_format_path ?l_format_path ?c_format_path ?k_format_path ?a__law_read ?l__law_read ?c__law_read ?k__law_read ?a__law_class ?l__law_class ?c__law_class ?k__law_class ?a__law_result ?l__law_result ?c__law_result ?k__law_result ?a_law ?l_law ?c_law ?k_law ?n_ParseError ?n_InvalidPath ?n_TooLarge ?n_InvalidChart ?n_InvalidAddress ?n_InvalidWhat ?n_NotUnknown ?n_InvalidMode ?n_InvalidTree ?n_InvalidBase ?n_PathError ?x1_ParseError ?x2_ParseError ?x3_ParseError ?x4_ParseError ?x1_InvalidPath ?x2_InvalidPath ?x3_InvalidPath ?x4_InvalidPath ?x1_TooLarge ?x2_TooLarge ?x3_TooLarge ?x4_TooLarge ?y1_ParseError ?y2_ParseError ?y3_ParseError ?y4_ParseError ?y5_ParseError ?y6_ParseError ?y7_ParseError ?y8_ParseError ?t_ParseError_InvalidPath ?t_ParseError_InvalidChart ?t_ParseError_InvalidAddress ?t_ParseError_InvalidWhat ?t_ParseError_NotUnknown ?t_ParseError_InvalidMode ?t_ParseError_InvalidTree ?t_ParseError_InvalidBase ?t_ParseError_TooLarge ?t_ParseError_ParseError ?t_ParseError_ValueError ?h_ParseError ?v_MAX_PARTS ?v_MAX_NAME ?v_LETTERS ?v_SELF ?v_UP ?v_ROOT ?b_len ?b_all ?b_any ?b_tuple ?b_list ?b_int ?b_max ?b_min ?b_isinstance ?b_range ?b_zip ?b_str ?b_bool ?b_ValueError ?p1 ?p2 ?hT
    case hT => exact PySem.W.km_tabs_of Y _ List.mem_cons_self
    (case a__law_pick => k_is)
    (case l__law_pick => k_is)
    (case c__law_pick => k_is)
    (case k__law_pick => k_is)
    (case a__law_path => k_is)
    (case l__law_path => k_is)
    (case c__law_path => k_is)
    (case k__law_path => k_is)
    (case a_is_name => k_is)
    (case l_is_name => k_is)
    (case c_is_name => k_is)
    (case k_is_name => k_is)
    (case a_is_part => k_is)
    (case l_is_part => k_is)
    (case c_is_part => k_is)
    (case k_is_part => k_is)
    (case a_is_path => k_is)
    (case l_is_path => k_is)
    (case c_is_path => k_is)
    (case k_is_path => k_is)
    (case a_parse_path => k_is)
    (case l_parse_path => k_is)
    (case c_parse_path => k_is)
    (case k_parse_path => k_is)
    (case a_check_path => k_is)
    (case l_check_path => k_is)
    (case c_check_path => k_is)
    (case k_check_path => k_is)
    (case a_join => k_is)
    (case l_join => k_is)
    (case c_join => k_is)
    (case k_join => k_is)
    (case a__law_value => k_is)
    (case l__law_value => k_is)
    (case c__law_value => k_is)
    (case k__law_value => k_is)
    (case a__law_judged => k_is)
    (case l__law_judged => k_is)
    (case c__law_judged => k_is)
    (case k__law_judged => k_is)
    (case a_format_path => k_is)
    (case l_format_path => k_is)
    (case c_format_path => k_is)
    (case k_format_path => k_is)
    (case a__law_read => k_is)
    (case l__law_read => k_is)
    (case c__law_read => k_is)
    (case k__law_read => k_is)
    (case a__law_class => k_is)
    (case l__law_class => k_is)
    (case c__law_class => k_is)
    (case k__law_class => k_is)
    (case a__law_result => k_is)
    (case l__law_result => k_is)
    (case c__law_result => k_is)
    (case k__law_result => k_is)
    (case a_law => k_is)
    (case l_law => k_is)
    (case c_law => k_is)
    (case k_law => k_is)
    (case n_ParseError => k_is)
    (case n_InvalidPath => k_is)
    (case n_TooLarge => k_is)
    (case n_InvalidChart => k_is)
    (case n_InvalidAddress => k_is)
    (case n_InvalidWhat => k_is)
    (case n_NotUnknown => k_is)
    (case n_InvalidMode => k_is)
    (case n_InvalidTree => k_is)
    (case n_InvalidBase => k_is)
    (case n_PathError => k_is)
    (case x1_ParseError => k_exc)
    (case x2_ParseError => k_is)
    (case x3_ParseError => k_is)
    (case x4_ParseError => k_is)
    (case x1_InvalidPath => k_exc)
    (case x2_InvalidPath => k_is)
    (case x3_InvalidPath => k_is)
    (case x4_InvalidPath => k_is)
    (case x1_TooLarge => k_exc)
    (case x2_TooLarge => k_is)
    (case x3_TooLarge => k_is)
    (case x4_TooLarge => k_is)
    (case y1_ParseError => k_is)
    (case y2_ParseError => k_is)
    (case y3_ParseError => k_is)
    (case y4_ParseError => k_is)
    (case y5_ParseError => k_is)
    (case y6_ParseError => k_is)
    (case y7_ParseError => k_is)
    (case y8_ParseError => k_is)
    (case t_ParseError_InvalidPath => first | kernel_rfl | k_is)
    (case t_ParseError_InvalidChart => first | kernel_rfl | k_is)
    (case t_ParseError_InvalidAddress => first | kernel_rfl | k_is)
    (case t_ParseError_InvalidWhat => first | kernel_rfl | k_is)
    (case t_ParseError_NotUnknown => first | kernel_rfl | k_is)
    (case t_ParseError_InvalidMode => first | kernel_rfl | k_is)
    (case t_ParseError_InvalidTree => first | kernel_rfl | k_is)
    (case t_ParseError_InvalidBase => first | kernel_rfl | k_is)
    (case t_ParseError_TooLarge => first | kernel_rfl | k_is)
    (case t_ParseError_ParseError => first | kernel_rfl | k_is)
    (case t_ParseError_ValueError => first | kernel_rfl | k_is)
    (case h_ParseError => first | kernel_rfl | k_is)
    (case v_MAX_PARTS => k_is)
    (case v_MAX_NAME => k_is)
    (case v_LETTERS => k_is)
    (case v_SELF => k_is)
    (case v_UP => k_is)
    (case v_ROOT => k_is)
    (case b_len => k_is)
    (case b_all => k_is)
    (case b_any => k_is)
    (case b_tuple => k_is)
    (case b_list => k_is)
    (case b_int => k_is)
    (case b_max => k_is)
    (case b_min => k_is)
    (case b_isinstance => k_is)
    (case b_range => k_is)
    (case b_zip => k_is)
    (case b_str => k_is)
    (case b_bool => k_is)
    (case b_ValueError => k_is)
    (case p1 => first | kernel_rfl | k_is)
    (case p2 => first | kernel_rfl | k_is)
#print axioms PySem.Challenge.cw_everytree_k01_paths_holds

