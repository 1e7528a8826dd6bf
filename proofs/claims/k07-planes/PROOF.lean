import PyProof.Rows.All
import Wide.All
import OpenK.AllK
import Wide.FinOn
import HandS.ForMost
import HandS.ForExc
import HandS.Defaults
import HandS.Lambda
import HandS.ExcCtx
import HandS.Wide
import HandS.TupAny
import HandS.TupMul
import HandS.IsInst
import HandS.Style
import HandS.Conv
import KE.GoesNew
import HandS.Iter
import HandS.HotCalls
import HandS.ExcIs
import HandS.ExcField
import HandS.Text
import HandS.HeadHook1
import HandS.Words
import HandS.HeadHook4
import HandS.EndTab
import KE.KStateDown
import HandS.Head0
import HandS.Head1
import HandS.Head2
import HandS.HeadEnd
import HandS.HeadHook3
import HandS.HeadWalk
import PySem.Challenge.RW_comethere_k07_planes_that_are_met
set_option Elab.async false
set_option linter.all false
set_option maxRecDepth 100000
set_option maxHeartbeats 4000000
/-! The data layer: values without addresses, what stands for them, what an expression, a statement, a def does to them. -/
namespace Dt
open PySem PySem.Spec PyProof.Rows L2

/-! ### data -/
/-- a value as plain data; ref k: the k-th object of the store; adr: an object of the text's own top -/
inductive D where
  | non | bl (b : Bool) | int (i : Int) | str (x : Str) | tup (l : List D) | lst (l : List D) | ref (k : Nat) | adr (a : Addr)
/-- an object of the store -/
inductive Ob where
  | lst (l : List D) | ins (C : Addr) (fs : List (Str × D))
abbrev Sto := List Ob
/-- an exception: its class by name, its field -/
structure Ex where
  nm : Str
  lim : Option Int := none
inductive Out (α : Type) where
  | ok (a : α) (s : Sto) | exc (e : Ex) (s : Sto) | bad
abbrev M (α : Type) := Sto → Out α
def M.pure {α : Type} (a : α) : M α := fun s => .ok a s
def M.bind {α β : Type} (m : M α) (f : α → M β) : M β := fun s => match m s with
  | .ok a s' => f a s'
  | .exc e s' => .exc e s'
  | .bad => .bad
def M.bad {α : Type} : M α := fun _ => .bad
instance : Monad M where
  pure := M.pure
  bind := M.bind
theorem pure_def {α : Type} (a : α) (s : Sto) : (Pure.pure a : M α) s = .ok a s := rfl
theorem bind_def {α β : Type} (m : M α) (f : α → M β) (s : Sto) : (m >>= f) s = (match m s with
  | .ok a s' => f a s'
  | .exc e s' => .exc e s'
  | .bad => .bad) := rfl
/-- a slot of a frame: unset, data, a list of the frame's own (that it changes) -/
inductive Sl where
  | no | va (d : D) | ow (ds : List D)
abbrev Env := List Sl
abbrev SE := Env → M D
abbrev SB := Env → M Bool
abbrev SA := Env → M (List D)
inductive Ctl where
  | nx | rt (d : D) | bk | ct
abbrev SS := Env → M (Ctl × Env)

/-! ### what stands for data -/
/-- what stays; what others hold to change; where the store's objects lie -/
structure Rho where
  fl : Hp
  fr : Hp
  ad : List Addr
def Rho.le (r r' : Rho) : Prop := (∀ a o, r.fl a = some o → r'.fl a = some o) ∧ r'.fr = r.fr ∧ ∃ m, r'.ad = r.ad ++ m
/-- the same, the frame's own may have changed: b stays -/
def Rho.les (b : Hp) (r r' : Rho) : Prop := (∀ a o, r.fl a = some o → r'.fl a = some o) ∧ (∀ a o, b a = some o → r'.fr a = some o) ∧ ∃ m, r'.ad = r.ad ++ m
theorem Rho.le.refl (r : Rho) : r.le r := ⟨fun _ _ h => h, rfl, [], by simp⟩
theorem Rho.le.trans {r r1 r2 : Rho} (a : r.le r1) (b : r1.le r2) : r.le r2 := by
  obtain ⟨a1, a2, m, a3⟩ := a
  obtain ⟨b1, b2, n, b3⟩ := b
  exact ⟨fun x o h => b1 x o (a1 x o h), b2.trans a2, m ++ n, by rw [b3, a3, List.append_assoc]⟩

mutual
inductive Rep (K : PySem.W.Frag) (r : Rho) : V → D → Prop
  | non : Rep K r .non .non
  | bl (b : Bool) : Rep K r (.bl b) (.bl b)
  | int (i : Int) : Rep K r (.int i) (.int i)
  | str (x : Str) : Rep K r (.str x) (.str x)
  | tup {a : Addr} {xs : List V} {ds : List D} : SqT K r.fl a xs → Reps K r xs ds → Rep K r (.ref a) (.tup ds)
  | lst {a : Addr} {xs : List V} {ds : List D} : SqL K r.fl a xs → Reps K r xs ds → Rep K r (.ref a) (.lst ds)
  | ref {a : Addr} {k : Nat} : r.ad[k]? = some a → Rep K r (.ref a) (.ref k)
  | adr (a : Addr) : Rep K r (.ref a) (.adr a)
inductive Reps (K : PySem.W.Frag) (r : Rho) : List V → List D → Prop
  | nil : Reps K r [] []
  | cons {v : V} {vs : List V} {d : D} {ds : List D} : Rep K r v d → Reps K r vs ds → Reps K r (v :: vs) (d :: ds)
end
section
variable {K : PySem.W.Frag} {r r' : Rho}
theorem sqT_mono {H H' : Hp} (h : ∀ a o, H a = some o → H' a = some o) {a : Addr} {xs : List V} (s : SqT K H a xs) : SqT K H' a xs := by
  rcases s with (s | ⟨o, s⟩) | s
  · exact .inl (.inl (h _ _ s))
  · exact .inl (.inr ⟨o, h _ _ s⟩)
  · exact .inr s
theorem sqL_mono {H H' : Hp} (h : ∀ a o, H a = some o → H' a = some o) {a : Addr} {xs : List V} (s : SqL K H a xs) : SqL K H' a xs := by
  rcases s with (s | ⟨o, s⟩) | s
  · exact .inl (.inl (h _ _ s))
  · exact .inl (.inr ⟨o, h _ _ s⟩)
  · exact .inr s
theorem ad_mono (m : ∃ m, r'.ad = r.ad ++ m) {k : Nat} {a : Addr} (h : r.ad[k]? = some a) : r'.ad[k]? = some a := by
  obtain ⟨m, e⟩ := m
  rw [e]
  have hk : k < r.ad.length := (List.getElem?_eq_some_iff.mp h).1
  rw [List.getElem?_append_left hk]
  exact h
mutual
theorem Rep.up (hf : ∀ a o, r.fl a = some o → r'.fl a = some o) (ha : ∃ m, r'.ad = r.ad ++ m) : ∀ {v : V} {d : D}, Rep K r v d → Rep K r' v d
  | _, _, .non => .non
  | _, _, .bl b => .bl b
  | _, _, .int i => .int i
  | _, _, .str x => .str x
  | _, _, .tup s q => .tup (sqT_mono hf s) (Reps.up hf ha q)
  | _, _, .lst s q => .lst (sqL_mono hf s) (Reps.up hf ha q)
  | _, _, .ref h => .ref (ad_mono ha h)
  | _, _, .adr a => .adr a
theorem Reps.up (hf : ∀ a o, r.fl a = some o → r'.fl a = some o) (ha : ∃ m, r'.ad = r.ad ++ m) : ∀ {vs : List V} {ds : List D}, Reps K r vs ds → Reps K r' vs ds
  | _, _, .nil => .nil
  | _, _, .cons p q => .cons (Rep.up hf ha p) (Reps.up hf ha q)
end
theorem Rep.mono (l : r.le r') {v : V} {d : D} (h : Rep K r v d) : Rep K r' v d := h.up l.1 l.2.2
theorem Reps.mono (l : r.le r') {v : List V} {d : List D} (h : Reps K r v d) : Reps K r' v d := h.up l.1 l.2.2
theorem Reps.length : ∀ {vs : List V} {ds : List D}, Reps K r vs ds → vs.length = ds.length
  | _, _, .nil => rfl
  | _, _, .cons _ q => congrArg Nat.succ q.length
theorem Reps.get : ∀ {vs : List V} {ds : List D} {i : Nat} {d : D}, Reps K r vs ds → ds[i]? = some d → ∃ v, vs[i]? = some v ∧ Rep K r v d
  | _, _, _, _, .nil, h => by simp at h
  | _, _, 0, _, .cons p _, h => by
    simp at h
    subst h
    exact ⟨_, rfl, p⟩
  | _, _, i + 1, _, .cons _ q, h => by
    obtain ⟨v, h1, h2⟩ := Reps.get (i := i) q (by simpa using h)
    exact ⟨v, by simpa using h1, h2⟩
theorem Reps.getV : ∀ {vs : List V} {ds : List D} {i : Nat} {v : V}, Reps K r vs ds → vs[i]? = some v → ∃ d, ds[i]? = some d ∧ Rep K r v d
  | _, _, _, _, .nil, h => by simp at h
  | _, _, 0, _, .cons p _, h => by
    simp at h
    subst h
    exact ⟨_, rfl, p⟩
  | _, _, i + 1, _, .cons _ q, h => by
    obtain ⟨v, h1, h2⟩ := Reps.getV (i := i) q (by simpa using h)
    exact ⟨v, by simpa using h1, h2⟩
theorem Reps.append : ∀ {vs : List V} {ds : List D} {ws : List V} {es : List D}, Reps K r vs ds → Reps K r ws es → Reps K r (vs ++ ws) (ds ++ es)
  | _, _, _, _, .nil, q => q
  | _, _, _, _, .cons p t, q => .cons p (t.append q)
theorem Reps.one {v : V} {d : D} (h : Rep K r v d) : Reps K r [v] [d] := .cons h .nil
theorem Reps.take : ∀ {vs : List V} {ds : List D} (n : Nat), Reps K r vs ds → Reps K r (vs.take n) (ds.take n)
  | _, _, 0, _ => .nil
  | _, _, n + 1, .nil => .nil
  | _, _, n + 1, .cons p q => .cons p (q.take n)
theorem Reps.drop : ∀ {vs : List V} {ds : List D} (n : Nat), Reps K r vs ds → Reps K r (vs.drop n) (ds.drop n)
  | _, _, 0, q => q
  | _, _, n + 1, .nil => .nil
  | _, _, n + 1, .cons p q => q.drop n
theorem Reps.set : ∀ {vs : List V} {ds : List D} (n : Nat) {v : V} {d : D}, Reps K r vs ds → Rep K r v d → Reps K r (vs.set n v) (ds.set n d)
  | _, _, _, _, _, .nil, _ => .nil
  | _, _, 0, _, _, .cons _ q, h => .cons h q
  | _, _, n + 1, _, _, .cons p q, h => .cons p (q.set n h)
theorem Reps.rev {vs : List V} {ds : List D} (h : Reps K r vs ds) : Reps K r vs.reverse ds.reverse := by
  induction ds generalizing vs with
  | nil =>
    cases h
    exact .nil
  | cons d ds ih =>
    cases h with
    | cons p q =>
      rw [List.reverse_cons, List.reverse_cons]
      exact (ih q).append (.one p)
end

/-! ### the store, the state -/
/-- the fields of an instance -/
def Flds (K : PySem.W.Frag) (r : Rho) : List (Str × V) → List (Str × D) → Prop
  | [], [] => True
  | (x, v) :: fs, (y, d) :: gs => x = y ∧ Rep K r v d ∧ Flds K r fs gs
  | _, _ => False
theorem Flds.up {K : PySem.W.Frag} {r r' : Rho} (hf : ∀ a o, r.fl a = some o → r'.fl a = some o) (ha : ∃ m, r'.ad = r.ad ++ m) : ∀ {fs : List (Str × V)} {gs : List (Str × D)}, Flds K r fs gs → Flds K r' fs gs
  | [], [], _ => trivial
  | (x, v) :: fs, (y, d) :: gs, h => ⟨h.1, h.2.1.up hf ha, Flds.up hf ha h.2.2⟩
  | [], _ :: _, h => h.elim
  | _ :: _, [], h => h.elim
def ObR (K : PySem.W.Frag) (r : Rho) (H : Hp) (a : Addr) : Ob → Prop
  | .lst ds => ∃ xs, H a = some (.lst xs) ∧ Reps K r xs ds
  | .ins C gs => ∃ dx fs, H a = some (.ins C dx fs) ∧ Flds K r fs gs
/-- no table among what is told -/
def NoTab (H : Hp) : Prop := ∀ a ps, H a ≠ some (.tbl ps)
structure RelS (K : PySem.W.Frag) (T : List (Addr × Str)) (r : Rho) (H : Hp) (st : Sto) : Prop where
  low : ∀ a o, r.fl a = some o → H a = some o
  frm : ∀ a o, r.fr a = some o → H a = some o
  dis : ∀ a o, r.fr a = some o → r.fl a = none
  len : r.ad.length = st.length
  nd : r.ad.Nodup
  ads : ∀ a ∈ r.ad, r.fl a = none ∧ r.fr a = none
  obs : ∀ (k : Nat) (a : Addr) (ob : Ob), r.ad[k]? = some a → st[k]? = some ob → ObR K r H a ob
  tab : LamX.Tabs T H
  ntl : NoTab r.fl
  ntf : NoTab r.fr
theorem ObR.there {K : PySem.W.Frag} {r : Rho} {H : Hp} {a : Addr} : ∀ {ob : Ob}, ObR K r H a ob → ∃ o, H a = some o ∧ (∀ ps, o ≠ .tbl ps)
  | .lst _, ⟨xs, h, _⟩ => ⟨_, h, fun _ z => by cases z⟩
  | .ins _ _, ⟨dx, fs, h, _⟩ => ⟨_, h, fun _ z => by cases z⟩
section
variable {K : PySem.W.Frag} {T : List (Addr × Str)} {r r' : Rho} {H H' : Hp} {st st' : Sto}
theorem RelS.fresh_fl (R : RelS K T r H st) {p : Addr} (h : H p = none) : r.fl p = none := by
  cases e : r.fl p with
  | none => rfl
  | some o =>
    rw [R.low p o e] at h
    cases h
theorem RelS.fresh_fr (R : RelS K T r H st) {p : Addr} (h : H p = none) : r.fr p = none := by
  cases e : r.fr p with
  | none => rfl
  | some o =>
    rw [R.frm p o e] at h
    cases h
theorem RelS.fresh_ad (R : RelS K T r H st) {p : Addr} (h : H p = none) : p ∉ r.ad := fun m => by
  obtain ⟨k, hk, e⟩ := List.mem_iff_getElem.mp m
  have hk2 : k < st.length := by rw [← R.len]; exact hk
  obtain ⟨o, e2, _⟩ := (R.obs k p st[k] (by rw [List.getElem?_eq_getElem hk, e]) (List.getElem?_eq_getElem hk2)).there
  rw [h] at e2
  cases e2
/-- an object that is new: laid below -/
def Rho.add (r : Rho) (p : Addr) (o : HO) : Rho := { r with fl := upd r.fl p o }
theorem Rho.add_le {p : Addr} {o : HO} (h : r.fl p = none) : r.le (r.add p o) :=
  ⟨fun a u e => by
    show upd r.fl p o a = some u
    rw [upd_ne (ne_of_none e h)]
    exact e, rfl, [], by simp [Rho.add]⟩
theorem Rho.le.les {b : Hp} {r r' : Rho} (h : r.le r') (hb : ∀ a o, b a = some o → r.fr a = some o) : Rho.les b r r' := ⟨h.1, fun a o e => by rw [h.2.1]; exact hb a o e, h.2.2⟩
theorem Rho.les.refl {b : Hp} {r : Rho} (hb : ∀ a o, b a = some o → r.fr a = some o) : Rho.les b r r := (Rho.le.refl r).les hb
theorem Rho.les.trans {b : Hp} {r r1 r2 : Rho} (x : Rho.les b r r1) (y : Rho.les b r1 r2) : Rho.les b r r2 := by
  obtain ⟨a1, _, m, a3⟩ := x
  obtain ⟨b1, b2, n, b3⟩ := y
  exact ⟨fun x o h => b1 x o (a1 x o h), b2, m ++ n, by rw [b3, a3, List.append_assoc]⟩
theorem RelS.add (R : RelS K T r H st) {p : Addr} {o : HO} (h : H p = none) (no : ∀ ps, o ≠ .tbl ps) : RelS K T (r.add p o) (upd H p o) st := by
  have hl := R.fresh_fl h
  have hf := R.fresh_fr h
  have ha := R.fresh_ad h
  have up : ∀ a u, H a = some u → upd H p o a = some u := fun a u e => by rw [upd_ne (ne_of_none e h)]; exact e
  refine ⟨fun a u e => ?_, fun a u e => up a u (R.frm a u e), fun a u e => ?_, R.len, R.nd, fun a m => ?_, fun k a ob e1 e2 => ?_, R.tab.ext up, fun a ps e => ?_, R.ntf⟩
  · by_cases q : a = p
    · subst q
      have e' : upd r.fl a o a = some u := e
      rw [upd_same] at e'
      rw [upd_same]
      exact e'
    · have e' : upd r.fl p o a = some u := e
      rw [upd_ne q] at e' ⊢
      exact R.low a u e'
  · show upd r.fl p o a = none
    rw [upd_ne (ne_of_none e hf)]
    exact R.dis a u e
  · have hp : a ≠ p := fun z => ha (z ▸ m)
    refine ⟨?_, (R.ads a m).2⟩
    show upd r.fl p o a = none
    rw [upd_ne hp]
    exact (R.ads a m).1
  · have q := R.obs k a ob e1 e2
    have l : r.le (r.add p o) := Rho.add_le hl
    cases ob with
    | lst ds =>
      obtain ⟨xs, h1, h2⟩ := q
      exact ⟨xs, up _ _ h1, h2.mono l⟩
    | ins C gs =>
      obtain ⟨dx, fs, h1, h2⟩ := q
      exact ⟨dx, fs, up _ _ h1, h2.up l.1 l.2.2⟩
  · have e' : upd r.fl p o a = some (.tbl ps) := e
    by_cases q : a = p
    · subst q
      rw [upd_same] at e'
      exact no ps (Option.some.inj e')
    · rw [upd_ne q] at e'
      exact R.ntl a ps e'
end
end Dt

set_option maxHeartbeats 4000000
namespace Dt
open PySem PySem.Spec PyProof.Rows L2
/-! ### the state of a def that runs -/
/-- an exception as it flies -/
def ExR (mg : Str → Option Value) (cls : Value) (dd : Option Addr) (r : Rho) (e : Ex) : Prop :=
  (mg e.nm = some cls ∨ (mg e.nm = none ∧ bootBuiltins e.nm = some cls)) ∧ (match e.lim with
    | none => dd = none
    | some n => ∃ d, dd = some d ∧ r.fl d = some (.xd [(("limit" : Str), .int n)]))
structure Rel (K : PySem.W.Frag) (T : List (Addr × Str)) (b : Hp) (r : Rho) (σ : L2.St) (H : Hp) (env : Env) (st : Sto) : Prop where
  s : RelS K T r H st
  bas : ∀ a o, b a = some o → r.fr a = some o
  ln : σ.length = env.length
  val : ∀ (i : Nat) d, env[i]? = some (.va d) → ∃ v, σ[i]? = some (some v) ∧ Rep K r v d
  own : ∀ (i : Nat) ds, env[i]? = some (.ow ds) → ∃ a xs, σ[i]? = some (some (.ref a)) ∧ b a = none ∧ r.fr a = some (.lst xs) ∧ Reps K r xs ds
  uni : ∀ (i j : Nat) ds es a, env[i]? = some (.ow ds) → env[j]? = some (.ow es) → σ[i]? = some (some (.ref a)) → σ[j]? = some (some (.ref a)) → i = j
/-- what is wanted behind a piece of code -/
def Aft {α β : Type} (RR : Rho → β → α → Prop) (K : PySem.W.Frag) (T : List (Addr × Str)) (mg : Str → Option Value) (E : XK) (r : Rho) (o : Out α) (Q : β → Hp → Prop) : Prop :=
  match o with
  | .ok x st' => ∀ v H' r', r.le r' → RelS K T r' H' st' → RR r' v x → Q v H'
  | .exc e st' => ∀ cls dd H' r', r.le r' → RelS K T r' H' st' → ExR mg cls dd r' e → E cls dd H'
  | .bad => False
def rd {α β : Type} (RR : Rho → β → α → Prop) (K : PySem.W.Frag) (T : List (Addr × Str)) (mg : Str → Option Value) (E : XK) (F : Env → M α) : L2.St → Hp → (β → Hp → Prop) → Prop :=
  fun σ H Q => ∃ b r env st, Rel K T b r σ H env st ∧ Aft RR K T mg E r (F env st) Q
abbrev RB : Rho → Bool → Bool → Prop := fun _ x y => x = y
abbrev rdE (K : PySem.W.Frag) (T : List (Addr × Str)) (mg : Str → Option Value) (E : XK) (F : SE) : TE := rd (Rep K) K T mg E F
abbrev rdT (K : PySem.W.Frag) (T : List (Addr × Str)) (mg : Str → Option Value) (E : XK) (F : SB) : TT := rd RB K T mg E F
abbrev rdA (K : PySem.W.Frag) (T : List (Addr × Str)) (mg : Str → Option Value) (E : XK) (F : SA) : TA := rd (Reps K) K T mg E F
section
variable {K : PySem.W.Frag} {T : List (Addr × Str)} {mg : Str → Option Value} {E : XK} {b : Hp} {r r' : Rho} {σ : L2.St} {H H' : Hp} {env : Env} {st st' : Sto}
theorem Rel.go (R : Rel K T b r σ H env st) (l : r.le r') (S : RelS K T r' H' st') : Rel K T b r' σ H' env st' :=
  ⟨S, fun a o e => by rw [l.2.1]; exact R.bas a o e, R.ln, fun i d e => by
    obtain ⟨v, h1, h2⟩ := R.val i d e
    exact ⟨v, h1, h2.mono l⟩, fun i ds e => by
    obtain ⟨a, xs, h1, h2, h3, h4⟩ := R.own i ds e
    exact ⟨a, xs, h1, h2, by rw [l.2.1]; exact h3, h4.mono l⟩, R.uni⟩
theorem Aft.from {α β : Type} {RR : Rho → β → α → Prop} {o : Out α} {Q : β → Hp → Prop} (l : r.le r') (h : Aft RR K T mg E r o Q) : Aft RR K T mg E r' o Q := by
  cases o with
  | ok x s => exact fun v H' r2 l2 S p => h v H' r2 (l.trans l2) S p
  | exc e s => exact fun c d H' r2 l2 S p => h c d H' r2 (l.trans l2) S p
  | bad => exact h
theorem Aft.imp {α β : Type} {RR : Rho → β → α → Prop} {o : Out α} {Q Q' : β → Hp → Prop} (h : Aft RR K T mg E r o Q) (q : ∀ v H, Q v H → Q' v H) : Aft RR K T mg E r o Q' := by
  cases o with
  | ok x s => exact fun v H' r2 l2 S p => q _ _ (h v H' r2 l2 S p)
  | exc e s => exact h
  | bad => exact h
/-- one thing, then what hangs on it -/
theorem Aft.bind {α β γ δ : Type} {RR : Rho → β → α → Prop} {SS : Rho → δ → γ → Prop} {m : M α} {f : α → M γ} {Q : β → Hp → Prop} {Q' : δ → Hp → Prop} (h : Aft SS K T mg E r ((m >>= f) st) Q')
    (k : ∀ x st1 v H1 r1, r.le r1 → RelS K T r1 H1 st1 → RR r1 v x → Aft SS K T mg E r1 (f x st1) Q' → Q v H1) : Aft RR K T mg E r (m st) Q := by
  rw [bind_def] at h
  cases e : m st with
  | ok x s1 =>
    rw [e] at h
    exact fun v H1 r1 l S p => k x s1 v H1 r1 l S p (Aft.from l h)
  | exc e1 s1 =>
    rw [e] at h
    exact h
  | bad =>
    rw [e] at h
    exact h
theorem Aft.ok {α β : Type} {RR : Rho → β → α → Prop} {x : α} {Q : β → Hp → Prop} (h : Aft RR K T mg E r (.ok x st) Q) {v : β} (S : RelS K T r H st) (p : RR r v x) : Q v H := h v H r (.refl r) S p
theorem rd.bind {α β γ δ : Type} {RR : Rho → β → α → Prop} {SS : Rho → δ → γ → Prop} {F : Env → M α} {G : α → Env → M γ} {Q : β → Hp → Prop} {Q' : δ → Hp → Prop} (h : rd SS K T mg E (fun env => F env >>= fun x => G x env) σ H Q')
    (k : ∀ b r env st x v H1, Rel K T b r σ H1 env st → RR r v x → Aft SS K T mg E r (G x env st) Q' → Q v H1) : rd RR K T mg E F σ H Q := by
  obtain ⟨b, r, env, st, R, a⟩ := h
  exact ⟨b, r, env, st, R, Aft.bind a fun x st1 v H1 r1 l S p q => k b r1 env st1 x v H1 (R.go l S) p q⟩
end
/-! ### reading less -/
section
variable {X : Cx}
theorem peI {e : Expr} {t t' : TE} (h : PE X e t') (w : ∀ σ H Q, t σ H Q → t' σ H Q) : PE X e t := ⟨fun pins s σ H Q I q => h.run pins s σ H Q I (w σ H Q q)⟩
theorem ptI {e : Expr} {t t' : TT} (h : PT X e t') (w : ∀ σ H Q, t σ H Q → t' σ H Q) : PT X e t := ⟨fun pins s σ H Q I q => h.run pins s σ H Q I (w σ H Q q)⟩
theorem pwI {e : Expr} {t t' : TT} (h : PW X e t') (w : ∀ σ H Q, t σ H Q → t' σ H Q) : PW X e t := ⟨fun wh pins s σ H Q I q => h.run wh pins s σ H Q I (w σ H Q q)⟩
theorem paI {e : List Expr} {t t' : TA} (h : PA X e t') (w : ∀ σ H Q, t σ H Q → t' σ H Q) : PA X e t := ⟨fun pos pins s σ H Q I q => h.run pos pins s σ H Q I (w σ H Q q)⟩
theorem psI {e : Stmt} {t t' : TS} (h : PS X e t') (w : ∀ D σ H, t D σ H → t' D σ H) : PS X e t := ⟨fun pins s σ H D I q => h.run pins s σ H D I (w D σ H q)⟩
theorem pssI {e : List Stmt} {t t' : TS} (h : PSs X e t') (w : ∀ D σ H, t D σ H → t' D σ H) : PSs X e t := ⟨fun pins s σ H D I q => h.run pins s σ H D I (w D σ H q)⟩
end

/-! ### expressions -/
def sVar (i : Nat) : SE := fun env => match env[i]? with
  | some (.va d) => M.pure d
  | _ => M.bad
def sC (d : D) : SE := fun _ => M.pure d
def sOp2 (op : D → D → M D) (F G : SE) : SE := fun env => F env >>= fun x => G env >>= fun y => op x y
def sOp1 (op : D → M D) (F : SE) : SE := fun env => F env >>= fun x => op x
def sNil : SA := fun _ => M.pure []
def sCons (F : SE) (G : SA) : SA := fun env => F env >>= fun x => G env >>= fun xs => M.pure (x :: xs)
def sCall (f : List D → M D) (G : SA) : SE := fun env => G env >>= fun xs => f xs
/-- a two-place operation of data, by its rule -/
def OpS (K : PySem.W.Frag) (op : D → D → M D) (r2 : R2) : Prop := ∀ (T : List (Addr × Str)) (mg : Str → Option Value) (E : XK) (r : Rho) (H : Hp) (st : Sto) (x y : V) (dx dy : D) (Q : VK),
  RelS K T r H st → Rep K r x dx → Rep K r y dy → Aft (Rep K) K T mg E r (op dx dy st) Q → r2 x y H Q
def UnS (K : PySem.W.Frag) (op : D → M D) (r1 : V → Hp → VK → Prop) : Prop := ∀ (T : List (Addr × Str)) (mg : Str → Option Value) (E : XK) (r : Rho) (H : Hp) (st : Sto) (x : V) (dx : D) (Q : VK),
  RelS K T r H st → Rep K r x dx → Aft (Rep K) K T mg E r (op dx st) Q → r1 x H Q
def CbS (K : PySem.W.Frag) (f : List D → M D) (rc : List V → Hp → VK → Prop) : Prop := ∀ (T : List (Addr × Str)) (mg : Str → Option Value) (E : XK) (r : Rho) (H : Hp) (st : Sto) (xs : List V) (ds : List D) (Q : VK),
  RelS K T r H st → Reps K r xs ds → Aft (Rep K) K T mg E r (f ds st) Q → rc xs H Q
section
variable {X : Cx} {T : List (Addr × Str)} {mg : Str → Option Value} {E : XK} {a b c : Expr} {F G : SE} {pos : Pos}
theorem d_var (i : Nat) {x : Str} {pos : Pos} (hN : X.N[i]? = some x := by rfl) (hv : Vis X.env.scope x := by first | exact Or.inl rfl | exact Or.inr (Or.inl rfl) | exact Or.inr (Or.inr rfl))
    (hd : (x == ("__debug__" : Str)) = false := by decide) (hcd : (x == ("__classdict__" : Str)) = false := by decide) : PE X (.Name x pos) (rdE X.K T mg E (sVar i)) :=
  peI (pe_var hN hv hd hcd) fun σ H Q ⟨b, r, env, st, R, h⟩ => by
    unfold sVar at h
    cases e : env[i]? with
    | none =>
      rw [e] at h
      exact h.elim
    | some s =>
      rw [e] at h
      cases s with
      | va d =>
        obtain ⟨v, h1, h2⟩ := R.val i d e
        exact ⟨v, h1, h v H r (.refl r) R.s h2⟩
      | no => exact h.elim
      | ow ds => exact h.elim
theorem d_c {e : Expr} {v : V} {d : D} (h : PE X e (tC v)) (hr : ∀ r, Rep X.K r v d) : PE X e (rdE X.K T mg E (sC d)) :=
  peI h fun σ H Q ⟨b, r, env, st, R, h⟩ => h v H r (.refl r) R.s (hr r)
theorem d_int {i : Int} {j pos} : PE X (.Constant (.int i) j pos) (rdE X.K T mg E (sC (.int i))) := d_c pe_int fun _ => .int i
theorem d_bl {i : Bool} {j pos} : PE X (.Constant (.bool i) j pos) (rdE X.K T mg E (sC (.bl i))) := d_c pe_bl fun _ => .bl i
theorem d_non {j pos} : PE X (.Constant .none j pos) (rdE X.K T mg E (sC .non)) := d_c pe_non fun _ => .non
theorem d_str {x : Str} {j pos} : PE X (.Constant (.str x) j pos) (rdE X.K T mg E (sC (.str x))) := d_c pe_str fun _ => .str x
theorem d_glob {x : Str} {v : V} {u : Value} {d : D} {pos : Pos} (hg : Gl X x) (hm : X.mg x = some u) (hv : RelV v u) (hr : ∀ r, Rep X.K r v d) (hd : (x == ("__debug__" : Str)) = false := by decide) : PE X (.Name x pos) (rdE X.K T mg E (sC d)) :=
  d_c (pe_glob hg hm hv hd) hr
/-- two expressions in a row, for operators -/
theorem two {r2 : R2} {op : D → D → M D} (hs : OpS X.K op r2) (σ : L2.St) (H : Hp) (Q : VK) (h : rdE X.K T mg E (sOp2 op F G) σ H Q) : tOp r2 (rdE X.K T mg E F) (rdE X.K T mg E G) σ H Q :=
  rd.bind (G := fun x env => G env >>= fun y => op x y) h fun b r env st x v H1 R p q =>
    ⟨b, r, env, st, R, Aft.bind q fun y st2 w H2 r2 l S p2 q2 => hs T mg E r2 H2 st2 v w x y Q S (p.mono l) p2 q2⟩
theorem d_op {o : Operator} {r2 : R2} {op : D → D → M D} (ho : OpR X (binaryOp o) r2) (hs : OpS X.K op r2) (ha : PE X a (rdE X.K T mg E F)) (hb : PE X b (rdE X.K T mg E G)) : PE X (.BinOp a o b pos) (rdE X.K T mg E (sOp2 op F G)) :=
  peI (pe_op ho ha hb) (two hs)
theorem d_un {o : UnaryOp} {r1 : V → Hp → VK → Prop} {op : D → M D} (ho : UnR X (unaryOp o) r1) (hs : UnS X.K op r1) (ha : PE X a (rdE X.K T mg E F)) : PE X (.UnaryOp o a pos) (rdE X.K T mg E (sOp1 op F)) :=
  peI (pe_un ho ha) fun σ H Q h => rd.bind (G := fun x _ => op x) h fun b r env st x v H1 R p q => hs T mg E r H1 st v x Q R.s p q
theorem d_cmp {o : CmpOp} {r2 : R2} {op : D → D → M D} (ho : OpR X (compareOp o) r2) (hs : OpS X.K op r2) (ha : PE X a (rdE X.K T mg E F)) (hb : PE X b (rdE X.K T mg E G)) (hm : behindInMarks o b = false) : PE X (.Compare a [o] [b] pos) (rdE X.K T mg E (sOp2 op F G)) :=
  peI (pe_cmpR ho ha hb hm) (two hs)
/-! ### arguments, calls -/
structure DA (X : Cx) (T : List (Addr × Str)) (mg : Str → Option Value) (E : XK) (es : List Expr) (Fs : SA) : Prop where
  pa : PA X es (rdA X.K T mg E Fs)
  len : ∀ env st ds st', Fs env st = .ok ds st' → ds.length = es.length
theorem d_nil : DA X T mg E [] sNil := ⟨paI pa_nil fun σ H Q ⟨b, r, env, st, R, h⟩ => h [] H r (.refl r) R.s .nil, fun env st ds st' e => by
  have e' : Out.ok ([] : List D) st = .ok ds st' := e
  injection e' with e1 e2
  rw [← e1]
  rfl⟩
theorem d_cons {es : List Expr} {Fs : SA} (ha : PE X a (rdE X.K T mg E F)) (hr : DA X T mg E es Fs) (hs : starEach (a :: es) X.env = (false, eval a X.env) :: starEach es X.env := by rfl) : DA X T mg E (a :: es) (sCons F Fs) :=
  ⟨paI (pa_cons ha hr.pa hs) fun σ H Q h => rd.bind (G := fun x env => Fs env >>= fun xs => M.pure (x :: xs)) h fun b r env st x v H1 R p q =>
    ⟨b, r, env, st, R, Aft.bind (RR := Reps X.K) q fun xs st2 vs H2 r2 l S p2 q2 => q2 (v :: vs) H2 r2 (.refl r2) S (.cons (p.mono l) p2)⟩, fun env st ds st' e => by
    unfold sCons at e
    rw [bind_def] at e
    cases e1 : F env st with
    | ok x s1 =>
      rw [e1] at e
      have e2 : (Fs env >>= fun xs => M.pure (x :: xs)) s1 = .ok ds st' := e
      rw [bind_def] at e2
      cases e3 : Fs env s1 with
      | ok xs s2 =>
        rw [e3] at e2
        have e4 : Out.ok (x :: xs) s2 = .ok ds st' := e2
        injection e4 with e5 e6
        rw [← e5]
        exact congrArg Nat.succ (hr.len env s1 xs s2 e3)
      | exc e4 s2 =>
        rw [e3] at e2
        cases e2
      | bad =>
        rw [e3] at e2
        cases e2
    | exc e4 s1 =>
      rw [e1] at e
      cases e
    | bad =>
      rw [e1] at e
      cases e⟩
/-- a def of the text, what it does -/
def spD (K : PySem.W.Frag) (T : List (Addr × Str)) (mg : Str → Option Value) (n : Nat) (f : List D → M D) : Sp := fun vs H Q E =>
  vs.length = n ∧ ∃ ds r st, RelS K T r H st ∧ Reps K r vs ds ∧ Aft (Rep K) K T mg E r (f ds st) Q
structure DFn (P : Program) (w : World) (K : PySem.W.Frag) (T : List (Addr × Str)) (mg : Str → Option Value) (base : Heap) (k : Nat) (x : Str) (n : Nat) (f : List D → M D) : Prop where
  ex : ∃ (fa : Addr) (fd : FuncData) (ps : List Str), mg x = some (.ref fa) ∧ PySem.W.keepIn K (.ref fa) = true ∧ Binds K fd ps [] ∧ FnOk P w K mg base (L2N.CX P w) k fa fd ps (spD K T mg n f)
theorem DFn.mono {P : Program} {w : World} {K : PySem.W.Frag} {T : List (Addr × Str)} {mg : Str → Option Value} {base : Heap} {j k : Nat} {x : Str} {n : Nat} {f : List D → M D} (h : DFn P w K T mg base j x n f) (l : j ≤ k) : DFn P w K T mg base k x n f := by
  obtain ⟨fa, fd, ps, h1, h2, h3, h4⟩ := h.ex
  exact ⟨fa, fd, ps, h1, h2, h3, h4.mono l⟩
theorem d_call {k : Nat} {x : Str} {f : List D → M D} {es : List Expr} {Fs : SA} {p : Pos} (G : DFn X.prog X.w X.K T X.mg X.base k x (es.length + 1) f) (hr : Room k X.A) (hg : Gl X x) (hx : Passes (L2N.CX X.prog X.w) X E) (ha : DA X T X.mg E (a :: es) Fs)
    (hdb : (x == ("__debug__" : Str)) = false := by decide) (he : starEach (a :: es) X.env = (false, eval a X.env) :: starEach es X.env := by rfl) (hpl : (backTo pos (starEach es X.env)).any (·.1) = false := by rfl) :
    PE X (.Call (.Name x p) (a :: es) [] pos) (rdE X.K T X.mg E (sCall f Fs)) := by
  obtain ⟨fa, fd, ps, h1, h2, h3, h4⟩ := G.ex
  refine peI (pe_call h4 hr hg h1 h2 h3 .nil hx ha.pa hdb he hpl) fun σ H Q ⟨b, r, env, st, R, h⟩ => ⟨b, r, env, st, R, ?_⟩
  cases e : Fs env st with
  | ok ds st1 =>
    have hl1 : ds.length = es.length + 1 := ha.len env st ds st1 e
    unfold sCall at h
    rw [bind_def, e] at h
    intro vs H1 r1 l S p
    show spD X.K T X.mg (es.length + 1) f (vs ++ []) H1 Q E
    rw [List.append_nil]
    exact ⟨p.length.trans hl1, ds, r1, st1, S, p, Aft.from l h⟩
  | exc e1 st1 =>
    unfold sCall at h
    rw [bind_def, e] at h
    exact h
  | bad =>
    unfold sCall at h
    rw [bind_def, e] at h
    exact h
theorem d_call0 {k : Nat} {x : Str} {f : List D → M D} {p : Pos} (G : DFn X.prog X.w X.K T X.mg X.base k x 0 f) (hr : Room k X.A) (hg : Gl X x) (hx : Passes (L2N.CX X.prog X.w) X E)
    (hdb : (x == ("__debug__" : Str)) = false := by decide) : PE X (.Call (.Name x p) [] [] pos) (rdE X.K T X.mg E (sCall f sNil)) := by
  obtain ⟨fa, fd, ps, h1, h2, h3, h4⟩ := G.ex
  refine peI (pe_call0 h4 hr hg h1 h2 h3 .nil hx hdb) fun σ H Q ⟨b, r, env, st, R, h⟩ => ?_
  show spD X.K T X.mg 0 f ([] ++ []) H Q E
  exact ⟨rfl, [], r, st, R.s, .nil, h⟩
end
end Dt

set_option maxHeartbeats 4000000
namespace Dt
open PySem PySem.Spec PyProof.Rows L2
/-! ### statements -/
def AftS (K : PySem.W.Frag) (T : List (Addr × Str)) (mg : Str → Option Value) (E : XK) (b : Hp) (r : Rho) (o : Out (Ctl × Env)) (D : Ends) : Prop :=
  match o with
  | .ok (.nx, env') st' => ∀ σ' H' r', Rho.les b r r' → Rel K T b r' σ' H' env' st' → D.nx σ' H'
  | .ok (.bk, env') st' => ∀ σ' H' r', Rho.les b r r' → Rel K T b r' σ' H' env' st' → D.bk σ' H'
  | .ok (.ct, env') st' => ∀ σ' H' r', Rho.les b r r' → Rel K T b r' σ' H' env' st' → D.ct σ' H'
  | .ok (.rt d, _) st' => ∀ v H' r', Rho.les b r r' → RelS K T r' H' st' → Rep K r' v d → D.rt v H'
  | .exc e st' => ∀ cls dd H' r', Rho.les b r r' → RelS K T r' H' st' → ExR mg cls dd r' e → E cls dd H'
  | .bad => False
def rdS (K : PySem.W.Frag) (T : List (Addr × Str)) (mg : Str → Option Value) (E : XK) (F : SS) : TS :=
  fun D σ H => ∃ b r env st, Rel K T b r σ H env st ∧ AftS K T mg E b r (F env st) D
section
variable {K : PySem.W.Frag} {T : List (Addr × Str)} {mg : Str → Option Value} {E : XK} {b : Hp} {r r' : Rho} {σ : L2.St} {H H' : Hp} {env : Env} {st st' : Sto} {Dn : Ends}
theorem AftS.from {o : Out (Ctl × Env)} (l : Rho.les b r r') (h : AftS K T mg E b r o Dn) : AftS K T mg E b r' o Dn := by
  cases o with
  | ok x s =>
    obtain ⟨c, e⟩ := x
    cases c with
    | nx => exact fun σ' H' r2 l2 R => h σ' H' r2 (l.trans l2) R
    | bk => exact fun σ' H' r2 l2 R => h σ' H' r2 (l.trans l2) R
    | ct => exact fun σ' H' r2 l2 R => h σ' H' r2 (l.trans l2) R
    | rt d => exact fun v H' r2 l2 S p => h v H' r2 (l.trans l2) S p
  | exc e s => exact fun c d H' r2 l2 S p => h c d H' r2 (l.trans l2) S p
  | bad => exact h
theorem RelS.dom (R : RelS K T r H st) : True := trivial
/-- a slot stored -/
theorem Rel.set (R : Rel K T b r σ H env st) {v : V} {d : D} (p : Rep K r v d) (i : Nat) : Rel K T b r (σ.set i (some v)) H (env.set i (.va d)) st := by
  have hl := R.ln
  have at_ : ∀ (j : Nat) (s : Sl), (env.set i (.va d))[j]? = some s → (j = i ∧ s = .va d ∧ (σ.set i (some v))[j]? = some (some v)) ∨ (j ≠ i ∧ env[j]? = some s ∧ (σ.set i (some v))[j]? = σ[j]?) := fun j s h => by
    by_cases e : j = i
    · subst e
      have hj : j < env.length := by
        have := (List.getElem?_eq_some_iff.mp h).1
        simpa using this
      rw [List.getElem?_set_self hj] at h
      exact .inl ⟨rfl, (Option.some.inj h).symm, List.getElem?_set_self (by omega)⟩
    · rw [List.getElem?_set_ne (Ne.symm e)] at h
      exact .inr ⟨e, h, List.getElem?_set_ne (Ne.symm e)⟩
  refine ⟨R.s, R.bas, by simpa using hl, fun j d' h => ?_, fun j ds h => ?_, fun j k ds es a h1 h2 h3 h4 => ?_⟩
  · rcases at_ j _ h with ⟨_, e, q⟩ | ⟨_, e, q⟩
    · injection e with e
      subst e
      exact ⟨v, q, p⟩
    · rw [q]
      exact R.val j d' e
  · rcases at_ j _ h with ⟨_, e, _⟩ | ⟨_, e, q⟩
    · cases e
    · rw [q]
      exact R.own j ds e
  · rcases at_ j _ h1 with ⟨_, e, _⟩ | ⟨_, e1, q1⟩
    · cases e
    · rcases at_ k _ h2 with ⟨_, e, _⟩ | ⟨_, e2, q2⟩
      · cases e
      · rw [q1] at h3
        rw [q2] at h4
        exact R.uni j k ds es a e1 e2 h3 h4
/-- slots forgotten -/
def wipeE (vs : List Nat) (env : Env) : Env := vs.foldr (fun v e => e.set v .no) env
theorem wipeE_len (env : Env) : ∀ vs : List Nat, (wipeE vs env).length = env.length
  | [] => rfl
  | v :: vs => by
    show ((wipeE vs env).set v .no).length = _
    rw [List.length_set, wipeE_len env vs]
theorem wipeE_get {env : Env} {i : Nat} {s : Sl} (hs : s ≠ .no) : ∀ {vs : List Nat}, (wipeE vs env)[i]? = some s → env[i]? = some s
  | [], h => h
  | v :: vs, h => by
    have h' : ((wipeE vs env).set v .no)[i]? = some s := h
    by_cases e : v = i
    · subst e
      by_cases hv : v < (wipeE vs env).length
      · rw [List.getElem?_set_self hv] at h'
        exact absurd (Option.some.inj h').symm hs
      · rw [List.getElem?_eq_none (by simpa using hv)] at h'
        cases h'
    · rw [List.getElem?_set_ne e] at h'
      exact wipeE_get hs h'
theorem Rel.wipe (R : Rel K T b r σ H env st) (vs : List Nat) : Rel K T b r σ H (wipeE vs env) st :=
  ⟨R.s, R.bas, by rw [wipeE_len]; exact R.ln, fun i d h => R.val i d (wipeE_get (by intro z; cases z) h), fun i ds h => R.own i ds (wipeE_get (by intro z; cases z) h),
    fun i j ds es a h1 h2 => R.uni i j ds es a (wipeE_get (by intro z; cases z) h1) (wipeE_get (by intro z; cases z) h2)⟩
/-- the frame's slots wiped as well (a comprehension's block) -/
theorem Rel.wipe2 (R : Rel K T b r σ H env st) (vs : List Nat) : Rel K T b r (L2.wipe σ vs) H (wipeE vs env) st := by
  have keep : ∀ (i : Nat) (s : Sl), s ≠ .no → (wipeE vs env)[i]? = some s → i ∉ vs := by
    intro i s hs
    induction vs with
    | nil => intro _; simp
    | cons v vs ih =>
      intro h
      have h' : ((wipeE vs env).set v .no)[i]? = some s := h
      by_cases e : v = i
      · subst e
        by_cases hv : v < (wipeE vs env).length
        · rw [List.getElem?_set_self hv] at h'
          exact absurd (Option.some.inj h').symm hs
        · rw [List.getElem?_eq_none (by simpa using hv)] at h'
          cases h'
      · rw [List.getElem?_set_ne e] at h'
        simp only [List.mem_cons, not_or]
        exact ⟨fun z => e z.symm, ih h'⟩
  have at_ : ∀ (i : Nat), i ∉ vs → (L2.wipe σ vs)[i]? = σ[i]? := fun i h => wipe_out h
  refine ⟨R.s, R.bas, by rw [wipe_length, wipeE_len]; exact R.ln, fun i d h => ?_, fun i ds h => ?_, fun i j ds es a h1 h2 h3 h4 => ?_⟩
  · rw [at_ i (keep i _ (by intro z; cases z) h)]
    exact R.val i d (wipeE_get (by intro z; cases z) h)
  · rw [at_ i (keep i _ (by intro z; cases z) h)]
    exact R.own i ds (wipeE_get (by intro z; cases z) h)
  · rw [at_ i (keep i _ (by intro z; cases z) h1)] at h3
    rw [at_ j (keep j _ (by intro z; cases z) h2)] at h4
    exact R.uni i j ds es a (wipeE_get (by intro z; cases z) h1) (wipeE_get (by intro z; cases z) h2) h3 h4
end
/-! the statements' meanings -/
def sSeq (F G : SS) : SS := fun env => F env >>= fun ce => match ce with
  | (.nx, env') => G env'
  | (c, env') => M.pure (c, env')
def sSkip : SS := fun env => M.pure (.nx, env)
def sBreak : SS := fun env => M.pure (.bk, env)
def sCont : SS := fun env => M.pure (.ct, env)
def sSet (i : Nat) (F : SE) : SS := fun env => F env >>= fun d => M.pure (.nx, env.set i (.va d))
def sDrop (F : SE) : SS := fun env => F env >>= fun _ => M.pure (.nx, env)
def sRet (F : SE) : SS := fun env => F env >>= fun d => M.pure (.rt d, env)
def sRetN : SS := fun env => M.pure (.rt .non, env)
def iteS (A B : SS) : Bool → SS
  | true => A
  | false => B
def sIf (c : SB) (A B : SS) : SS := fun env => c env >>= fun t => iteS A B t env
def sRaise (e : Ex) : SS := fun _ s => .exc e s
def sWipe (vs : List Nat) (F : SS) : SS := fun env => F (wipeE vs env)
section
variable {X : Cx} {T : List (Addr × Str)} {mg : Str → Option Value} {E : XK} {a e : Expr} {F : SE} {pos : Pos} {st : Stmt} {rest ss ss2 : List Stmt} {A B : SS}
theorem AftS.bind {α β : Type} {RR : Rho → β → α → Prop} {K : PySem.W.Frag} {b : Hp} {r : Rho} {s : Sto} {m : M α} {f : α → M (Ctl × Env)} {Q : β → Hp → Prop} {D : Ends} (hb : ∀ a o, b a = some o → r.fr a = some o) (h : AftS K T mg E b r ((m >>= f) s) D)
    (k : ∀ x st1 v H1 r1, r.le r1 → RelS K T r1 H1 st1 → RR r1 v x → AftS K T mg E b r1 (f x st1) D → Q v H1) : Aft RR K T mg E r (m s) Q := by
  rw [bind_def] at h
  cases e : m s with
  | ok x s1 =>
    rw [e] at h
    exact fun v H1 r1 l S p => k x s1 v H1 r1 l S p (AftS.from (l.les hb) h)
  | exc e1 s1 =>
    rw [e] at h
    exact fun c d H' r' l S p => h c d H' r' (l.les hb) S p
  | bad =>
    rw [e] at h
    exact h
theorem rdS.bind {α β : Type} {RR : Rho → β → α → Prop} {K : PySem.W.Frag} {m : Env → M α} {f : α → SS} {Q : β → Hp → Prop} {D : Ends} {σ : L2.St} {H : Hp} (h : rdS K T mg E (fun env => m env >>= fun x => f x env) D σ H)
    (k : ∀ b r env st x v H1, Rel K T b r σ H1 env st → RR r v x → AftS K T mg E b r (f x env st) D → Q v H1) : rd RR K T mg E m σ H Q := by
  obtain ⟨b, r, env, st, R, h⟩ := h
  exact ⟨b, r, env, st, R, AftS.bind R.bas h fun x st1 v H1 r1 l S p q => k b r1 env st1 x v H1 (R.go l S) p q⟩
theorem RelS.here {K : PySem.W.Frag} {b : Hp} {r : Rho} {σ : L2.St} {H : Hp} {env : Env} {s : Sto} {D : Ends} (R : Rel K T b r σ H env s) (h : AftS K T mg E b r (.ok (.nx, env) s) D) : D.nx σ H := h σ H r (.refl R.bas) R
theorem d_skip : PSs X [] (rdS X.K T mg E sSkip) := pssI pss_nil fun D σ H ⟨b, r, env, s, R, h⟩ => RelS.here R h
theorem d_pass : PS X (.Pass pos) (rdS X.K T mg E sSkip) := psI ps_pass fun D σ H ⟨b, r, env, s, R, h⟩ => RelS.here R h
theorem d_break : PS X (.Break pos) (rdS X.K T mg E sBreak) := psI ps_break fun D σ H ⟨b, r, env, s, R, h⟩ => h σ H r (.refl R.bas) R
theorem d_cont : PS X (.Continue pos) (rdS X.K T mg E sCont) := psI ps_continue fun D σ H ⟨b, r, env, s, R, h⟩ => h σ H r (.refl R.bas) R
theorem d_seq (h1 : PS X st (rdS X.K T mg E A)) (h2 : PSs X rest (rdS X.K T mg E B)) : PSs X (st :: rest) (rdS X.K T mg E (sSeq A B)) :=
  pssI (pss_cons h1 h2) fun D σ H ⟨b, r, env, s, R, h⟩ => ⟨b, r, env, s, R, by
    unfold sSeq at h
    rw [bind_def] at h
    cases e : A env s with
    | ok x s1 =>
      rw [e] at h
      obtain ⟨c, env1⟩ := x
      cases c with
      | nx => exact fun σ' H' r' l R' => ⟨b, r', env1, s1, R', AftS.from l h⟩
      | bk => exact h
      | ct => exact h
      | rt d => exact h
    | exc e1 s1 =>
      rw [e] at h
      exact h
    | bad =>
      rw [e] at h
      exact h⟩
theorem d_one (h1 : PS X st (rdS X.K T mg E A)) : PSs X [st] (rdS X.K T mg E A) := pss_one h1
theorem d_wipe (vs : List Nat) (h : PSs X ss (rdS X.K T mg E A)) : PSs X ss (rdS X.K T mg E (sWipe vs A)) := pssI h fun D σ H ⟨b, r, env, s, R, h⟩ => ⟨b, r, wipeE vs env, s, R.wipe vs, h⟩
theorem d_set (i : Nat) {x : Str} {pos' : Pos} (he : PE X e (rdE X.K T mg E F)) (hN : X.N.Nodup) (hi : X.N[i]? = some x := by rfl) (hx : Loc X.env.scope x := by first | exact .inl rfl | exact .inr rfl) (hs : swapsWith e (some (.Name x pos')) pos.line X.env = pure false := by rfl)
    (hf : X.fn x = true ∨ X.env.scope.names.lookup x = some .local := by first | exact .inl rfl | exact .inr rfl | assumption) : PS X (.Assign [.Name x pos'] e pos) (rdS X.K T mg E (sSet i F)) :=
  psI (ps_set hN hi hx he hs hf) fun D σ H h => rdS.bind (f := fun d env => M.pure (.nx, env.set i (.va d))) h fun b r env st x v H1 R p q => q _ H1 r (.refl R.bas) (R.set p i)
theorem d_drop (he : PE X e (rdE X.K T mg E F)) (hs : swapsWith e none pos.line X.env = pure false := by rfl) : PS X (.Expr e pos) (rdS X.K T mg E (sDrop F)) :=
  psI (ps_expr he hs) fun D σ H h => rdS.bind (f := fun d env => M.pure (.nx, env)) h fun b r env st x v H1 R p q => q _ H1 r (.refl R.bas) R
theorem d_ret (he : PE X e (rdE X.K T mg E F)) : PS X (.Return (some e) pos) (rdS X.K T mg E (sRet F)) :=
  psI (ps_ret he) fun D σ H h => rdS.bind (f := fun d env => M.pure (.rt d, env)) h fun b r env st x v H1 R p q => q v H1 r (.refl R.bas) R.s p
theorem d_retN : PS X (.Return none pos) (rdS X.K T mg E sRetN) := psI ps_retN fun D σ H ⟨b, r, env, s, R, h⟩ => h .non H r (.refl R.bas) R.s .non
theorem d_if {c : Expr} {C : SB} (hc : PT X c (rdT X.K T mg E C)) (ha : PSs X ss (rdS X.K T mg E A)) (hb : PSs X ss2 (rdS X.K T mg E B)) : PS X (.If c ss ss2 pos) (rdS X.K T mg E (sIf C A B)) :=
  psI (ps_if hc ha hb) fun D σ H h => rdS.bind (f := iteS A B) h fun b r env st x v H1 R p q => by
    have p' : v = x := p
    subst p'
    cases v with
    | true =>
      rw [if_pos rfl]
      exact ⟨b, r, env, st, R, q⟩
    | false =>
      rw [if_neg Bool.false_ne_true]
      exact ⟨b, r, env, st, R, q⟩
/-- raise C("..") of a class of the text's own -/
theorem d_raise {B' : String} {newId initId : String} {bmB : List Value} {C : Addr} {x m : Str} {j : Nat} {p p2 p3 : Pos} (hc : X.calm = true) (tk : L2N.Takes X (fun cls d _ H => E cls d H)) (F : ExcBaseFacts B' newId initId bmB) (q : PySem.W.excIn X.K C bmB newId = true) (gC : X.mg x = some (.ref C))
    (kC : PySem.W.keepIn X.K (.ref C) = true) (rs : Raises X (.ref C)) (hg : Gl X x) (hdb : (x == ("__debug__" : Str)) = false := by decide) :
    PS X (.Raise (some (.Call (.Name x p) [.Constant (.str m) j p2] [] p3)) none pos) (rdS X.K T X.mg E (sRaise ⟨x, none⟩)) :=
  psI (L2N.ps_raise hc tk (L2N.pmk_own F q gC kC rs hg hdb)) fun D σ H ⟨b, r, env, s, R, h⟩ => h (.ref C) none H r (.refl R.bas) R.s ⟨.inl gC, rfl⟩
end

/-! ### targets -/
/-- a name, or a row of names -/
inductive Tg where
  | nm (i : Nat) | tp (is : List Nat)
def setAll : List Nat → List D → Env → Env
  | i :: is, d :: ds, env => setAll is ds (env.set i (.va d))
  | _, _, env => env
def Tg.bind : Tg → D → Env → Option Env
  | .nm i, d, env => some (env.set i (.va d))
  | .tp is, .tup ds, env => if ds.length = is.length then some (setAll is ds env) else none
  | .tp _, _, _ => none
def Tg.slots : Tg → List Nat
  | .nm i => [i]
  | .tp is => is
def gNames : List Nat → TGs
  | [] => gNil
  | i :: is => gCons (gName i) (gNames is)
def Tg.g (K : PySem.W.Frag) : Tg → TG
  | .nm i => gName i
  | .tp is => gTup K is.length (gNames is)
section
variable {K : PySem.W.Frag} {T : List (Addr × Str)} {b : Hp} {r : Rho} {σ : L2.St} {H : Hp} {env : Env} {st : Sto}
theorem Rel.setAll : ∀ {is : List Nat} {xs : List V} {ds : List D} {σ : L2.St} {env : Env} {Q : L2.St → Hp → Prop}, Rel K T b r σ H env st → Reps K r xs ds → ds.length = is.length →
    (∀ σ', Rel K T b r σ' H (setAll is ds env) st → (∀ vs : List Nat, (∀ i ∈ is, i ∈ vs) → L2.wipe σ' vs = L2.wipe σ vs) → Q σ' H) → gNames is xs σ H Q
  | [], _, _, σ, env, Q, R, p, hl, k => by
    cases p with
    | nil => exact ⟨rfl, k σ R fun _ _ => rfl⟩
    | cons _ _ => simp at hl
  | i :: is, _, _, σ, env, Q, R, p, hl, k => by
    cases p with
    | nil => simp at hl
    | @cons v vs d ds p1 p2 =>
      refine ⟨v, vs, rfl, Rel.setAll (R.set p1 i) p2 (by simpa using hl) fun σ' R' hw => k σ' R' fun ws hm => ?_⟩
      rw [hw ws fun j hj => hm j (List.mem_cons_of_mem _ hj)]
      exact wipe_set (hm i List.mem_cons_self)
  where
    wipe_set {σ : L2.St} {i : Nat} {x : Option V} : ∀ {vs : List Nat}, i ∈ vs → L2.wipe (σ.set i x) vs = L2.wipe σ vs
      | [], h => by simp at h
      | v :: vs, h => by
        show (L2.wipe (σ.set i x) vs).set v none = (L2.wipe σ vs).set v none
        by_cases e : i ∈ vs
        · rw [wipe_set e]
        · have e2 : i = v := by simpa [e] using h
          subst e2
          rw [wipe_comm e, List.set_set]
    wipe_comm {σ : L2.St} {i : Nat} {x : Option V} : ∀ {vs : List Nat}, i ∉ vs → L2.wipe (σ.set i x) vs = (L2.wipe σ vs).set i x
      | [], _ => rfl
      | v :: vs, h => by
        simp only [List.mem_cons, not_or] at h
        show (L2.wipe (σ.set i x) vs).set v none = ((L2.wipe σ vs).set v none).set i x
        rw [wipe_comm h.2, List.set_comm _ _ h.1]
theorem Rel.bind {t : Tg} {v : V} {d : D} {env' : Env} {Q : L2.St → Hp → Prop} (R : Rel K T b r σ H env st) (p : Rep K r v d) (e : t.bind d env = some env')
    (k : ∀ σ', Rel K T b r σ' H env' st → (∀ vs : List Nat, (∀ i ∈ t.slots, i ∈ vs) → L2.wipe σ' vs = L2.wipe σ vs) → Q σ' H) : t.g K v σ H Q := by
  cases t with
  | nm i =>
    have e' : some (env.set i (.va d)) = some env' := e
    injection e' with e'
    subst e'
    exact k _ (R.set p i) fun vs hm => Rel.setAll.wipe_set (hm i (by simp [Tg.slots]))
  | tp is =>
    cases d with
    | tup ds =>
      have e' : (if ds.length = is.length then some (Dt.setAll is ds env) else none) = some env' := e
      split at e'
      · rename_i hl
        injection e' with e'
        subst e'
        cases p with
        | tup hs hr =>
          exact ⟨_, _, rfl, sqT_mono R.s.low hs, hr.length.trans hl, Rel.setAll R hr hl k⟩
      · cases e'
    | _ => cases e
end
/-- t1, t2 = e -/
def gotE : Option Env → M Env
  | some e => M.pure e
  | none => M.bad
def sAsg (t : Tg) (F : SE) : SS := fun env => F env >>= fun d => gotE (t.bind d env) >>= fun env' => M.pure (.nx, env')
section
variable {X : Cx} {T : List (Addr × Str)} {mg : Str → Option Value} {E : XK} {e tg : Expr} {F : SE} {pos : Pos} {t : Tg}
theorem d_asg (he : PE X e (rdE X.K T mg E F)) (hg : PG X tg (t.g X.K)) (hs : swapsWithSole [tg] e pos.line X.env = pure false := by rfl) (hw : swappedStores [tg] e X.env = pure none := by rfl)
    (h1 : (assignEach [tg] X.env).map (·.2) = [assign tg X.env] := by rfl) : PS X (.Assign [tg] e pos) (rdS X.K T mg E (sAsg t F)) :=
  psI (ps_asg he hg hs hw h1) fun D σ H h => rdS.bind (f := fun d env => gotE (t.bind d env) >>= fun env' => M.pure (.nx, env')) h fun b r env st x v H1 R p q => by
    cases e : t.bind x env with
    | none =>
      rw [e] at q
      exact q.elim
    | some env' =>
      rw [e] at q
      exact Rel.bind R p e fun σ' R' _ => q σ' H1 r (.refl R.bas) R'
end
end Dt

set_option maxHeartbeats 4000000
namespace Dt
open PySem PySem.Spec PyProof.Rows L2
/-! ### what is walked -/
/-- the iterator gives out the data of ds, one behind another, and ends -/
def ItOk (K : PySem.W.Frag) (T : List (Addr × Str)) (r : Rho) (J : It) (ds : List D) : Prop :=
  ∀ (r2 : Rho) (H2 : Hp) (st2 : Sto) (i : Nat), (∀ a o, r.fl a = some o → r2.fl a = some o) → (∃ m, r2.ad = r.ad ++ m) → RelS K T r2 H2 st2 →
    (∀ d, ds[i]? = some d → J.go i H2 ∧ ∀ x H3, J.yld i H2 x H3 → ∃ r3, r2.le r3 ∧ RelS K T r3 H3 st2 ∧ Rep K r3 x d) ∧ (i = ds.length → J.stop i H2)
abbrev rdI (K : PySem.W.Frag) (T : List (Addr × Str)) (mg : Str → Option Value) (E : XK) (F : SA) : TI := rd (fun r J ds => ItOk K T r J ds) K T mg E F
section
variable {K : PySem.W.Frag} {T : List (Addr × Str)} {r : Rho}
theorem itok_list {a : Addr} {xs : List V} {ds : List D} (hs : SqL K r.fl a xs) (hr : Reps K r xs ds) : ItOk K T r (Itl K a) ds := fun r2 H2 st2 i hf ha S => by
  have hq : SqL K H2 a xs := sqL_mono S.low (sqL_mono hf hs)
  refine ⟨fun d hd => ?_, fun hl => ⟨xs, hq, by rw [hr.length]; omega⟩⟩
  obtain ⟨v, h1, h2⟩ := hr.get hd
  refine ⟨⟨xs, v, hq, h1⟩, fun x H3 y => ?_⟩
  obtain ⟨e, y⟩ := y
  subst e
  have ex : x = v := Option.some.inj ((y xs hq).symm.trans h1)
  subst ex
  exact ⟨r2, .refl r2, S, h2.up hf ha⟩
theorem itok_tup {a : Addr} {xs : List V} {ds : List D} (hs : SqT K r.fl a xs) (hr : Reps K r xs ds) : ItOk K T r (Itt K a) ds := fun r2 H2 st2 i hf ha S => by
  have hq : SqT K H2 a xs := sqT_mono S.low (sqT_mono hf hs)
  refine ⟨fun d hd => ?_, fun hl => ⟨xs, hq, by rw [hr.length]; omega⟩⟩
  obtain ⟨v, h1, h2⟩ := hr.get hd
  refine ⟨⟨xs, v, hq, h1⟩, fun x H3 y => ?_⟩
  obtain ⟨e, y⟩ := y
  subst e
  have ex : x = v := Option.some.inj ((y xs hq).symm.trans h1)
  subst ex
  exact ⟨r2, .refl r2, S, h2.up hf ha⟩
/-- lo, lo + 1, .. -/
def rangeD (lo : Int) (n : Nat) : List D := (List.range n).map fun i : Nat => .int (lo + (i : Int))
theorem itok_range {lo : Int} {n : Nat} : ItOk K T r (Itr lo n) (rangeD lo n) := fun r2 H2 st2 i hf ha S => by
  refine ⟨fun d hd => ?_, fun hl => by
    have hl' : n ≤ i := by simp [rangeD] at hl; omega
    exact hl'⟩
  unfold rangeD at hd
  rw [List.getElem?_map] at hd
  by_cases hi : i < n
  · rw [List.getElem?_range hi] at hd
    have e : D.int (lo + (i : Int)) = d := Option.some.inj hd
    subst e
    refine ⟨hi, fun x H3 y => ?_⟩
    obtain ⟨e, y⟩ := y
    subst e y
    exact ⟨r2, .refl r2, S, .int _⟩
  · rw [List.getElem?_eq_none (by simpa using hi)] at hd
    cases hd
end
section
variable {K : PySem.W.Frag} {r : Rho} {v : V} {vs : List V}
theorem Rep.i {i : Int} (h : Rep K r v (.int i)) : v = .int i := by cases h; rfl
theorem Rep.b {i : Bool} (h : Rep K r v (.bl i)) : v = .bl i := by cases h; rfl
theorem Rep.s {i : Str} (h : Rep K r v (.str i)) : v = .str i := by cases h; rfl
theorem Rep.n (h : Rep K r v .non) : v = .non := by cases h; rfl
theorem Rep.t {ds : List D} (h : Rep K r v (.tup ds)) : ∃ a xs, v = .ref a ∧ SqT K r.fl a xs ∧ Reps K r xs ds := by
  cases h with
  | tup h1 h2 => exact ⟨_, _, rfl, h1, h2⟩
theorem Rep.l {ds : List D} (h : Rep K r v (.lst ds)) : ∃ a xs, v = .ref a ∧ SqL K r.fl a xs ∧ Reps K r xs ds := by
  cases h with
  | lst h1 h2 => exact ⟨_, _, rfl, h1, h2⟩
theorem Rep.rf {k : Nat} (h : Rep K r v (.ref k)) : ∃ a, v = .ref a ∧ r.ad[k]? = some a := by
  cases h with
  | ref h1 => exact ⟨_, rfl, h1⟩
theorem Reps.i0 (h : Reps K r vs []) : vs = [] := by cases h; rfl
theorem Reps.i1 {d : D} (h : Reps K r vs [d]) : ∃ v, vs = [v] ∧ Rep K r v d := by
  cases h with
  | cons p q => cases q; exact ⟨_, rfl, p⟩
theorem Reps.i2 {d e : D} (h : Reps K r vs [d, e]) : ∃ v w, vs = [v, w] ∧ Rep K r v d ∧ Rep K r w e := by
  cases h with
  | cons p q =>
    obtain ⟨w, rfl, hw⟩ := q.i1
    exact ⟨_, w, rfl, p, hw⟩
theorem Reps.i3 {d e f : D} (h : Reps K r vs [d, e, f]) : ∃ v w x, vs = [v, w, x] ∧ Rep K r v d ∧ Rep K r w e ∧ Rep K r x f := by
  cases h with
  | cons p q =>
    obtain ⟨w, x, rfl, hw, hx⟩ := q.i2
    exact ⟨_, w, x, rfl, p, hw, hx⟩
end
/-- a list or a tuple, walked -/
def itemsD : D → M (List D)
  | .lst ds => M.pure ds
  | .tup ds => M.pure ds
  | _ => M.bad
def iSeqS (F : SE) : SA := fun env => F env >>= itemsD
def iSeq (K : PySem.W.Frag) (tl : TE) : TI := fun σ H R => tl σ H fun x H1 => ∃ a, x = .ref a ∧ (((∃ xs, SqL K H1 a xs) ∧ R (Itl K a) H1) ∨ ((∃ xs, SqT K H1 a xs) ∧ R (Itt K a) H1))
theorem pi_seq {X : Cx} {tg l : Expr} {tl : TE} (hl : PE X l tl) : PI X tg l (iSeq X.K tl) := by
  refine ⟨fun pins s σ H R I h => ?_⟩
  refine thn (hl.run pins s σ H _ I h) fun v s1 ⟨x, H1, I1, r1, q1⟩ => ?_
  obtain ⟨a, e, q⟩ := q1
  subst e
  cases r1
  rcases q with ⟨⟨xs, hq⟩, q⟩ | ⟨⟨xs, hq⟩, q⟩
  · obtain ⟨its, rv, p, hz⟩ := I1.list hq
    refine wpAny_pyIter_list p.isList ?_
    refine ⟨s1.heap.objs.size, [s1.heap.objs.size], _, _, H1, rfl, I1.kept (t' := s1.toks) fun b o e => Heap.get?_push_of_some _ e, turn_list a _, ⟨_, Heap.get?_push_size _ rfl, rfl, rfl⟩, fun b hb => ?_, q⟩
    have e : b = s1.heap.objs.size := by simpa using hb
    subst e
    exact I1.fpOk (Nat.le_refl _) (I1.hok.fresh (Nat.le_refl _))
  · obtain ⟨its, rv, p, hz⟩ := I1.tuple hq
    refine wpAny_pyIter_tuple (show s1.heap.IsTuple a its.toArray from p) ?_
    refine ⟨s1.heap.objs.size, [s1.heap.objs.size], _, _, H1, rfl, I1.kept (t' := s1.toks) fun b o e => Heap.get?_push_of_some _ e, turn_tuple a _, ⟨_, Heap.get?_push_size _ rfl, rfl, rfl⟩, fun b hb => ?_, q⟩
    have e : b = s1.heap.objs.size := by simpa using hb
    subst e
    exact I1.fpOk (Nat.le_refl _) (I1.hok.fresh (Nat.le_refl _))
theorem piI {X : Cx} {tg it : Expr} {t t' : TI} (h : PI X tg it t') (w : ∀ σ H R, t σ H R → t' σ H R) : PI X tg it t := ⟨fun pins s σ H R I q => h.run pins s σ H R I (w σ H R q)⟩
/-- what a range may have for a bound -/
def rBd : Int → Bool
  | .ofNat n => Nat.ble n 999999999
  | .negSucc n => Nat.ble n 999999998
theorem rBd_iff {i : Int} (h : rBd i = true) : i < 1000000000 ∧ -1000000000 < i := by
  cases i with
  | ofNat n =>
    have := Nat.le_of_ble_eq_true h
    have e : Int.ofNat n = (n : Int) := rfl
    omega
  | negSucc n =>
    have := Nat.le_of_ble_eq_true h
    omega
/-- range(n), range(a, b) -/
def rangeS : List D → M (List D)
  | [.int n] => if rBd n = true then M.pure (rangeD 0 n.toNat) else M.bad
  | [.int a, .int b] => if (rBd a && rBd b) = true then M.pure (rangeD a (b - a).toNat) else M.bad
  | _ => M.bad
def iRange (Fs : SA) : SA := fun env => Fs env >>= rangeS
section
variable {X : Cx} {T : List (Addr × Str)} {mg : Str → Option Value} {E : XK} {tg l a c : Expr} {F : SE} {Fs : SA} {p pos : Pos}
theorem di_seq (hl : PE X l (rdE X.K T mg E F)) : PI X tg l (rdI X.K T mg E (iSeqS F)) :=
  piI (pi_seq hl) fun σ H R h => rd.bind (G := fun x _ => itemsD x) h fun b r env st x v H1 R p q => by
    cases x with
    | lst ds =>
      cases p with
      | lst hs hr => exact ⟨_, rfl, .inl ⟨⟨_, sqL_mono R.s.low hs⟩, q _ H1 r (.refl r) R.s (itok_list hs hr)⟩⟩
    | tup ds =>
      cases p with
      | tup hs hr => exact ⟨_, rfl, .inr ⟨⟨_, sqT_mono R.s.low hs⟩, q _ H1 r (.refl r) R.s (itok_tup hs hr)⟩⟩
    | _ => exact q.elim
theorem di_range1 (hg : Gl X "range") (hm : X.mg "range" = none) (ha : DA X T mg E [a] Fs) (hs : starEach [a] X.env = [(false, eval a X.env)] := by rfl) : PI X tg (.Call (.Name "range" p) [a] [] pos) (rdI X.K T mg E (iRange Fs)) :=
  piI (pi_range1 hg hm ha.pa hs) fun σ H R ⟨b, r, env, st, Rl, h⟩ => ⟨b, r, env, st, Rl, by
    have hlen := ha.len env st
    unfold iRange at h
    rw [bind_def] at h
    cases e : Fs env st with
    | exc e1 st1 =>
      rw [e] at h
      exact h
    | bad =>
      rw [e] at h
      exact h
    | ok x st1 =>
      rw [e] at h
      have hl : x.length = 1 := hlen x st1 e
      intro vs H1 r1 l S p
      have q := Aft.from l h
      clear h e
      rcases x with _ | ⟨d, _ | ⟨d2, x⟩⟩
      · simp at hl
      · obtain ⟨v, rfl, p1⟩ := p.i1
        cases d with
        | int n =>
          cases p1.i
          have q' : Aft (fun r J ds => ItOk X.K T r J ds) X.K T mg E r1 ((if rBd n = true then M.pure (rangeD 0 n.toNat) else M.bad : M (List D)) st1) R := q
          split at q'
          · rename_i hn
            have hn := rBd_iff hn
            exact ⟨n, rfl, by omega, by omega, q' _ H1 r1 (.refl r1) S itok_range⟩
          · exact False.elim q'
        | _ => exact False.elim q
      · simp at hl⟩
theorem di_range2 (hg : Gl X "range") (hm : X.mg "range" = none) (ha : DA X T mg E [a, c] Fs) (hs : starEach [a, c] X.env = [(false, eval a X.env), (false, eval c X.env)] := by rfl) (hs2 : starEach [c] X.env = [(false, eval c X.env)] := by rfl) : PI X tg (.Call (.Name "range" p) [a, c] [] pos) (rdI X.K T mg E (iRange Fs)) :=
  piI (pi_range2 hg hm ha.pa hs hs2) fun σ H R ⟨b, r, env, st, Rl, h⟩ => ⟨b, r, env, st, Rl, by
    have hlen := ha.len env st
    unfold iRange at h
    rw [bind_def] at h
    cases e : Fs env st with
    | exc e1 st1 =>
      rw [e] at h
      exact h
    | bad =>
      rw [e] at h
      exact h
    | ok x st1 =>
      rw [e] at h
      have hl : x.length = 2 := hlen x st1 e
      intro vs H1 r1 l S p
      have q := Aft.from l h
      clear h e
      rcases x with _ | ⟨d, _ | ⟨d2, _ | ⟨d3, x⟩⟩⟩
      · simp at hl
      · simp at hl
      · obtain ⟨v, w, rfl, p1, p2⟩ := p.i2
        cases d with
        | int lo =>
          cases d2 with
          | int hi =>
            cases p1.i
            cases p2.i
            have q' : Aft (fun r J ds => ItOk X.K T r J ds) X.K T mg E r1 ((if (rBd lo && rBd hi) = true then M.pure (rangeD lo (hi - lo).toNat) else M.bad : M (List D)) st1) R := q
            split at q'
            · rename_i hn
              rw [Bool.and_eq_true] at hn
              have hn1 := rBd_iff hn.1
              have hn2 := rBd_iff hn.2
              exact ⟨lo, hi, rfl, by omega, q' _ H1 r1 (.refl r1) S itok_range⟩
            · exact False.elim q'
          | _ => exact False.elim q
        | _ => exact False.elim q
      · simp at hl⟩
end
/-! ### for, while -/
def stepS (k : Env → M (Ctl × Env)) (wp : List Nat) : Ctl × Env → M (Ctl × Env)
  | (.nx, env) => k (wipeE wp env)
  | (.ct, env) => k (wipeE wp env)
  | (.bk, env) => M.pure (.nx, wipeE wp env)
  | (.rt d, env) => M.pure (.rt d, env)
def forL (t : Tg) (wp : List Nat) (body : SS) : List D → SS
  | [], env => M.pure (.nx, env)
  | d :: ds, env => gotE (t.bind d env) >>= fun env1 => body env1 >>= stepS (forL t wp body ds) wp
def sFor (src : SA) (t : Tg) (wp : List Nat) (body : SS) : SS := fun env => src env >>= fun ds => forL t wp body ds (wipeE wp env)
def whL (c : SB) (wp : List Nat) (body : SS) : Nat → SS
  | 0, _ => M.bad
  | n + 1, env => c env >>= fun t => iteS (fun env => body env >>= stepS (whL c wp body n) wp) (fun env => M.pure (.nx, env)) t env
def sWhile (fuel : Env → Nat) (c : SB) (wp : List Nat) (body : SS) : SS := fun env => whL c wp body (fuel env) (wipeE wp env)
section
variable {K : PySem.W.Frag} {T : List (Addr × Str)} {mg : Str → Option Value} {E : XK}
/-- a turn's end: what the loop's rule hands on -/
theorem turn_end {body : SS} {k : SS} {wp : List Nat} {b : Hp} {r : Rho} {σ : L2.St} {H : Hp} {env : Env} {st : Sto} {Dn : Ends} {N : L2.St → Hp → Prop} (R : Rel K T b r σ H env st) (h : AftS K T mg E b r ((body env >>= stepS k wp) st) Dn)
    (hN : ∀ σ' H' r' env' st', Rho.les b r r' → Rel K T b r' σ' H' env' st' → AftS K T mg E b r' (k env' st') Dn → N σ' H') : rdS K T mg E body { Dn with nx := N, ct := N, bk := Dn.nx } σ H := by
  refine ⟨b, r, env, st, R, ?_⟩
  rw [bind_def] at h
  cases e : body env st with
  | ok x s1 =>
    rw [e] at h
    obtain ⟨c, env1⟩ := x
    cases c with
    | nx => exact fun σ' H' r' l R' => hN σ' H' r' _ _ l (R'.wipe wp) (AftS.from l h)
    | ct => exact fun σ' H' r' l R' => hN σ' H' r' _ _ l (R'.wipe wp) (AftS.from l h)
    | bk => exact fun σ' H' r' l R' => h σ' H' r' l (R'.wipe wp)
    | rt d => exact h
  | exc e1 s1 =>
    rw [e] at h
    exact h
  | bad =>
    rw [e] at h
    exact h
end
section
variable {X : Cx} {T : List (Addr × Str)} {mg : Str → Option Value} {E : XK} {tg l c : Expr} {src : SA} {t : Tg} {body : SS} {ss : List Stmt} {pos : Pos}
theorem d_for (wp : List Nat) (hp : PassesOwn (model X.prog X.w) X.A X.env X.xe) (hc : X.calm = true) (hi : PI X tg l (rdI X.K T mg E src)) (hg : PG X tg (t.g X.K)) (hb : PSs X ss (rdS X.K T mg E body))
    (hs : ∀ x, foldedSetIterable l X.env x = pure x := by intro _; rfl) : PS X (.For tg l ss [] pos) (rdS X.K T mg E (sFor src t wp body)) :=
  psI (ps_for hp hc hi hg hb hs) fun Dn σ H h => rdS.bind (f := fun ds env => forL t wp body ds (wipeE wp env)) h fun b r env st ds J H1 R it h1 => by
    refine ⟨fun i m σ2 H2 => ∃ r2 env2 st2, Rho.les b r r2 ∧ Rel X.K T b r2 σ2 H2 env2 st2 ∧ m = ds.length - i ∧ i ≤ ds.length ∧ AftS X.K T mg E b r2 (forL t wp body (ds.drop i) env2 st2) Dn, ⟨ds.length, r, _, st, .refl R.bas, R.wipe wp, by simp, Nat.zero_le _, h1⟩, ?_⟩
    rintro i m σ2 H2 ⟨r2, env2, st2, l2, R2, rfl, hi2, a2⟩
    by_cases hlt : i < ds.length
    · have hd : ds[i]? = some ds[i] := List.getElem?_eq_getElem hlt
      obtain ⟨go, yl⟩ := (it r2 H2 st2 i l2.1 l2.2.2 R2.s).1 _ hd
      refine .inr ⟨go, fun σ' H' => ∃ m', m' < ds.length - i ∧ ∃ r2 env2 st2, Rho.les b r r2 ∧ Rel X.K T b r2 σ' H' env2 st2 ∧ m' = ds.length - (i + 1) ∧ i + 1 ≤ ds.length ∧ AftS X.K T mg E b r2 (forL t wp body (ds.drop (i + 1)) env2 st2) Dn, fun σ' H' hN => hN, fun x H3 y => ?_⟩
      obtain ⟨r3, l3, S3, p3⟩ := yl x H3 y
      have R3 := R2.go l3 S3
      have e : ds.drop i = ds[i] :: ds.drop (i + 1) := List.drop_eq_getElem_cons hlt
      rw [e] at a2
      have a3 : AftS X.K T mg E b r3 ((gotE (t.bind ds[i] env2) >>= fun env1 => body env1 >>= stepS (forL t wp body (ds.drop (i + 1))) wp) st2) Dn := AftS.from (l3.les R2.bas) a2
      cases eb : t.bind ds[i] env2 with
      | none =>
        rw [eb] at a3
        exact False.elim a3
      | some env1 =>
        rw [eb] at a3
        refine Rel.bind R3 p3 eb fun σ4 R4 _ => turn_end R4 a3 fun σ' H' r' env' st' l' R' q => ?_
        exact ⟨_, by omega, r', env', st', (l2.trans (l3.les R2.bas)).trans l', R', rfl, hlt, q⟩
    · have e : i = ds.length := by omega
      subst e
      refine .inl ⟨(it r2 H2 st2 _ l2.1 l2.2.2 R2.s).2 rfl, ?_⟩
      rw [List.drop_length] at a2
      exact a2 σ2 H2 r2 (.refl R2.bas) R2
theorem d_while {C : SB} (fuel : Env → Nat) (wp : List Nat) (hp : PassesOwn (model X.prog X.w) X.A X.env X.xe) (hc : PT X c (rdT X.K T mg E C)) (hb : PSs X ss (rdS X.K T mg E body)) : PS X (.While c ss [] pos) (rdS X.K T mg E (sWhile fuel C wp body)) :=
  psI (ps_while hp hc hb) fun Dn σ H ⟨b, r, env, st, R, h⟩ => by
    refine ⟨fun m σ2 H2 => ∃ r2 env2 st2, Rho.les b r r2 ∧ Rel X.K T b r2 σ2 H2 env2 st2 ∧ AftS X.K T mg E b r2 (whL C wp body m env2 st2) Dn, ⟨fuel env, r, _, st, .refl R.bas, R.wipe wp, h⟩, ?_⟩
    rintro m σ2 H2 ⟨r2, env2, st2, l2, R2, a2⟩
    cases m with
    | zero => exact False.elim a2
    | succ n =>
      refine ⟨b, r2, env2, st2, R2, AftS.bind (RR := RB) (m := C env2) (f := fun t => iteS (fun env => body env >>= stepS (whL C wp body n) wp) (fun env => M.pure (.nx, env)) t env2) R2.bas a2 fun x st3 v H3 r3 l3 S p q => ?_⟩
      have R3 := R2.go l3 S
      have p' : v = x := p
      subst p'
      cases v with
      | true =>
        rw [if_pos rfl]
        refine ⟨fun σ' H' => ∃ m', m' < n + 1 ∧ ∃ r2 env2 st2, Rho.les b r r2 ∧ Rel X.K T b r2 σ' H' env2 st2 ∧ AftS X.K T mg E b r2 (whL C wp body m' env2 st2) Dn, fun σ' H' hN => hN, ?_⟩
        exact turn_end R3 q fun σ' H' r' env' st' l' R' q' => ⟨n, Nat.lt_succ_self n, r', env', st', (l2.trans (l3.les R2.bas)).trans l', R', q'⟩
      | false =>
        rw [if_neg Bool.false_ne_true]
        exact q σ2 H3 r3 (.refl R3.bas) R3
end
end Dt

set_option maxHeartbeats 4000000
namespace Dt
open PySem PySem.Spec PyProof.Rows L2
/-! ### a list that is held to be changed -/
def Rho.hold (r : Rho) (p : Addr) (xs : List V) : Rho := { r with fr := upd r.fr p (.lst xs) }
section
variable {K : PySem.W.Frag} {T : List (Addr × Str)} {mg : Str → Option Value} {E : XK} {r r' : Rho} {H : Hp} {st : Sto} {p : Addr} {xs ys : List V}
theorem rep_fr {f : Hp} {v : V} {d : D} (h : Rep K r v d) : Rep K { r with fr := f } v d := Rep.up (r := r) (r' := { r with fr := f }) (fun _ _ e => e) ⟨[], by simp⟩ h
theorem reps_fr {f : Hp} {v : List V} {d : List D} (h : Reps K r v d) : Reps K { r with fr := f } v d := Reps.up (r := r) (r' := { r with fr := f }) (fun _ _ e => e) ⟨[], by simp⟩ h
theorem ObR.at {H' : Hp} {a : Addr} {ob : Ob} (h : ObR K r H a ob) (e : ∀ o, H a = some o → H' a = some o) (hf : ∀ a o, r.fl a = some o → r'.fl a = some o) (ha : ∃ m, r'.ad = r.ad ++ m) : ObR K r' H' a ob := by
  cases ob with
  | lst ds =>
    obtain ⟨xs, h1, h2⟩ := h
    exact ⟨xs, e _ h1, h2.up hf ha⟩
  | ins C gs =>
    obtain ⟨dx, fs, h1, h2⟩ := h
    exact ⟨dx, fs, e _ h1, h2.up hf ha⟩
theorem RelS.less (R : RelS K T r H st) {f : Hp} (h : ∀ a o, f a = some o → r.fr a = some o) : RelS K T { r with fr := f } H st :=
  ⟨R.low, fun a o e => R.frm a o (h a o e), fun a o e => R.dis a o (h a o e), R.len, R.nd, fun a m => ⟨(R.ads a m).1, by
    cases e : f a with
    | none => exact e
    | some o =>
      have z := (R.ads a m).2
      rw [h a o e] at z
      cases z⟩, fun k a ob e1 e2 => (R.obs k a ob e1 e2).at (fun _ z => z) (fun _ _ z => z) ⟨[], by simp⟩, R.tab, R.ntl, fun a ps e => R.ntf a ps (h a _ e)⟩
theorem RelS.hold (R : RelS K T r H st) (h : H p = none) : RelS K T (r.hold p xs) (upd H p (.lst xs)) st := by
  have hf := R.fresh_fr h
  have hl := R.fresh_fl h
  have ha := R.fresh_ad h
  have up : ∀ a u, H a = some u → upd H p (.lst xs) a = some u := fun a u e => by rw [upd_ne (ne_of_none e h)]; exact e
  refine ⟨fun a o e => up a o (R.low a o e), fun a o e => ?_, fun a o e => ?_, R.len, R.nd, fun a m => ⟨(R.ads a m).1, ?_⟩, fun k a ob e1 e2 => (R.obs k a ob e1 e2).at (fun o z => up a o z) (fun _ _ z => z) ⟨[], by simp [Rho.hold]⟩, R.tab.ext up, R.ntl, fun a ps e => ?_⟩
  · have e' : upd r.fr p (.lst xs) a = some o := e
    by_cases q : a = p
    · subst q
      rw [upd_same] at e' ⊢
      exact e'
    · rw [upd_ne q] at e' ⊢
      exact R.frm a o e'
  · have e' : upd r.fr p (.lst xs) a = some o := e
    by_cases q : a = p
    · subst q
      exact hl
    · rw [upd_ne q] at e'
      exact R.dis a o e'
  · have hp : a ≠ p := fun z => ha (z ▸ m)
    show upd r.fr p (.lst xs) a = none
    rw [upd_ne hp]
    exact (R.ads a m).2
  · have e' : upd r.fr p (.lst xs) a = some (.tbl ps) := e
    by_cases q : a = p
    · subst q
      rw [upd_same] at e'
      cases e'
    · rw [upd_ne q] at e'
      exact R.ntf a ps e'
theorem tabs_mut (t : LamX.Tabs T H) (h : H p = some (.lst xs)) : LamX.Tabs T (upd H p (.lst ys)) := fun q hq => by
  obtain ⟨ps, h1, h2, h3⟩ := t q hq
  have e1 : q.1 ≠ p := ne_of h1 h (by intro z; cases z)
  refine ⟨ps, by rw [upd_ne e1]; exact h1, h2, fun pos cv hc => ?_⟩
  obtain ⟨c, e, hco⟩ := h3 pos cv hc
  have e2 : c ≠ p := ne_of hco h (by
    intro z
    unfold LamX.CodeO at z
    cases z)
  exact ⟨c, e, by rw [upd_ne e2]; exact hco⟩
theorem RelS.turn (R : RelS K T r H st) (h : r.fr p = some (.lst xs)) : RelS K T (r.hold p ys) (upd H p (.lst ys)) st := by
  have hH := R.frm p _ h
  have hl := R.dis p _ h
  have np : ∀ a, a ∈ r.ad → a ≠ p := fun a m z => by
    have q := (R.ads a m).2
    rw [z, h] at q
    cases q
  refine ⟨fun a o e => ?_, fun a o e => ?_, fun a o e => ?_, R.len, R.nd, fun a m => ⟨(R.ads a m).1, ?_⟩, fun k a ob e1 e2 => (R.obs k a ob e1 e2).at (fun o z => by
      rw [upd_ne (np a (List.mem_of_getElem? e1))]
      exact z) (fun _ _ z => z) ⟨[], by simp [Rho.hold]⟩, tabs_mut R.tab hH, R.ntl, fun a ps e => ?_⟩
  · have q : a ≠ p := fun z => by
      have e' : r.fl a = some o := e
      rw [z, hl] at e'
      cases e'
    rw [upd_ne q]
    exact R.low a o e
  · have e' : upd r.fr p (.lst ys) a = some o := e
    by_cases q : a = p
    · subst q
      rw [upd_same] at e' ⊢
      exact e'
    · rw [upd_ne q] at e' ⊢
      exact R.frm a o e'
  · have e' : upd r.fr p (.lst ys) a = some o := e
    by_cases q : a = p
    · subst q
      exact hl
    · rw [upd_ne q] at e'
      exact R.dis a o e'
  · show upd r.fr p (.lst ys) a = none
    rw [upd_ne (np a m)]
    exact (R.ads a m).2
  · have e' : upd r.fr p (.lst ys) a = some (.tbl ps) := e
    by_cases q : a = p
    · subst q
      rw [upd_same] at e'
      cases e'
    · rw [upd_ne q] at e'
      exact R.ntf a ps e'
/-- from now on it stays -/
theorem RelS.seal_ (R : RelS K T r H st) (h : r.fr p = some (.lst xs)) {f : Hp} (hf : ∀ a o, f a = some o → r.fr a = some o) (hp : f p = none) : RelS K T { r with fl := upd r.fl p (.lst xs), fr := f } H st := by
  have hH := R.frm p _ h
  have hl := R.dis p _ h
  have np : ∀ a, a ∈ r.ad → a ≠ p := fun a m z => by
    have q := (R.ads a m).2
    rw [z, h] at q
    cases q
  have R' := R.less hf
  refine ⟨fun a o e => ?_, R'.frm, fun a o e => ?_, R.len, R.nd, fun a m => ⟨?_, (R'.ads a m).2⟩, fun k a ob e1 e2 => (R.obs k a ob e1 e2).at (fun o z => z) (fun a o z => ?_) ⟨[], by simp⟩, R.tab, fun a ps e => ?_, R'.ntf⟩
  · have e' : upd r.fl p (.lst xs) a = some o := e
    by_cases q : a = p
    · subst q
      rw [upd_same] at e'
      rw [hH]
      exact e'
    · rw [upd_ne q] at e'
      exact R.low a o e'
  · have q : a ≠ p := fun z => by
      have e' : f a = some o := e
      rw [z, hp] at e'
      cases e'
    show upd r.fl p (.lst xs) a = none
    rw [upd_ne q]
    exact R'.dis a o e
  · show upd r.fl p (.lst xs) a = none
    rw [upd_ne (np a m)]
    exact (R.ads a m).1
  · show upd r.fl p (.lst xs) a = some o
    have q : a ≠ p := fun y => by
      rw [y, hl] at z
      cases z
    rw [upd_ne q]
    exact z
  · have e' : upd r.fl p (.lst xs) a = some (.tbl ps) := e
    by_cases q : a = p
    · subst q
      rw [upd_same] at e'
      cases e'
    · rw [upd_ne q] at e'
      exact R.ntl a ps e'
end
/-! ### comprehensions -/
abbrev EF : XK := fun _ _ _ => False
def noExc {α : Type} (m : M α) : M α := fun s => match m s with
  | .ok a s' => .ok a s'
  | _ => .bad
def iteC (A B : M (List D)) : Bool → M (List D)
  | true => A
  | false => B
def cmpL (t : Tg) (ifs : SB) (el : SE) (env : Env) : List D → List D → M (List D)
  | [], acc => M.pure acc
  | d :: ds, acc => gotE (t.bind d env) >>= fun env1 => ifs env1 >>= fun c => iteC (el env1 >>= fun x => cmpL t ifs el env ds (acc ++ [x])) (cmpL t ifs el env ds acc) c
def mkL (xs : List D) : M D := M.pure (D.lst xs)
def cmpT (t : Tg) (vs : List Nat) (ifs : SB) (el : SE) (ds : List D) : SE := fun env => (if ds.length ≤ 1000000 then noExc (cmpL t ifs el (wipeE vs env) ds []) else M.bad) >>= mkL
def sComp (src : SA) (t : Tg) (vs : List Nat) (ifs : SB) (el : SE) : SE := fun env => src env >>= fun ds => cmpT t vs ifs el ds env
def sYes : SB := fun _ => M.pure true
section
variable {X : Cx} {T : List (Addr × Str)} {mg : Str → Option Value} {E : XK} {tg iter elt : Expr} {ifs : List Expr} {src : SA} {t : Tg} {I : SB} {G : SE} {pos : Pos} {scope : Scope} {own : List (Str × Nat)}
theorem aft_noExc {α β : Type} {RR : Rho → β → α → Prop} {K : PySem.W.Frag} {m : M α} {r : Rho} {st : Sto} {Q : β → Hp → Prop} {mg' : Str → Option Value} (h : Aft RR K T mg' E r (noExc m st) Q) : Aft RR K T mg' EF r (m st) Q := by
  unfold noExc at h
  cases e : m st with
  | ok x s =>
    rw [e] at h
    exact h
  | exc x s =>
    rw [e] at h
    exact False.elim h
  | bad =>
    rw [e] at h
    exact False.elim h
theorem lc_read {wi : TI} (hw : ∀ σ H R, rdI X.K T mg E src σ H R → wi σ H R) (hl : ∀ i ∈ t.slots, i ∈ own.map (·.2)) (σ : L2.St) (H : Hp) (Q : VK) (h : rdE X.K T mg E (sComp src t (own.map (·.2)) I G) σ H Q) :
    tLc wi (t.g X.K) (rdT X.K T mg EF I) (rdE X.K T mg EF G) (own.map (·.2)) σ H Q := by
  refine hw _ _ _ (rd.bind (G := fun ds env => cmpT t (own.map (·.2)) I G ds env) h fun b r env st ds J H1 R it h1 => ?_)
  intro Dd hD
  unfold cmpT at h1
  by_cases hsz : ds.length ≤ 1000000
  · rw [if_pos hsz] at h1
    have h2 : Aft (Reps X.K) X.K T mg EF r (cmpL t I G (wipeE (own.map (·.2)) env) ds [] st) (fun vs H' => ∀ r', r.le r' → r'.fl = r'.fl → (∀ st', RelS X.K T r' H' st' → True) → True) := by
      have q := aft_noExc (Aft.bind (RR := Reps X.K) (Q := fun _ _ => True) h1 fun _ _ _ _ _ _ _ _ _ => trivial)
      exact q.imp fun _ _ _ _ _ _ _ => trivial
    have fin : ∀ acc st' xs H' r', r.le r' → RelS X.K T (r'.hold Dd xs) H' st' → r'.fr Dd = none → Reps X.K r' xs acc → noExc (cmpL t I G (wipeE (own.map (·.2)) env) ds []) st = .ok acc st' → Q (.ref Dd) H' := fun acc st' xs H' r' l S hn p e => by
      rw [bind_def, e] at h1
      refine h1 (.ref Dd) H' (r'.add Dd (.lst xs)) (l.trans (Rho.add_le ?_)) ?_ ?_
      · have q := S.dis Dd (.lst xs) (by show upd r'.fr Dd (.lst xs) Dd = _; rw [upd_same])
        exact q
      · exact S.seal_ (p := Dd) (xs := xs) (f := r'.fr) (by show upd r'.fr Dd (.lst xs) Dd = _; rw [upd_same]) (fun a o e => by
          show upd r'.fr Dd (.lst xs) a = some o
          rw [upd_ne (ne_of_none e hn)]
          exact e) hn
      · refine .lst (.inl (.inl ?_)) (p.up (fun a o e => ?_) ⟨[], by simp [Rho.add]⟩)
        · show upd r'.fl Dd (.lst xs) Dd = _
          rw [upd_same]
        · show upd r'.fl Dd (.lst xs) a = some o
          have q := S.dis Dd (.lst xs) (by show upd r'.fr Dd (.lst xs) Dd = _; rw [upd_same])
          have q' : r'.fl Dd = none := q
          rw [upd_ne (ne_of_none e q')]
          exact e
    cases ec : cmpL t I G (wipeE (own.map (·.2)) env) ds [] st with
    | exc e1 s1 =>
      rw [ec] at h2
      have z : Aft (Rep X.K) X.K T mg E r ((noExc (cmpL t I G (wipeE (own.map (·.2)) env) ds []) >>= mkL : M D) st) (fun _ _ => True) → False := fun z => by
        rw [bind_def] at z
        unfold noExc at z
        rw [ec] at z
        exact z
      exact (z (h1.imp fun _ _ _ => trivial)).elim
    | bad =>
      rw [ec] at h2
      exact False.elim h2
    | ok acc0 st0 =>
      have en : noExc (cmpL t I G (wipeE (own.map (·.2)) env) ds []) st = .ok acc0 st0 := by
        unfold noExc
        rw [ec]
      refine ⟨fun i m H2 => ∃ r2 st2 acc xs, r.le r2 ∧ RelS X.K T (r2.hold Dd xs) H2 st2 ∧ r2.fr Dd = none ∧ Reps X.K r2 xs acc ∧ m = ds.length - i ∧ i ≤ ds.length ∧ xs.length ≤ i ∧ cmpL t I G (wipeE (own.map (·.2)) env) (ds.drop i) acc st2 = .ok acc0 st0,
        ⟨ds.length, r, st, [], [], .refl r, R.s.hold hD, R.s.fresh_fr hD, .nil, by simp, Nat.zero_le _, Nat.le_refl _, ec⟩, ?_⟩
      rintro i m H2 ⟨r2, st2, acc, xs, l2, S2, n2, p2, rfl, hi2, hx2, e2⟩
      have R2 : Rel X.K T b (r2.hold Dd xs) (L2.wipe σ (own.map (·.2))) H2 (wipeE (own.map (·.2)) env) st2 := by
        have Rw := R.wipe2 (own.map (·.2))
        refine ⟨S2, fun a o e => ?_, Rw.ln, fun j d e => ?_, fun j ds' e => ?_, Rw.uni⟩
        · have q : r2.fr a = some o := by
            rw [l2.2.1]
            exact R.bas a o e
          show upd r2.fr Dd (.lst xs) a = some o
          rw [upd_ne (ne_of_none q n2)]
          exact q
        · obtain ⟨v, h3, h4⟩ := Rw.val j d e
          exact ⟨v, h3, rep_fr (h4.up l2.1 l2.2.2)⟩
        · obtain ⟨a, ys, h3, h4, h5, h6⟩ := Rw.own j ds' e
          refine ⟨a, ys, h3, h4, ?_, reps_fr (h6.up l2.1 l2.2.2)⟩
          have q : r2.fr a = some (.lst ys) := by
            rw [l2.2.1]
            exact h5
          show upd r2.fr Dd (.lst xs) a = some (.lst ys)
          rw [upd_ne (ne_of_none q n2)]
          exact q
      by_cases hlt : i < ds.length
      · have hd : ds[i]? = some ds[i] := List.getElem?_eq_getElem hlt
        obtain ⟨go, yl⟩ := (it (r2.hold Dd xs) H2 st2 i l2.1 l2.2.2 S2).1 _ hd
        refine .inr ⟨go, fun H' => ∃ m', m' < ds.length - i ∧ ∃ r2 st2 acc xs, r.le r2 ∧ RelS X.K T (r2.hold Dd xs) H' st2 ∧ r2.fr Dd = none ∧ Reps X.K r2 xs acc ∧ m' = ds.length - (i + 1) ∧ i + 1 ≤ ds.length ∧ xs.length ≤ i + 1 ∧ cmpL t I G (wipeE (own.map (·.2)) env) (ds.drop (i + 1)) acc st2 = .ok acc0 st0, fun H' hN => hN, fun x H3 y => ?_⟩
        obtain ⟨r3, l3, S3, p3⟩ := yl x H3 y
        have R3 := R2.go l3 S3
        have ed : ds.drop i = ds[i] :: ds.drop (i + 1) := List.drop_eq_getElem_cons hlt
        rw [ed] at e2
        have e3 : (gotE (t.bind ds[i] (wipeE (own.map (·.2)) env)) >>= fun env1 => I env1 >>= fun c => iteC (G env1 >>= fun x => cmpL t I G (wipeE (own.map (·.2)) env) (ds.drop (i + 1)) (acc ++ [x])) (cmpL t I G (wipeE (own.map (·.2)) env) (ds.drop (i + 1)) acc) c) st2 = .ok acc0 st0 := e2
        cases eb : t.bind ds[i] (wipeE (own.map (·.2)) env) with
        | none =>
          rw [eb] at e3
          cases e3
        | some env1 =>
          rw [eb] at e3
          refine Rel.bind R3 p3 eb fun σ4 R4 hw4 => ⟨?_, ?_⟩
          · rw [hw4 _ hl]
            exact wipe_twice σ _
          have e4 : (I env1 >>= fun c => iteC (G env1 >>= fun x => cmpL t I G (wipeE (own.map (·.2)) env) (ds.drop (i + 1)) (acc ++ [x])) (cmpL t I G (wipeE (own.map (·.2)) env) (ds.drop (i + 1)) acc) c) st2 = .ok acc0 st0 := e3
          refine ⟨b, r3, env1, st2, R4, ?_⟩
          rw [bind_def] at e4
          cases ei : I env1 st2 with
          | exc _ _ =>
            rw [ei] at e4
            cases e4
          | bad =>
            rw [ei] at e4
            cases e4
          | ok cb st5 =>
            rw [ei] at e4
            intro bv H5 r5 l5 S5 p5
            have p5' : bv = cb := p5
            subst p5'
            have R5 := R4.go l5 S5
            have fr3 : r3.fr = upd r2.fr Dd (.lst xs) := l3.2.1
            -- the state without the list that grows
            have back : ∀ {r' : Rho}, r3.le r' → r.le { r' with fr := r2.fr } := fun {r'} l' => ⟨fun a o e => l'.1 a o (l3.1 a o (l2.1 a o e)), l2.2.1, by
              obtain ⟨m1, h1⟩ := l2.2.2
              obtain ⟨m2, h2⟩ := l3.2.2
              obtain ⟨m3, h3⟩ := l'.2.2
              exact ⟨m1 ++ m2 ++ m3, by
                show r'.ad = _
                rw [h3, h2]
                show (r2.ad ++ m2) ++ m3 = _
                rw [h1]
                simp⟩⟩
            have holdEq : ∀ {r' : Rho} {zs : List V}, r3.le r' → r'.hold Dd zs = Rho.hold { r' with fr := r2.fr } Dd zs := fun {r' zs} l' => by
              have q : r'.fr = upd r2.fr Dd (.lst xs) := l'.2.1.trans fr3
              unfold Rho.hold
              rw [q]
              show ({ r' with fr := upd (upd r2.fr Dd (.lst xs)) Dd (.lst zs) } : Rho) = { r' with fr := upd r2.fr Dd (.lst zs) }
              rw [upd_upd]
            cases bv with
            | false =>
              rw [if_neg Bool.false_ne_true]
              have e5 : cmpL t I G (wipeE (own.map (·.2)) env) (ds.drop (i + 1)) acc st5 = .ok acc0 st0 := e4
              refine ⟨_, by omega, { r5 with fr := r2.fr }, st5, acc, xs, back l5, ?_, n2, ?_, rfl, hlt, by omega, e5⟩
              · rw [← holdEq l5]
                have q : r5.fr = upd r2.fr Dd (.lst xs) := l5.2.1.trans fr3
                have q2 : r5.hold Dd xs = r5 := by
                  unfold Rho.hold
                  rw [q, upd_upd, ← q]
                rw [q2]
                exact S5
              · exact reps_fr (((reps_fr p2 : Reps X.K (r2.hold Dd xs) xs acc).up l3.1 l3.2.2).up l5.1 l5.2.2)
            | true =>
              rw [if_pos rfl]
              have e5 : (G env1 >>= fun x => cmpL t I G (wipeE (own.map (·.2)) env) (ds.drop (i + 1)) (acc ++ [x])) st5 = .ok acc0 st0 := e4
              rw [bind_def] at e5
              refine ⟨b, r5, env1, st5, R5, ?_⟩
              cases eg : G env1 st5 with
              | exc _ _ =>
                rw [eg] at e5
                cases e5
              | bad =>
                rw [eg] at e5
                cases e5
              | ok dx st6 =>
                rw [eg] at e5
                intro yv H6 r6 l6 S6 p6
                have l36 := l5.trans l6
                have q6 : r6.fr Dd = some (.lst xs) := by
                  rw [l36.2.1, fr3, upd_same]
                refine ⟨xs, S6.frm _ _ q6, Nat.lt_of_le_of_lt hx2 (Nat.lt_of_lt_of_le (show i < 1000001 by omega) (by decide)), _, by omega, { r6 with fr := r2.fr }, st6, acc ++ [dx], xs ++ [yv], back l36, ?_, n2, ?_, rfl, hlt, by simp; omega, e5⟩
                · rw [← holdEq l36]
                  exact S6.turn q6
                · exact reps_fr ((((reps_fr p2 : Reps X.K (r2.hold Dd xs) xs acc).up l3.1 l3.2.2).up l36.1 l36.2.2).append (.one p6))
      · have e : i = ds.length := by omega
        subst e
        refine .inl ⟨(it (r2.hold Dd xs) H2 st2 _ l2.1 l2.2.2 S2).2 rfl, ?_⟩
        rw [List.drop_length] at e2
        have e3 : Out.ok acc st2 = Out.ok acc0 st0 := e2
        injection e3 with e4 e5
        subst e4 e5
        exact fin acc st2 xs H2 r2 l2 S2 n2 p2 en
  · rw [if_neg hsz] at h1
    exact False.elim h1
  where
    wipe_twice (σ : L2.St) : ∀ vs : List Nat, L2.wipe (L2.wipe σ vs) vs = L2.wipe σ vs := fun vs => by
      have key : ∀ (ws : List Nat) (τ : L2.St), (∀ i ∈ ws, τ[i]? = some none ∨ τ[i]? = none) → L2.wipe τ ws = τ := by
        intro ws
        induction ws with
        | nil => intro τ _; rfl
        | cons w ws ih =>
          intro τ h
          show (L2.wipe τ ws).set w none = τ
          rw [ih τ fun i hi => h i (List.mem_cons_of_mem _ hi)]
          apply List.ext_getElem?
          intro j
          by_cases e : w = j
          · subst e
            rcases h w List.mem_cons_self with q | q
            · have hw : w < τ.length := (List.getElem?_eq_some_iff.mp q).1
              rw [List.getElem?_set_self hw, q]
            · rw [q, List.getElem?_eq_none]
              simpa using q
          · rw [List.getElem?_set_ne e]
      have at_ : ∀ (ws : List Nat) (i : Nat), i ∈ ws → (L2.wipe σ ws)[i]? = some none ∨ (L2.wipe σ ws)[i]? = none := by
        intro ws
        induction ws with
        | nil => intro i hi; simp at hi
        | cons w ws ih =>
          intro i hi
          show ((L2.wipe σ ws).set w none)[i]? = _ ∨ ((L2.wipe σ ws).set w none)[i]? = _
          by_cases e : w = i
          · subst e
            by_cases hw : w < (L2.wipe σ ws).length
            · exact .inl (List.getElem?_set_self hw)
            · exact .inr (List.getElem?_eq_none (by simpa using hw))
          · rw [List.getElem?_set_ne e]
            refine ih i ?_
            rcases List.mem_cons.mp hi with z | z
            · exact absurd z.symm e
            · exact z
      exact key vs _ fun i hi => at_ vs i hi
end
end Dt

set_option maxHeartbeats 4000000
namespace Dt
open PySem PySem.Spec PyProof.Rows L2
section
variable {X : Cx} {T : List (Addr × Str)} {mg : Str → Option Value} {E : XK} {tg iter elt a c e : Expr} {ifs : List Expr} {src : SA} {t : Tg} {I : SB} {F G : SE} {pos : Pos} {scope : Scope} {own : List (Str × Nat)} {vs : List Nat}
theorem d_ts0 : PTs X [] (rdT X.K T mg E sYes) := ⟨fun pins s σ H Q J ⟨b, r, env, st, R, h⟩ => pts_nil.run pins s σ H Q J (h true H r (.refl r) R.s rfl)⟩
theorem d_ts1 {C : SB} (h : PT X c (rdT X.K T mg E C)) : PTs X [c] (rdT X.K T mg E C) := pts_one h
/-- [e for t in it if c] -/
theorem d_comp (own : List (Str × Nat)) (hc : X.calm = true) (hN : X.N.Nodup) (hi : PI X tg iter (rdI X.K T mg E src)) (ok : BlkOk X.N X.env.scope scope own)
    (hg : ∀ (s : Shared) (H : Hp) (C : Addr) (cl : List (Str × Addr)) (fp : List Addr), PG (X.blk s H scope (compEnvC scope cl C X.env) fp) tg (t.g X.K)) (ht : ∀ (s : Shared) (H : Hp) (C : Addr) (cl : List (Str × Addr)) (fp : List Addr), PTs (X.blk s H scope (compEnvC scope cl C X.env) fp) ifs (rdT X.K T mg EF I))
    (he : ∀ (s : Shared) (H : Hp) (C : Addr) (cl : List (Str × Addr)) (fp : List Addr), PE (X.blk s H scope (compEnvC scope cl C X.env) fp) elt (rdE X.K T mg EF G)) (hv : own.map (·.2) = vs := by rfl) (hl : ∀ i ∈ t.slots, i ∈ own.map (·.2) := by decide)
    (hs : ∀ x, foldedSetIterable iter X.env x = pure x := by intro _; rfl) : PE X (.ListComp elt [⟨tg, iter, ifs, 0⟩] scope pos) (rdE X.K T mg E (sComp src t vs I G)) := by
  subst hv
  exact peI (pe_lc hc hN hi ok hg ht he hs) (lc_read (fun _ _ _ h => h) hl)
theorem d_setLc (i : Nat) (own : List (Str × Nat)) {y : Str} {py spos : Pos} (hc : X.calm = true) (hN : X.N.Nodup) (hsw : swapsWith (.ListComp elt [⟨tg, iter, ifs, 0⟩] scope pos) (some (.Name y py)) spos.line X.env = pure true) (hi : PI X tg iter (rdI X.K T mg E src)) (ok : BlkOk X.N X.env.scope scope own)
    (hg : ∀ (s : Shared) (H : Hp) (C : Addr) (cl : List (Str × Addr)) (fp : List Addr), PG (X.blk s H scope (compEnvC scope cl C X.env) fp) tg (t.g X.K)) (ht : ∀ (s : Shared) (H : Hp) (C : Addr) (cl : List (Str × Addr)) (fp : List Addr), PTs (X.blk s H scope (compEnvC scope cl C X.env) fp) ifs (rdT X.K T mg EF I))
    (he : ∀ (s : Shared) (H : Hp) (C : Addr) (cl : List (Str × Addr)) (fp : List Addr), PE (X.blk s H scope (compEnvC scope cl C X.env) fp) elt (rdE X.K T mg EF G)) (hy : X.N[i]? = some y := by rfl) (hyl : X.env.scope.names.lookup y = some .local := by rfl) (hv : own.map (·.2) = vs := by rfl) (hl : ∀ i ∈ t.slots, i ∈ own.map (·.2) := by decide)
    (hs : ∀ x, foldedSetIterable iter X.env x = pure x := by intro _; rfl) : PS X (.Assign [.Name y py] (.ListComp elt [⟨tg, iter, ifs, 0⟩] scope pos) spos) (rdS X.K T mg E (sSet i (sComp src t vs I G))) := by
  subst hv
  refine psI (ps_setLc hc hN hy hyl hsw hi ok hg ht he hs) fun D σ H h => ?_
  have q : rdE X.K T mg E (sComp src t (own.map (·.2)) I G) σ H (fun v H1 => D.nx (σ.set i (some v)) H1) := rdS.bind (f := fun d env => M.pure (.nx, env.set i (.va d))) h fun b r env st x v H1 R p q => q _ H1 r (.refl R.bas) (R.set p i)
  exact lc_read (fun _ _ _ h => h) hl σ H _ q
/-! ### truth, tests -/
def truD : D → M Bool
  | .bl b => M.pure b
  | _ => M.bad
def sTst (F : SE) : SB := fun env => F env >>= truD
def iteB (A B : SB) : Bool → SB
  | true => A
  | false => B
def kB (b : Bool) : SB := fun _ => M.pure b
def sAnd (A B : SB) : SB := fun env => A env >>= fun c => iteB B (kB false) c env
def sOr (A B : SB) : SB := fun env => A env >>= fun c => iteB (kB true) B c env
def sNot (A : SB) : SB := fun env => A env >>= fun c => M.pure (!c)
def iteE (F G : SE) : Bool → SE
  | true => F
  | false => G
def sIfE (C : SB) (F G : SE) : SE := fun env => C env >>= fun c => iteE F G c env
def andV (G : SE) : D → SE
  | .bl true => G
  | .bl false => sC (.bl false)
  | _ => fun _ => M.bad
def orV (G : SE) : D → SE
  | .bl true => sC (.bl true)
  | .bl false => G
  | _ => fun _ => M.bad
def sAndV (F G : SE) : SE := fun env => F env >>= fun d => andV G d env
def sOrV (F G : SE) : SE := fun env => F env >>= fun d => orV G d env
def notD : D → M D
  | .bl b => M.pure (.bl (!b))
  | _ => M.bad
def sNotV (F : SE) : SE := fun env => F env >>= notD
theorem tst_read {K : PySem.W.Frag} {te : TE} (hw : ∀ σ H Q, rdE K T mg E F σ H Q → te σ H Q) (σ : L2.St) (H : Hp) (Q : Bool → Hp → Prop) (h : rdT K T mg E (sTst F) σ H Q) : te σ H fun x H' => ∃ k, x = .bl k ∧ Q k H' :=
  hw _ _ _ (rd.bind (G := fun d _ => truD d) h fun b r env st x v H1 R p q => by
    cases x with
    | bl y => exact ⟨y, p.b, q y H1 r (.refl r) R.s rfl⟩
    | _ => exact False.elim q)
/-- a value as a test -/
theorem dt_val (h : PE X e (rdE X.K T mg E F)) (he : ∀ whole, isTrue e X.env whole = (do let v ← whole; standAt e.pos; holding [v] (truthy v)) := by intro _; rfl) : PT X e (rdT X.K T mg E (sTst F)) := ptI (pt_val h he) (tst_read fun _ _ _ z => z)
/-- a comparison as a test -/
theorem dt_cmp {o : CmpOp} {r2 : R2} {op : D → D → M D} (ho : OpR X (compareOp o) r2) (hs : OpS X.K op r2) (ha : PE X a (rdE X.K T mg E F)) (hb : PE X c (rdE X.K T mg E G)) (hm : behindInMarks o c = false) : PT X (.Compare a [o] [c] pos) (rdT X.K T mg E (sTst (sOp2 op F G))) :=
  ptI (pt_cmpR ho ha hb hm) (tst_read (two hs))
theorem d_andB {A B : SB} {rest : List Expr} (ha : PT X a (rdT X.K T mg E A)) (hb : PW X (.BoolOp .And (c :: rest) pos) (rdT X.K T mg E B)) : PW X (.BoolOp .And (a :: c :: rest) pos) (rdT X.K T mg E (sAnd A B)) :=
  pwI (pw_and ha hb) fun σ H Q h => rd.bind (G := fun c env => iteB B (kB false) c env) h fun b r env st x v H1 R p q => by
    have p' : v = x := p
    subst p'
    cases v with
    | true =>
      rw [if_pos rfl]
      exact ⟨b, r, env, st, R, q⟩
    | false =>
      rw [if_neg Bool.false_ne_true]
      exact q false H1 r (.refl r) R.s rfl
theorem d_orB {A B : SB} {rest : List Expr} (ha : PT X a (rdT X.K T mg E A)) (hb : PW X (.BoolOp .Or (c :: rest) pos) (rdT X.K T mg E B)) : PW X (.BoolOp .Or (a :: c :: rest) pos) (rdT X.K T mg E (sOr A B)) :=
  pwI (pw_or ha hb) fun σ H Q h => rd.bind (G := fun c env => iteB (kB true) B c env) h fun b r env st x v H1 R p q => by
    have p' : v = x := p
    subst p'
    cases v with
    | true =>
      rw [if_pos rfl]
      exact q true H1 r (.refl r) R.s rfl
    | false =>
      rw [if_neg Bool.false_ne_true]
      exact ⟨b, r, env, st, R, q⟩
theorem d_and1 {A : SB} (ha : PT X a (rdT X.K T mg E A)) : PW X (.BoolOp .And [a] pos) (rdT X.K T mg E A) := pw_and1 ha
theorem d_or1 {A : SB} (ha : PT X a (rdT X.K T mg E A)) : PW X (.BoolOp .Or [a] pos) (rdT X.K T mg E A) := pw_or1 ha
theorem dt_not {A : SB} (ha : PT X a (rdT X.K T mg E A)) : PT X (.UnaryOp .Not a pos) (rdT X.K T mg E (sNot A)) :=
  ptI (pt_not ha) fun σ H Q h => rd.bind (G := fun c _ => M.pure (!c)) h fun b r env st x v H1 R p q => by
    have p' : v = x := p
    subst p'
    exact q (!v) H1 r (.refl r) R.s rfl
theorem d_ifE {C : SB} {x y : Expr} (hc : PT X c (rdT X.K T mg E C)) (ha : PE X x (rdE X.K T mg E F)) (hb : PE X y (rdE X.K T mg E G)) : PE X (.IfExp c x y pos) (rdE X.K T mg E (sIfE C F G)) :=
  peI (pe_ifExp hc ha hb) fun σ H Q h => rd.bind (G := fun c env => iteE F G c env) h fun b r env st x v H1 R p q => by
    have p' : v = x := p
    subst p'
    cases v with
    | true =>
      rw [if_pos rfl]
      exact ⟨b, r, env, st, R, q⟩
    | false =>
      rw [if_neg Bool.false_ne_true]
      exact ⟨b, r, env, st, R, q⟩
theorem d_one1 {op} {F : SE} (h : PE X a (rdE X.K T mg E F)) : PE X (.BoolOp op [a] pos) (rdE X.K T mg E F) := pe_one h
theorem d_andV {rest : List Expr} (ha : PE X a (rdE X.K T mg E F)) (hb : PE X (.BoolOp .And (c :: rest) pos) (rdE X.K T mg E G)) : PE X (.BoolOp .And (a :: c :: rest) pos) (rdE X.K T mg E (sAndV F G)) :=
  peI (pe_and ha hb) fun σ H Q h => rd.bind (G := fun d env => andV G d env) h fun b r env st x v H1 R p q => by
    cases x with
    | bl y =>
      refine ⟨y, p.b, ?_⟩
      cases y with
      | true =>
        rw [if_pos rfl]
        exact ⟨b, r, env, st, R, q⟩
      | false =>
        rw [if_neg Bool.false_ne_true]
        exact q _ H1 r (.refl r) R.s (.bl false)
    | _ => exact False.elim q
theorem d_orV {rest : List Expr} (ha : PE X a (rdE X.K T mg E F)) (hb : PE X (.BoolOp .Or (c :: rest) pos) (rdE X.K T mg E G)) : PE X (.BoolOp .Or (a :: c :: rest) pos) (rdE X.K T mg E (sOrV F G)) :=
  peI (pe_or ha hb) fun σ H Q h => rd.bind (G := fun d env => orV G d env) h fun b r env st x v H1 R p q => by
    cases x with
    | bl y =>
      refine ⟨y, p.b, ?_⟩
      cases y with
      | true =>
        rw [if_pos rfl]
        exact q _ H1 r (.refl r) R.s (.bl true)
      | false =>
        rw [if_neg Bool.false_ne_true]
        exact ⟨b, r, env, st, R, q⟩
    | _ => exact False.elim q
theorem d_notV (ha : PE X a (rdE X.K T mg E F)) : PE X (.UnaryOp .Not a pos) (rdE X.K T mg E (sNotV F)) :=
  peI (pe_not ha) fun σ H Q h => rd.bind (G := fun d _ => notD d) h fun b r env st x v H1 R p q => by
    cases x with
    | bl y => exact ⟨y, p.b, q _ H1 r (.refl r) R.s (.bl _)⟩
    | _ => exact False.elim q
/-- not, of what is told as a test alone -/
theorem d_notT {C : SB} (ha : PT X a (rdT X.K T mg E C)) (ht : PE X (.UnaryOp .Not a pos) (rdE X.K T mg E F)) : PE X (.UnaryOp .Not a pos) (rdE X.K T mg E F) := ht
/-- a op1 b op2 c -/
def chV (op : D → D → M D) (y : D) (G : SE) : D → SE
  | .bl true => fun env => G env >>= fun z => op y z
  | .bl false => sC (.bl false)
  | _ => fun _ => M.bad
def sChain (op op' : D → D → M D) (F G G' : SE) : SE := fun env => F env >>= fun x => G env >>= fun y => op x y >>= fun k => chV op' y G' k env
theorem chain_read {K : PySem.W.Frag} {r2 r2' : R2} {op op' : D → D → M D} {G' : SE} (hs : OpS K op r2) (hs' : OpS K op' r2') (σ : L2.St) (H : Hp) (Q : VK) (h : rdE K T mg E (sChain op op' F G G') σ H Q) : tChain r2 r2' (rdE K T mg E F) (rdE K T mg E G) (rdE K T mg E G') σ H Q :=
  rd.bind (G := fun x env => G env >>= fun y => op x y >>= fun k => chV op' y G' k env) h fun b r env st x v H1 R p q =>
    ⟨b, r, env, st, R, Aft.bind (f := fun y => op x y >>= fun k => chV op' y G' k env) q fun y st2 w H2 r2 l S p2 q2 => hs T mg E r2 H2 st2 v w x y _ S (p.mono l) p2 (Aft.bind (f := fun k => chV op' y G' k env) q2 fun k st3 kv H3 r3 l3 S3 p3 q3 => by
      cases k with
      | bl z =>
        refine ⟨z, p3.b, ?_⟩
        have R3 := (R.go l S).go l3 S3
        cases z with
        | true =>
          rw [if_pos rfl]
          exact ⟨b, r3, env, st3, R3, Aft.bind (f := fun z => op' y z) q3 fun z st4 zv H4 r4 l4 S4 p4 q4 => hs' T mg E r4 H4 st4 w zv y z Q S4 ((p2.mono l3).mono l4) p4 q4⟩
        | false =>
          rw [if_neg Bool.false_ne_true]
          exact q3 _ H3 r3 (.refl r3) S3 (.bl false)
      | _ => exact False.elim q3)⟩
theorem d_chain {o o' : CmpOp} {r2 r2' : R2} {op op' : D → D → M D} {x y z : Expr} {F' : SE} (ho : OpR X (compareOp o) r2) (hs : OpS X.K op r2) (ho' : OpR X (compareOp o') r2') (hs' : OpS X.K op' r2') (ha : PE X x (rdE X.K T mg E F)) (hb : PE X y (rdE X.K T mg E G)) (hc : PE X z (rdE X.K T mg E F'))
    (hm : lastMarks [o, o'] [y, z] = false := by with_unfolding_all rfl) : PE X (.Compare x [o, o'] [y, z] pos) (rdE X.K T mg E (sChain op op' F G F')) := peI (pe_chain ho ho' ha hb hc hm) (chain_read hs hs')
theorem dt_chain {o o' : CmpOp} {r2 r2' : R2} {op op' : D → D → M D} {x y z : Expr} {F' : SE} (ho : OpR X (compareOp o) r2) (hs : OpS X.K op r2) (ho' : OpR X (compareOp o') r2') (hs' : OpS X.K op' r2') (ha : PE X x (rdE X.K T mg E F)) (hb : PE X y (rdE X.K T mg E G)) (hc : PE X z (rdE X.K T mg E F'))
    (hm : lastMarks [o, o'] [y, z] = false := by with_unfolding_all rfl) : PT X (.Compare x [o, o'] [y, z] pos) (rdT X.K T mg E (sTst (sChain op op' F G F'))) := ptI (pt_chain ho ho' ha hb hc hm) (tst_read (chain_read hs hs'))
end
end Dt

set_option maxHeartbeats 4000000
namespace Dt
open PySem PySem.Spec PyProof.Rows L2
/-! ### new objects -/
section
variable {K : PySem.W.Frag} {T : List (Addr × Str)} {mg : Str → Option Value} {E : XK} {r : Rho} {H : Hp} {st : Sto} {xs : List V} {ds : List D} {Q : VK}
theorem new_tup (S : RelS K T r H st) (p : Reps K r xs ds) (h : Aft (Rep K) K T mg E r (.ok (.tup ds) st) Q) : ∀ a, H a = none → Q (.ref a) (upd H a (.tup xs)) := fun a ha => by
  have hl := S.fresh_fl ha
  refine h _ _ (r.add a (.tup xs)) (Rho.add_le hl) (S.add ha (by intro ps z; cases z)) (.tup (.inl (.inl ?_)) (p.mono (Rho.add_le hl)))
  show upd r.fl a (.tup xs) a = _
  rw [upd_same]
theorem new_lst (S : RelS K T r H st) (p : Reps K r xs ds) (h : Aft (Rep K) K T mg E r (.ok (.lst ds) st) Q) : ∀ a, H a = none → Q (.ref a) (upd H a (.lst xs)) := fun a ha => by
  have hl := S.fresh_fl ha
  refine h _ _ (r.add a (.lst xs)) (Rho.add_le hl) (S.add ha (by intro ps z; cases z)) (.lst (.inl (.inl ?_)) (p.mono (Rho.add_le hl)))
  show upd r.fl a (.lst xs) a = _
  rw [upd_same]
theorem aft_same {α β : Type} {RR : Rho → β → α → Prop} {x : α} {Q : β → Hp → Prop} (h : Aft RR K T mg E r (.ok x st) Q) {v : β} (S : RelS K T r H st) (p : RR r v x) : Q v H := h v H r (.refl r) S p
end
theorem big_line {n : Nat} (h : n ≤ 1000000) : n ≤ sizeLine := Nat.le_trans h (by decide)
/-! ### displays -/
def mkT (xs : List D) : M D := if xs.length ≤ 1000000 then M.pure (D.tup xs) else M.bad
def mkL1 (xs : List D) : M D := if xs.length ≤ 1000000 then M.pure (D.lst xs) else M.bad
def sTup (Fs : SA) : SE := fun env => Fs env >>= mkT
def sLst (Fs : SA) : SE := fun env => Fs env >>= mkL1
section
variable {X : Cx} {T : List (Addr × Str)} {mg : Str → Option Value} {E : XK} {es : List Expr} {Fs : SA} {pos : Pos}
theorem d_tup {k} (h : DA X T mg E es Fs) : PE X (.Tuple es k pos) (rdE X.K T mg E (sTup Fs)) :=
  peI (pe_tup h.pa) fun σ H Q q => rd.bind (G := fun xs _ => mkT xs) q fun b r env st x v H1 R p q => by
    unfold mkT at q
    split at q
    · rename_i hz
      exact ⟨by rw [p.length]; exact big_line hz, new_tup R.s p q⟩
    · exact False.elim q
theorem d_lst (h : DA X T mg E es Fs) : PE X (.List es pos) (rdE X.K T mg E (sLst Fs)) :=
  peI (pe_lst h.pa) fun σ H Q q => rd.bind (G := fun xs _ => mkL1 xs) q fun b r env st x v H1 R p q => by
    unfold mkL1 at q
    split at q
    · rename_i hz
      exact ⟨by rw [p.length]; exact big_line hz, new_lst R.s p q⟩
    · exact False.elim q
end
/-! ### + - * // % ** -/
def opAdd : D → D → M D
  | .int i, .int j => M.pure (.int (i + j))
  | .str x, .str y => if x.length + y.length ≤ 1000000 then M.pure (.str (x ++ y)) else M.bad
  | .tup xs, .tup ys => if xs.length + ys.length ≤ 1000000 then M.pure (.tup (xs ++ ys)) else M.bad
  | .lst xs, .lst ys => if xs.length + ys.length ≤ 1000000 then M.pure (.lst (xs ++ ys)) else M.bad
  | _, _ => M.bad
def opSub : D → D → M D
  | .int i, .int j => M.pure (.int (i - j))
  | _, _ => M.bad
def opMul : D → D → M D
  | .int i, .int j => if i.natAbs.log2 + j.natAbs.log2 < 1000000 then M.pure (.int (i * j)) else M.bad
  | .tup xs, .int k => if xs ≠ [] ∧ 1 ≤ k ∧ k ≤ 1000 ∧ xs.length ≤ 1000 then M.pure (.tup (List.replicate k.toNat xs).flatten) else M.bad
  | .lst xs, .int k => if 0 ≤ k ∧ k ≤ 1000 ∧ xs.length ≤ 1000 then M.pure (.lst (List.replicate k.toNat xs).flatten) else M.bad
  | _, _ => M.bad
def opDiv : D → D → M D
  | .int i, .int j => if j ≠ 0 ∧ j.natAbs.log2 < 9000 then M.pure (.int (i.fdiv j)) else M.bad
  | _, _ => M.bad
def opMod : D → D → M D
  | .int i, .int j => if j ≠ 0 then M.pure (.int (i.fmod j)) else M.bad
  | _, _ => M.bad
def opPow : D → D → M D
  | .int i, .int j => if 0 ≤ j ∧ j ≤ 1000 ∧ i.natAbs < 2 ^ 64 then M.pure (.int (i ^ j.toNat)) else M.bad
  | _, _ => M.bad
def opNeg : D → M D
  | .int i => M.pure (.int (-i))
  | _ => M.bad
/-- xs + ys, lists that are read -/
def rCatL (K : PySem.W.Frag) : R2 := fun x y H Q => ∃ l b xs zs, x = .ref l ∧ y = .ref b ∧ SqL K H l xs ∧ SqL K H b zs ∧ xs.length + zs.length ≤ sizeLine ∧ ∀ p, H p = none → Q (.ref p) (upd H p (.lst (xs ++ zs)))
theorem add_plain {prog : Program} {w : World} {A : Around} {E : Value → Shared → Prop} {s : Shared} {l b : Addr} {items items2 : Array Value} {Q : Value → Shared → Prop} (hl : PlainL s.heap l items) (hb : PlainL s.heap b items2)
    (h : Q (.ref s.heap.objs.size) { s with heap := s.heap.push { cls := .type "list", data := .seq (items ++ items2) } }) (hsz : items.size + items2.size ≤ sizeLine) : wpAny (model prog w) A (binaryOp .Add (.ref l) (.ref b)) Q E s := by
  obtain ⟨⟨cls, dd, data, sl⟩, n, ho, hc, _, hd⟩ := hl
  obtain ⟨⟨cls2, dd2, data2, sl2⟩, n2, ho2, hc2, _, hd2⟩ := hb
  simp only at hc hd hc2 hd2
  subst hc hd hc2 hd2
  exact concat_meets ⟨_, ho, rfl⟩ ⟨_, ho2, rfl⟩ noFill_list_add seq_list_add PySem.F.slot_list_add PySem.F.entry_list_add (PySem.F.args_list_add_2 _ _) (list_addW l b items items2 n n2 dd dd2 sl sl2 hsz) ⟨ho, ho2, h⟩
theorem op_catL {X : Cx} : OpR X (binaryOp .Add) (rCatL X.K) := by
  intro pins s σ H x y v u Q I rx ry h
  obtain ⟨l, b, xs, zs, rfl, rfl, hH, hB, hz, q⟩ := h
  cases rx
  cases ry
  obtain ⟨its, r1, p1, z1⟩ := I.list hH
  obtain ⟨its2, r2, p2, z2⟩ := I.list hB
  refine add_plain p1 p2 ?_ (by rw [List.size_toArray, List.size_toArray, ← r1.length, ← r2.length]; exact hz)
  have ea : its.toArray ++ its2.toArray = (its ++ its2).toArray := by simp
  rw [ea]
  exact ⟨.ref _, _, I.lnew (t' := s.toks) (r1.append r2) (by rw [List.length_append]; omega), rfl, q _ I.fresh⟩
def rAddA (K : PySem.W.Frag) : R2 := fun x y H Q => rI0 (fun i j => .int (i + j)) x y H Q ∨ (∃ i j, x = .str i ∧ y = .str j ∧ i.length + j.length ≤ sizeLine ∧ Q (.str (i ++ j)) H) ∨ rCatA K x y H Q ∨ rCatL K x y H Q
theorem op_addA {X : Cx} : OpR X (binaryOp .Add) (rAddA X.K) := op_add.or (op_add_str.or (op_catA.or op_catL))
theorem os_add {K : PySem.W.Frag} : OpS K opAdd (rAddA K) := fun T mg E r H st x y dx dy Q S p q h => by
  cases dx with
  | int i =>
    cases dy with
    | int j => exact .inl ⟨i, j, p.i, q.i, aft_same h S (.int _)⟩
    | _ => exact False.elim h
  | str i =>
    cases dy with
    | str j =>
      have h' : Aft (Rep K) K T mg E r ((if i.length + j.length ≤ 1000000 then M.pure (.str (i ++ j)) else M.bad : M D) st) Q := h
      split at h'
      · rename_i hz
        exact .inr (.inl ⟨i, j, p.s, q.s, big_line hz, aft_same h' S (.str _)⟩)
      · exact False.elim h'
    | _ => exact False.elim h
  | tup xs =>
    cases dy with
    | tup ys =>
      have h' : Aft (Rep K) K T mg E r ((if xs.length + ys.length ≤ 1000000 then M.pure (.tup (xs ++ ys)) else M.bad : M D) st) Q := h
      split at h'
      · rename_i hz
        obtain ⟨a, vs, rfl, ha, ra⟩ := p.t
        obtain ⟨c, ws, rfl, hc, rc⟩ := q.t
        refine .inr (.inr (.inl ⟨a, c, vs, ws, rfl, rfl, sqT_mono S.low ha, sqT_mono S.low hc, by rw [ra.length, rc.length]; exact big_line hz, fun e => ?_, fun _ e => ?_, fun _ _ => new_tup S (ra.append rc) h'⟩))
        · subst e
          have e2 : xs = [] := by
            cases ra
            rfl
          subst e2
          exact aft_same h' S q
        · subst e
          have e2 : ys = [] := by
            cases rc
            rfl
          subst e2
          rw [List.append_nil] at h'
          exact aft_same h' S p
      · exact False.elim h'
    | _ => exact False.elim h
  | lst xs =>
    cases dy with
    | lst ys =>
      have h' : Aft (Rep K) K T mg E r ((if xs.length + ys.length ≤ 1000000 then M.pure (.lst (xs ++ ys)) else M.bad : M D) st) Q := h
      split at h'
      · rename_i hz
        obtain ⟨a, vs, rfl, ha, ra⟩ := p.l
        obtain ⟨c, ws, rfl, hc, rc⟩ := q.l
        exact .inr (.inr (.inr ⟨a, c, vs, ws, rfl, rfl, sqL_mono S.low ha, sqL_mono S.low hc, by rw [ra.length, rc.length]; exact big_line hz, new_lst S (ra.append rc) h'⟩))
      · exact False.elim h'
    | _ => exact False.elim h
  | _ => exact False.elim h
theorem os_sub {K : PySem.W.Frag} : OpS K opSub (rI0 fun i j => .int (i - j)) := fun T mg E r H st x y dx dy Q S p q h => by
  cases dx with
  | int i =>
    cases dy with
    | int j => exact ⟨i, j, p.i, q.i, aft_same h S (.int _)⟩
    | _ => exact False.elim h
  | _ => exact False.elim h
/-- // by any divisor but 0 below 2 ^ 9000 -/
def CDivG (_ j : Int) : Prop := j ≠ 0 ∧ j.natAbs.log2 < 9000
theorem op_fdivG {X : Cx} : OpR X (binaryOp .FloorDiv) (rI CDivG fun i j => .int (i.fdiv j)) := opI fun i j _ _ _ _ _ hc q => floordiv_int hc.1 q (.inl (PyProof.noPylong_of_log2 hc.2))
theorem os_div {K : PySem.W.Frag} : OpS K opDiv (rI CDivG fun i j => .int (i.fdiv j)) := fun T mg E r H st x y dx dy Q S p q h => by
  cases dx with
  | int i =>
    cases dy with
    | int j =>
      have h' : Aft (Rep K) K T mg E r ((if j ≠ 0 ∧ j.natAbs.log2 < 9000 then M.pure (.int (i.fdiv j)) else M.bad : M D) st) Q := h
      split at h'
      · rename_i hz
        exact ⟨i, j, p.i, q.i, hz, aft_same h' S (.int _)⟩
      · exact False.elim h'
    | _ => exact False.elim h
  | _ => exact False.elim h
theorem os_mod {K : PySem.W.Frag} : OpS K opMod (rI (fun _ j => j ≠ 0) fun i j => .int (i.fmod j)) := fun T mg E r H st x y dx dy Q S p q h => by
  cases dx with
  | int i =>
    cases dy with
    | int j =>
      have h' : Aft (Rep K) K T mg E r ((if j ≠ 0 then M.pure (.int (i.fmod j)) else M.bad : M D) st) Q := h
      split at h'
      · rename_i hz
        exact ⟨i, j, p.i, q.i, hz, aft_same h' S (.int _)⟩
      · exact False.elim h'
    | _ => exact False.elim h
  | _ => exact False.elim h
theorem os_pow {K : PySem.W.Frag} : OpS K opPow (rI CPow fun i j => .int (i ^ j.toNat)) := fun T mg E r H st x y dx dy Q S p q h => by
  cases dx with
  | int i =>
    cases dy with
    | int j =>
      have h' : Aft (Rep K) K T mg E r ((if 0 ≤ j ∧ j ≤ 1000 ∧ i.natAbs < 2 ^ 64 then M.pure (.int (i ^ j.toNat)) else M.bad : M D) st) Q := h
      split at h'
      · rename_i hz
        exact ⟨i, j, p.i, q.i, ⟨hz.1, by omega, hz.2.2⟩, aft_same h' S (.int _)⟩
      · exact False.elim h'
    | _ => exact False.elim h
  | _ => exact False.elim h
theorem us_neg {K : PySem.W.Frag} : UnS K opNeg (rU fun i => .int (-i)) := fun T mg E r H st x dx Q S p h => by
  cases dx with
  | int i => exact ⟨i, p.i, aft_same h S (.int _)⟩
  | _ => exact False.elim h
/-- t * 1 is t -/
def rRep1 (K : PySem.W.Frag) : R2 := fun x y H Q => ∃ l xs, x = .ref l ∧ y = .int 1 ∧ SqT K H l xs ∧ xs ≠ [] ∧ xs.length ≤ 1000 ∧ Q (.ref l) H
theorem tuple_mul1 (l : Addr) (items : Array Value) (n : Nat) (dd : Option Addr) (sl : Array (Option Value)) (u : Tok) :
    Meets (Builtin.«tuple.__mul__» ⟨[.ref l, .int 1 u], []⟩) (fun _ R s => s.heap.get? l = some { cls := .type "tuple", dict := dd, data := .seq items n, slots := sl } ∧ R (.ok (.ret (Value.ref l))) s) :=
  .of_wp fun prog w A R s h => by
    obtain ⟨hp, g, d, tk, os⟩ := s
    obtain ⟨hl, h⟩ := h
    have f1 := AutoSeq1.idx_int
    have c0 : (decide ((1 : Int) < -(2 ^ 63)) || decide ((1 : Int) ≥ 2 ^ 63)) = false := by decide
    have c1 : (items.isEmpty || (1 : Int) == 1) = true := by simp
    wp_walk using wpAny_loadPart' hl
    repeat (first
      | (refine wpAny_ite_false (decide_eq_false (by rw [c0]; exact Bool.false_ne_true)) ?_; wp_walk using wpAny_loadPart' hl)
      | (refine wpAny_ite_true (decide_eq_true (by rw [c1])) ?_; wp_walk using wpAny_loadPart' hl))
    exact ⟨_, rfl, h⟩
theorem op_rep1 {X : Cx} : OpR X (binaryOp .Mult) (rRep1 X.K) := by
  intro pins s σ H x y v u Q I rx ry h
  obtain ⟨l, xs, rfl, rfl, hT, hne, hz, q⟩ := h
  cases rx
  obtain ⟨t, rfl⟩ := ry
  obtain ⟨its, r, ⟨⟨cls, dd, data, sl⟩, ho, hc, n, hd⟩, hs⟩ := I.tuple hT
  simp only at hc hd
  subst hc hd
  exact wpAny_binaryOp_repeat_ref (T := "tuple") (U := "int") (by decide) ⟨_, ho, rfl⟩ (fun s' => typeIs_int s' 1 t) noFill_tuple_mul F.fills_int_mul F.slot_int_rmul repeat_tuple F.slot_int_index.lookup
    (call_meets F.slot_int_rmul (typeIs_int s 1 t) F.entry_int_rmul (F.args_int_rmul_2 _ _) (int_rmul_tuple 1 t l its.toArray n dd sl)
      ⟨ho, rfl, ⟨_, ho, rfl⟩, call_meets F.slot_tuple_mul ⟨_, ho, rfl⟩ F.entry_tuple_mul (F.args_tuple_mul_2 _ _) (tuple_mul1 l its.toArray n dd sl t) ⟨ho, ⟨.ref l, H, I, rfl, q⟩⟩⟩)
/-- xs * k, a list that is read -/
def rRepL (K : PySem.W.Frag) : R2 := fun x y H Q => ∃ l k xs, x = .ref l ∧ y = .int k ∧ SqL K H l xs ∧ 0 ≤ k ∧ k ≤ 1000 ∧ xs.length ≤ 1000 ∧ ∀ p, H p = none → Q (.ref p) (upd H p (.lst (List.replicate k.toNat xs).flatten))
theorem op_repL {X : Cx} : OpR X (binaryOp .Mult) (rRepL X.K) := by
  intro pins s σ H x y v u Q I rx ry h
  obtain ⟨l, k, xs, rfl, rfl, hL, h0, h1, hz, q⟩ := h
  cases rx
  obtain ⟨t, rfl⟩ := ry
  obtain ⟨its, r, ⟨⟨cls, dd, data, sl⟩, n, ho, hc, _, hd⟩, hs⟩ := I.list hL
  simp only at hc hd
  subst hc hd
  have hle : its.length = xs.length := r.length.symm
  have hm : its.toArray.size * k.toNat ≤ 1000000 := by
    rw [List.size_toArray, hle]
    exact Nat.mul_le_mul (show xs.length ≤ 1000 from hz) (show k.toNat ≤ 1000 by omega)
  have flen : (List.replicate k.toNat its).flatten.length ≤ sizeLine := by
    rw [PyProof.Rows.lm_len_rep_flat, sizeLine_eq]
    rw [List.size_toArray, Nat.mul_comm] at hm
    omega
  refine wpAny_binaryOp_repeat_ref (T := "list") (U := "int") (by decide) ⟨_, ho, rfl⟩ (fun s' => typeIs_int s' k t) noFill_list_mul F.fills_int_mul F.slot_int_rmul repeat_list F.slot_int_index.lookup
    (call_meets F.slot_int_rmul (typeIs_int s k t) F.entry_int_rmul (F.args_int_rmul_2 _ _) (lm_int_rmul_list_any k t l its.toArray n dd sl)
      ⟨ho, rfl, ⟨_, ho, rfl⟩, call_meets F.slot_list_mul ⟨_, ho, rfl⟩ F.entry_list_mul (F.args_list_mul_2 _ _)
        (lm_list_mul_any l its.toArray n dd sl k t (by simp [Builtin.List.listFitsIndex]; omega) (by omega) (by simp only [Builtin.List.listTooLong, sizeLine_eq, decide_eq_true_eq]; omega))
        ⟨ho, ?_⟩⟩)
  rw [listMul_foldl_if]
  exact ⟨.ref _, _, I.lnew (t' := s.toks) (r.rep k.toNat) (by rw [PyProof.Rows.lm_len_rep_flat] at flen ⊢; rw [hle] at flen; exact flen), rfl, q _ I.fresh⟩
def rMulA (K : PySem.W.Frag) : R2 := fun x y H Q => rI CMulW (fun i j => .int (i * j)) x y H Q ∨ rRepT K x y H Q ∨ rRep1 K x y H Q ∨ rRepL K x y H Q
theorem op_mulA {X : Cx} : OpR X (binaryOp .Mult) (rMulA X.K) := op_mulW.or (op_repT.or (op_rep1.or op_repL))
theorem reps_rep {K : PySem.W.Frag} {r : Rho} {vs : List V} {ds : List D} (h : Reps K r vs ds) : ∀ n : Nat, Reps K r (List.replicate n vs).flatten (List.replicate n ds).flatten
  | 0 => .nil
  | n + 1 => by
    rw [List.replicate_succ, List.replicate_succ, List.flatten_cons, List.flatten_cons]
    exact h.append (reps_rep h n)
theorem os_mul {K : PySem.W.Frag} : OpS K opMul (rMulA K) := fun T mg E r H st x y dx dy Q S p q h => by
  cases dx with
  | int i =>
    cases dy with
    | int j =>
      have h' : Aft (Rep K) K T mg E r ((if i.natAbs.log2 + j.natAbs.log2 < 1000000 then M.pure (.int (i * j)) else M.bad : M D) st) Q := h
      split at h'
      · rename_i hz
        exact .inl ⟨i, j, p.i, q.i, hz, aft_same h' S (.int _)⟩
      · exact False.elim h'
    | _ => exact False.elim h
  | tup xs =>
    cases dy with
    | int k =>
      have h' : Aft (Rep K) K T mg E r ((if xs ≠ [] ∧ 1 ≤ k ∧ k ≤ 1000 ∧ xs.length ≤ 1000 then M.pure (.tup (List.replicate k.toNat xs).flatten) else M.bad : M D) st) Q := h
      split at h'
      · rename_i hz
        obtain ⟨a, vs, rfl, ha, ra⟩ := p.t
        have hne : vs ≠ [] := fun e => hz.1 (by
          subst e
          cases ra
          rfl)
        have ek := q.i
        subst ek
        by_cases h1 : k = 1
        · subst h1
          have e1 : (List.replicate (1 : Int).toNat xs).flatten = xs := by simp
          rw [e1] at h'
          exact .inr (.inr (.inl ⟨a, vs, rfl, rfl, sqT_mono S.low ha, hne, by rw [ra.length]; exact hz.2.2.2, aft_same h' S p⟩))
        · exact .inr (.inl ⟨a, k, vs, rfl, rfl, sqT_mono S.low ha, hne, by omega, hz.2.2.1, by rw [ra.length]; exact hz.2.2.2, new_tup S (reps_rep ra _) h'⟩)
      · exact False.elim h'
    | _ => exact False.elim h
  | lst xs =>
    cases dy with
    | int k =>
      have h' : Aft (Rep K) K T mg E r ((if 0 ≤ k ∧ k ≤ 1000 ∧ xs.length ≤ 1000 then M.pure (.lst (List.replicate k.toNat xs).flatten) else M.bad : M D) st) Q := h
      split at h'
      · rename_i hz
        obtain ⟨a, vs, rfl, ha, ra⟩ := p.l
        have ek := q.i
        subst ek
        exact .inr (.inr (.inr ⟨a, k, vs, rfl, rfl, sqL_mono S.low ha, hz.1, hz.2.1, by rw [ra.length]; exact hz.2.2, new_lst S (reps_rep ra _) h'⟩))
      · exact False.elim h'
    | _ => exact False.elim h
  | _ => exact False.elim h
/-! ### comparisons of ints -/
def opCmp (p : Int → Int → Bool) : D → D → M D
  | .int i, .int j => M.pure (.bl (p i j))
  | _, _ => M.bad
theorem os_cmp {K : PySem.W.Frag} {p : Int → Int → Bool} : OpS K (opCmp p) (rI0 fun i j => .bl (p i j)) := fun T mg E r H st x y dx dy Q S q q2 h => by
  cases dx with
  | int i =>
    cases dy with
    | int j => exact ⟨i, j, q.i, q2.i, aft_same h S (.bl _)⟩
    | _ => exact False.elim h
  | _ => exact False.elim h
def opLt := opCmp fun i j => decide (i < j)
def opLe := opCmp fun i j => decide (i ≤ j)
def opGt := opCmp fun i j => decide (j < i)
def opGe := opCmp fun i j => decide (j ≤ i)
/-! ### is None -/
def opIsN : D → D → M D
  | .non, .non => M.pure (.bl true)
  | _, .non => M.pure (.bl false)
  | _, _ => M.bad
def opNotN : D → D → M D
  | .non, .non => M.pure (.bl false)
  | _, .non => M.pure (.bl true)
  | _, _ => M.bad
theorem rep_non {K : PySem.W.Frag} {r : Rho} {v : V} {d : D} (p : Rep K r v d) : (v = .non) ↔ d = .non := by
  cases p <;> simp
theorem os_isN {K : PySem.W.Frag} : OpS K opIsN (fun x y H Q => y = .non ∧ Q (.bl (decide (x = .non))) H) := fun T mg E r H st x y dx dy Q S p q h => by
  cases dy with
  | non =>
    refine ⟨q.n, ?_⟩
    by_cases e : dx = .non
    · subst e
      have e2 := (rep_non p).mpr rfl
      rw [decide_eq_true e2]
      exact aft_same h S (.bl true)
    · rw [decide_eq_false fun z => e ((rep_non p).mp z)]
      have h' : Aft (Rep K) K T mg E r (.ok (.bl false) st) Q := by
        cases dx <;> first | exact absurd rfl e | exact h
      exact aft_same h' S (.bl false)
  | _ => cases dx <;> exact False.elim h
theorem os_notN {K : PySem.W.Frag} : OpS K opNotN (fun x y H Q => y = .non ∧ Q (.bl (!decide (x = .non))) H) := fun T mg E r H st x y dx dy Q S p q h => by
  cases dy with
  | non =>
    refine ⟨q.n, ?_⟩
    by_cases e : dx = .non
    · subst e
      have e2 := (rep_non p).mpr rfl
      rw [decide_eq_true e2]
      exact aft_same h S (.bl false)
    · rw [decide_eq_false fun z => e ((rep_non p).mp z)]
      have h' : Aft (Rep K) K T mg E r (.ok (.bl true) st) Q := by
        cases dx <;> first | exact absurd rfl e | exact h
      exact aft_same h' S (.bl true)
  | _ => cases dx <;> exact False.elim h
/-! ### == -/
mutual
def okE : D → Bool
  | .non | .bl _ | .int _ => true
  | .str x => PyData.strOk x
  | .tup ds => okEs ds
  | .lst ds => okEs ds
  | .ref _ | .adr _ => false
def okEs : List D → Bool
  | [] => true
  | d :: ds => okE d && okEs ds
end
mutual
def dpE : D → Nat
  | .tup ds => dpEs ds + 1
  | .lst ds => dpEs ds + 1
  | _ => 0
def dpEs : List D → Nat
  | [] => 0
  | d :: ds => max (dpE d) (dpEs ds)
end
mutual
def eqD : D → D → Bool
  | .non, .non => true
  | .bl a, .bl b => a == b
  | .bl a, .int j => (if a then 1 else 0) == j
  | .int i, .bl b => i == (if b then 1 else 0)
  | .int i, .int j => i == j
  | .str x, .str y => x == y
  | .lst xs, .lst ys => eqDs xs ys
  | .tup xs, .tup ys => eqDs xs ys
  | _, _ => false
def eqDs : List D → List D → Bool
  | [], [] => true
  | x :: xs, y :: ys => eqD x y && eqDs xs ys
  | _, _ => false
end
mutual
def pyD : D → PyData
  | .non => .none
  | .bl b => .bool b
  | .int i => .int i
  | .str x => .str x
  | .tup ds => .tuple (pyDs ds)
  | .lst ds => .list (pyDs ds)
  | .ref _ => .none
  | .adr _ => .none
def pyDs : List D → List PyData
  | [] => []
  | d :: ds => pyD d :: pyDs ds
end
mutual
theorem py_lay : ∀ d : D, okE d = true → (pyD d).canLay0 = true
  | .non, _ => rfl
  | .bl _, _ => rfl
  | .int _, _ => rfl
  | .str x, h => h
  | .tup ds, h => py_lays ds h
  | .lst ds, h => py_lays ds h
  | .ref _, h => by cases h
  | .adr _, h => by cases h
theorem py_lays : ∀ ds : List D, okEs ds = true → PyData.canLayAll0 (pyDs ds) = true
  | [], _ => rfl
  | d :: ds, h => by
    have h' : (okE d && okEs ds) = true := h
    rw [Bool.and_eq_true] at h'
    show ((pyD d).canLay0 && PyData.canLayAll0 (pyDs ds)) = true
    rw [py_lay d h'.1, py_lays ds h'.2]
    rfl
end
mutual
theorem py_dp : ∀ d : D, (pyD d).depth = dpE d
  | .non => rfl
  | .bl _ => rfl
  | .int _ => rfl
  | .str x => rfl
  | .tup ds => congrArg Nat.succ (py_dps ds)
  | .lst ds => congrArg Nat.succ (py_dps ds)
  | .ref _ => rfl
  | .adr _ => rfl
theorem py_dps : ∀ ds : List D, PyData.depthAll (pyDs ds) = dpEs ds
  | [] => rfl
  | d :: ds => by
    show max (pyD d).depth (PyData.depthAll (pyDs ds)) = max (dpE d) (dpEs ds)
    rw [py_dp d, py_dps ds]
end
mutual
theorem py_eqv : ∀ d e : D, okE d = true → okE e = true → PyData.eqv (pyD d) (pyD e) = eqD d e
  | .non, e, _, he => by cases e <;> first | rfl | cases he
  | .bl _, e, _, he => by cases e <;> first | rfl | cases he
  | .int _, e, _, he => by cases e <;> first | rfl | cases he
  | .str _, e, _, he => by cases e <;> first | rfl | cases he
  | .tup ds, e, hd, he => by
    cases e with
    | tup es => exact py_eqvs ds es hd he
    | _ => first | rfl | cases he
  | .lst ds, e, hd, he => by
    cases e with
    | lst es => exact py_eqvs ds es hd he
    | _ => first | rfl | cases he
  | .ref _, _, h, _ => by cases h
  | .adr _, _, h, _ => by cases h
theorem py_eqvs : ∀ ds es : List D, okEs ds = true → okEs es = true → PyData.eqvAll (pyDs ds) (pyDs es) = eqDs ds es
  | [], [], _, _ => rfl
  | [], _ :: _, _, _ => rfl
  | _ :: _, [], _, _ => rfl
  | d :: ds, e :: es, h, g => by
    have h' : (okE d && okEs ds) = true := h
    have g' : (okE e && okEs es) = true := g
    rw [Bool.and_eq_true] at h' g'
    show (PyData.eqv (pyD d) (pyD e) && PyData.eqvAll (pyDs ds) (pyDs es)) = (eqD d e && eqDs ds es)
    rw [py_eqv d e h'.1 g'.1, py_eqvs ds es h'.2 g'.2]
end
mutual
theorem rep_dp {K : PySem.W.Frag} {r : Rho} {H : Hp} (hl : ∀ a o, r.fl a = some o → H a = some o) : ∀ {v : V} {d : D}, Rep K r v d → okE d = true → Dp K H v (pyD d)
  | _, _, .non, _ => .non
  | _, _, .bl b, _ => .bl b
  | _, _, .int i, _ => .int i
  | _, _, .str x, _ => .str x
  | _, _, .tup s q, h => .tup (sqT_mono hl s) (reps_dp hl q h)
  | _, _, .lst s q, h => .lst (sqL_mono hl s) (reps_dp hl q h)
  | _, _, .ref _, h => by cases h
  | _, _, .adr _, h => by cases h
theorem reps_dp {K : PySem.W.Frag} {r : Rho} {H : Hp} (hl : ∀ a o, r.fl a = some o → H a = some o) : ∀ {vs : List V} {ds : List D}, Reps K r vs ds → okEs ds = true → DpAll K H vs (pyDs ds)
  | _, _, .nil, _ => .nil
  | _, _, .cons p q, h => by
    rename_i v vs d ds
    have h' : (okE d && okEs ds) = true := h
    rw [Bool.and_eq_true] at h'
    exact .cons (rep_dp hl p h'.1) (reps_dp hl q h'.2)
end
def eqOk (x y : D) : Bool := (okE x && okE y) && (decide (dpE x ≤ 64) && decide (dpE y ≤ 64))
def opEq (x y : D) : M D := if eqOk x y = true then M.pure (.bl (eqD x y)) else M.bad
def opNe (x y : D) : M D := if eqOk x y = true then M.pure (.bl (!eqD x y)) else M.bad
theorem eqOk_of {x y : D} (h : eqOk x y = true) : okE x = true ∧ okE y = true ∧ SeqAt.shaped (pyD x) = true ∧ SeqAt.shaped (pyD y) = true := by
  unfold eqOk at h
  simp only [Bool.and_eq_true, decide_eq_true_eq] at h
  obtain ⟨⟨h1, h2⟩, h3, h4⟩ := h
  refine ⟨h1, h2, ?_, ?_⟩
  · unfold SeqAt.shaped
    rw [py_lay x h1, py_dp, decide_eq_true h3]
    rfl
  · unfold SeqAt.shaped
    rw [py_lay y h2, py_dp, decide_eq_true h4]
    rfl
theorem os_eq {K : PySem.W.Frag} : OpS K opEq (rEqD K) := fun T mg E r H st x y dx dy Q S p q h => by
  unfold opEq at h
  split at h
  · rename_i hz
    obtain ⟨h1, h2, h3, h4⟩ := eqOk_of hz
    refine ⟨pyD dx, pyD dy, rep_dp S.low p h1, rep_dp S.low q h2, h3, h4, ?_⟩
    rw [py_eqv _ _ h1 h2]
    exact aft_same h S (.bl _)
  · exact False.elim h
theorem os_ne {K : PySem.W.Frag} : OpS K opNe (rNeD K) := fun T mg E r H st x y dx dy Q S p q h => by
  unfold opNe at h
  split at h
  · rename_i hz
    obtain ⟨h1, h2, h3, h4⟩ := eqOk_of hz
    refine ⟨pyD dx, pyD dy, rep_dp S.low p h1, rep_dp S.low q h2, h3, h4, ?_⟩
    rw [py_eqv _ _ h1 h2]
    exact aft_same h S (.bl _)
  · exact False.elim h
end Dt

set_option maxHeartbeats 4000000
namespace Dt
open PySem PySem.Spec PyProof.Rows L2
/-! ### places -/
def ixD : D → D → M D
  | .tup ds, .int i => (match atI ds i with
    | some d => M.pure d
    | none => M.bad)
  | .lst ds, .int i => (match atI ds i with
    | some d => M.pure d
    | none => M.bad)
  | .ref k, .int i => fun st => (match st[k]? with
    | some (.lst ds) => (match atI ds i with
      | some d => .ok d st
      | none => .bad)
    | _ => .bad)
  | _, _ => M.bad
def rIxA (K : PySem.W.Frag) : R2 := fun x y H Q => rIxL K x y H Q ∨ rIxT K x y H Q
theorem ix_A {X : Cx} : IxR X (rIxA X.K) := ix_list.or ix_tup
theorem atI_reps {K : PySem.W.Frag} {r : Rho} {vs : List V} {ds : List D} {i : Int} {d : D} (h : Reps K r vs ds) (e : atI ds i = some d) : ∃ v, atI vs i = some v ∧ Rep K r v d := by
  unfold atI at e ⊢
  rw [h.length]
  cases q : ixN ds.length i with
  | none =>
    rw [q] at e
    cases e
  | some j =>
    rw [q] at e
    exact h.get e
theorem os_ix {K : PySem.W.Frag} : OpS K ixD (rIxA K) := fun T mg E r H st x y dx dy Q S p q h => by
  cases dx with
  | tup ds =>
    cases dy with
    | int i =>
      obtain ⟨a, vs, rfl, ha, ra⟩ := p.t
      have h' : Aft (Rep K) K T mg E r ((match atI ds i with
        | some d => M.pure d
        | none => M.bad : M D) st) Q := h
      cases e : atI ds i with
      | none =>
        rw [e] at h'
        exact False.elim h'
      | some d =>
        rw [e] at h'
        obtain ⟨v, h1, h2⟩ := atI_reps ra e
        exact .inr ⟨a, vs, i, v, rfl, q.i, sqT_mono S.low ha, h1, aft_same h' S h2⟩
    | _ => exact False.elim h
  | lst ds =>
    cases dy with
    | int i =>
      obtain ⟨a, vs, rfl, ha, ra⟩ := p.l
      have h' : Aft (Rep K) K T mg E r ((match atI ds i with
        | some d => M.pure d
        | none => M.bad : M D) st) Q := h
      cases e : atI ds i with
      | none =>
        rw [e] at h'
        exact False.elim h'
      | some d =>
        rw [e] at h'
        obtain ⟨v, h1, h2⟩ := atI_reps ra e
        exact .inl ⟨a, vs, i, v, rfl, q.i, sqL_mono S.low ha, h1, aft_same h' S h2⟩
    | _ => exact False.elim h
  | ref k =>
    cases dy with
    | int i =>
      obtain ⟨a, rfl, hk⟩ := p.rf
      have h' : Aft (Rep K) K T mg E r (match st[k]? with
        | some (.lst ds) => (match atI ds i with
          | some d => .ok d st
          | none => .bad)
        | _ => .bad) Q := h
      cases e : st[k]? with
      | none =>
        rw [e] at h'
        exact False.elim h'
      | some ob =>
        rw [e] at h'
        cases ob with
        | ins C gs => exact False.elim h'
        | lst ds =>
          have h2 : Aft (Rep K) K T mg E r (match atI ds i with
            | some d => .ok d st
            | none => .bad) Q := h'
          cases e2 : atI ds i with
          | none =>
            rw [e2] at h2
            exact False.elim h2
          | some d =>
            rw [e2] at h2
            obtain ⟨xs, hx, rx⟩ := S.obs k a _ hk e
            obtain ⟨v, h1, h3⟩ := atI_reps rx e2
            exact .inl ⟨a, xs, i, v, rfl, q.i, .inl (.inl hx), h1, aft_same h2 S h3⟩
    | _ => exact False.elim h
  | _ => exact False.elim h
section
variable {X : Cx} {T : List (Addr × Str)} {mg : Str → Option Value} {E : XK} {a c e : Expr} {F G : SE} {pos p2 : Pos}
theorem d_ix (ha : PE X a (rdE X.K T mg E F)) (hb : PE X c (rdE X.K T mg E G)) (hs : PlainIx c) : PE X (.Subscript a c pos) (rdE X.K T mg E (sOp2 ixD F G)) := peI (pe_ix ix_A ha hb hs) (two os_ix)
end
/-! ### slices -/
def cutD (ds : List D) (lo hi : Option Int) : List D := (ds.drop (HT.sIx ds.length 0 lo)).take (HT.sIx ds.length ds.length hi - HT.sIx ds.length 0 lo)
def slD (lo hi : Option Int) : D → M D
  | .tup ds => M.pure (.tup (cutD ds lo hi))
  | .lst ds => M.pure (.lst (cutD ds lo hi))
  | _ => M.bad
theorem cut_reps {K : PySem.W.Frag} {r : Rho} {vs : List V} {ds : List D} {lo hi : Option Int} (h : Reps K r vs ds) : Reps K r (cutV vs lo hi) (cutD ds lo hi) := by
  unfold cutV cutD
  rw [h.length]
  exact (h.drop _).take _
abbrev SO := Env → M (Option Int)
def intO : D → M (Option Int)
  | .int i => M.pure (some i)
  | _ => M.bad
def sPart (F : SE) : SO := fun env => F env >>= intO
def sNoPart : SO := fun _ => M.pure none
def sSlice (F : SE) (L U : SO) : SE := fun env => F env >>= fun x => L env >>= fun l => U env >>= fun u => slD l u x
abbrev RO : Rho → Option Int → Option Int → Prop := fun _ x y => x = y
abbrev rdO (K : PySem.W.Frag) (T : List (Addr × Str)) (mg : Str → Option Value) (E : XK) (F : SO) : TO := rd RO K T mg E F
def rSlAll (K : PySem.W.Frag) : V → Option Int → Option Int → Hp → VK → Prop := fun x lo hi H Q => rSlA K x lo hi H Q ∨ rSlL K x lo hi H Q
theorem sl_all {X : Cx} : SlR X (rSlAll X.K) := sl_tupA.or sl_list
theorem sl_read {K : PySem.W.Frag} {T : List (Addr × Str)} {mg : Str → Option Value} {E : XK} {r : Rho} {H : Hp} {st : Sto} {x : V} {dx : D} {lo hi : Option Int} {Q : VK} (S : RelS K T r H st) (p : Rep K r x dx) (h : Aft (Rep K) K T mg E r (slD lo hi dx st) Q) : rSlAll K x lo hi H Q := by
  cases dx with
  | tup ds =>
    obtain ⟨a, vs, rfl, ha, ra⟩ := p.t
    refine .inl ⟨a, vs, rfl, sqT_mono S.low ha, fun hw => ?_, fun _ => new_tup S (cut_reps ra) h⟩
    have e : cutD ds lo hi = ds := by
      unfold cutD
      rw [← ra.length, hw.1, hw.2]
      simp [ra.length]
    have h' : Aft (Rep K) K T mg E r (.ok (.tup (cutD ds lo hi)) st) Q := h
    rw [e] at h'
    exact aft_same h' S p
  | lst ds =>
    obtain ⟨a, vs, rfl, ha, ra⟩ := p.l
    exact .inr ⟨a, vs, rfl, sqL_mono S.low ha, new_lst S (cut_reps ra) h⟩
  | _ => exact False.elim h
theorem poI {X : Cx} {e : Option Expr} {t t' : TO} (h : PO X e t') (w : ∀ σ H Q, t σ H Q → t' σ H Q) : PO X e t := ⟨fun pins s σ H Q I q => h.run pins s σ H Q I (w σ H Q q)⟩
section
variable {X : Cx} {T : List (Addr × Str)} {mg : Str → Option Value} {E : XK} {a c e : Expr} {F G : SE} {pos p2 : Pos} {lo hi : Option Expr} {L U : SO}
theorem d_po0 : PO X none (rdO X.K T mg E sNoPart) := poI po_none fun σ H Q ⟨b, r, env, st, R, h⟩ => h none H r (.refl r) R.s rfl
theorem d_po1 (h : PE X e (rdE X.K T mg E F)) : PO X (some e) (rdO X.K T mg E (sPart F)) := poI (po_some h) fun σ H Q q => rd.bind (G := fun d _ => intO d) q fun b r env st x v H1 R p q => by
  cases x with
  | int i => exact ⟨i, p.i, q (some i) H1 r (.refl r) R.s rfl⟩
  | _ => exact False.elim q
theorem d_slice (he : PE X e (rdE X.K T mg E F)) (hl : PO X lo (rdO X.K T mg E L)) (hu : PO X hi (rdO X.K T mg E U)) : PE X (.Subscript e (.Slice lo hi none p2) pos) (rdE X.K T mg E (sSlice F L U)) :=
  peI (pe_slice sl_all he hl hu) fun σ H Q h => rd.bind (G := fun x env => L env >>= fun l => U env >>= fun u => slD l u x) h fun b r env st x v H1 R p q =>
    ⟨b, r, env, st, R, Aft.bind (f := fun l => U env >>= fun u => slD l u x) q fun l st2 lv H2 r2 l2 S2 p2 q2 =>
      ⟨b, r2, env, st2, R.go l2 S2, Aft.bind (f := fun u => slD l u x) q2 fun u st3 uv H3 r3 l3 S3 p3 q3 => by
        have e1 : lv = l := p2
        have e2 : uv = u := p3
        subst e1 e2
        exact sl_read S3 ((p.mono l2).mono l3) q3⟩⟩
end
/-! ### calls of built-ins -/
def sCb (f : List D → M D) (Fs : SA) : SE := fun env => Fs env >>= f
section
variable {X : Cx} {T : List (Addr × Str)} {mg : Str → Option Value} {E : XK} {e : Expr} {es : List Expr} {Fs : SA} {x : Str} {p pos : Pos} {id Ty : String} {rc : List V → Hp → VK → Prop} {f : List D → M D}
theorem cb_read (hs : CbS X.K f rc) (σ : L2.St) (H : Hp) (Q : VK) (h : rdE X.K T mg E (sCb f Fs) σ H Q) : tCB rc (rdA X.K T mg E Fs) σ H Q := rd.bind (G := fun xs _ => f xs) h fun b r env st xs v H1 R p q => hs T mg E r H1 st v xs Q R.s p q
theorem d_cb (hc : CallR X (.builtin id) rc) (hs : CbS X.K f rc) (hg : Gl X x) (hm : X.mg x = none) (hv : bootBuiltins x = some (.builtin id)) (ha : DA X T mg E (e :: es) Fs) (hn : x ≠ "__name__" := by decide) (hdb : (x == ("__debug__" : Str)) = false := by decide)
    (he : starEach (e :: es) X.env = (false, eval e X.env) :: starEach es X.env := by rfl) (hpl : (backTo pos (starEach es X.env)).any (·.1) = false := by rfl) : PE X (.Call (.Name x p) (e :: es) [] pos) (rdE X.K T mg E (sCb f Fs)) := peI (pe_callB hc hg hm hv ha.pa hn hdb he hpl) (cb_read hs)
theorem d_cbT (hc : CallR X (.type Ty) rc) (hs : CbS X.K f rc) (hg : Gl X x) (hm : X.mg x = none) (hv : bootBuiltins x = some (.type Ty)) (ha : DA X T mg E (e :: es) Fs) (hn : x ≠ "__name__" := by decide) (hdb : (x == ("__debug__" : Str)) = false := by decide)
    (he : starEach (e :: es) X.env = (false, eval e X.env) :: starEach es X.env := by rfl) (hpl : (backTo pos (starEach es X.env)).any (·.1) = false := by rfl) : PE X (.Call (.Name x p) (e :: es) [] pos) (rdE X.K T mg E (sCb f Fs)) := peI (pe_callTy hc hg hm hv ha.pa hn hdb he hpl) (cb_read hs)
end
def bLen : List D → M D
  | [.tup ds] => M.pure (.int ds.length)
  | [.lst ds] => M.pure (.int ds.length)
  | [.str x] => if x.length ≤ 1000000 then M.pure (.int x.length) else M.bad
  | _ => M.bad
def rLenA (K : PySem.W.Frag) : List V → Hp → VK → Prop := fun xs H Q => (∃ p ys, xs = [.ref p] ∧ (SqL K H p ys ∨ SqT K H p ys) ∧ Q (.int ys.length) H) ∨ (∃ z, xs = [.str z] ∧ z.length ≤ sizeLine ∧ Q (.int z.length) H)
theorem cb_or {X : Cx} {f : Value} {r r' : List V → Hp → VK → Prop} (h : CallR X f r) (h' : CallR X f r') : CallR X f (fun xs H Q => r xs H Q ∨ r' xs H Q) := by
  intro pins s σ H xs us Q I rv q
  rcases q with q | q
  · exact h pins s σ H xs us Q I rv q
  · exact h' pins s σ H xs us Q I rv q
theorem cr_len {X : Cx} : CallR X (.builtin "len") (rLenA X.K) := cb_or call_len_seq call_len_str
theorem cs_len {K : PySem.W.Frag} : CbS K bLen (rLenA K) := fun T mg E r H st xs ds Q S p h => by
  rcases ds with _ | ⟨d, _ | ⟨d2, ds⟩⟩
  · exact False.elim h
  · obtain ⟨v, rfl, q⟩ := p.i1
    cases d with
    | tup ds =>
      obtain ⟨a, vs, rfl, ha, ra⟩ := q.t
      refine .inl ⟨a, vs, rfl, .inr (sqT_mono S.low ha), ?_⟩
      rw [ra.length]
      exact aft_same h S (.int _)
    | lst ds =>
      obtain ⟨a, vs, rfl, ha, ra⟩ := q.l
      refine .inl ⟨a, vs, rfl, .inl (sqL_mono S.low ha), ?_⟩
      rw [ra.length]
      exact aft_same h S (.int _)
    | str z =>
      have h' : Aft (Rep K) K T mg E r ((if z.length ≤ 1000000 then M.pure (.int z.length) else M.bad : M D) st) Q := h
      split at h'
      · rename_i hz
        exact .inr ⟨z, by rw [q.s], big_line hz, aft_same h' S (.int _)⟩
      · exact False.elim h'
    | _ => exact False.elim h
  · cases d <;> exact False.elim h
/-! ### isinstance -/
def tyN : D → Option String
  | .non => some "NoneType"
  | .bl _ => some "bool"
  | .int _ => some "int"
  | .str _ => some "str"
  | .tup _ => some "tuple"
  | .lst _ => some "list"
  | _ => none
def isTy (c : String) (t : String) : Bool := c == t || (c == "int" && t == "bool")
def bIs (c : String) : List D → M D
  | [d] => (match tyN d with
    | some t => M.pure (.bl (isTy c t))
    | none => M.bad)
  | _ => M.bad
theorem tyX_of {K : PySem.W.Frag} {r : Rho} {H : Hp} (hl : ∀ a o, r.fl a = some o → H a = some o) {v : V} {d : D} {t : String} (p : Rep K r v d) (e : tyN d = some t) : TyX K H v (.type t) := by
  cases p with
  | non => cases e; exact .base .non
  | bl b => cases e; exact .base (.bl b)
  | int i => cases e; exact .base (.int i)
  | str x => cases e; exact .base (.str x)
  | tup s q =>
    cases e
    rcases sqT_mono hl s with (z | ⟨o, z⟩) | ⟨o, its, n, z, c, _⟩
    · exact .base (.tup z)
    · exact .fTuple z
    · exact .kTuple z c
  | lst s q =>
    cases e
    rcases sqL_mono hl s with (z | ⟨o, z⟩) | ⟨o, its, n, z, c, _⟩
    · exact .base (.lst z)
    · exact .base (.frz z)
    · exact .kList z c
  | ref h => cases e
  | adr a => cases e
/-- isinstance(x, c), c a built-in class -/
def isKinds (c : String) : Bool := (["NoneType", "bool", "int", "str", "tuple", "list"] : List String).all fun t => kitB t c == some (isTy c t)
theorem isK_int : isKinds "int" = true := by decide +kernel
theorem isK_bool : isKinds "bool" = true := by decide +kernel
theorem isK_str : isKinds "str" = true := by decide +kernel
theorem isK_tuple : isKinds "tuple" = true := by decide +kernel
theorem isK_list : isKinds "list" = true := by decide +kernel
theorem isKinds_at {c : String} (h : isKinds c = true) {d : D} {t : String} (e : tyN d = some t) : kitB t c = some (isTy c t) := by
  have q := List.all_eq_true.mp h t (by cases d <;> cases e <;> simp)
  simpa using q
def rIsC (K : PySem.W.Frag) (c : String) : List V → Hp → VK → Prop := fun xs H Q => ∃ x t, xs = [x] ∧ TyX K H x (.type t) ∧ kitB t c = some (isTy c t) ∧ Q (.bl (isTy c t)) H
/-- isinstance(e, C): the class by its name -/
def sIs (c : String) (F : SE) : SE := fun env => F env >>= fun d => bIs c [d]
section
variable {X : Cx} {T : List (Addr × Str)} {mg : Str → Option Value} {E : XK} {e : Expr} {F : SE} {cn : Str} {p p2 pos : Pos}
theorem d_isi {c : String} (hk : isKinds c = true) (hg : Gl X "isinstance") (hm : X.mg "isinstance" = none) (hgc : Gl X cn) (hmc : X.mg cn = none) (hvc : bootBuiltins cn = some (.type c)) (he : PE X e (rdE X.K T mg E F))
    (hn : cn ≠ "__name__" := by decide) (hdb : (cn == ("__debug__" : Str)) = false := by decide)
    (hs : starEach [e, .Name cn p2] X.env = (false, eval e X.env) :: starEach [.Name cn p2] X.env := by rfl) (hs2 : starEach [.Name cn p2] X.env = (false, eval (.Name cn p2) X.env) :: starEach [] X.env := by rfl) (hpl : (backTo pos (starEach [.Name cn p2] X.env)).any (·.1) = false := by rfl) :
    PE X (.Call (.Name "isinstance" p) [e, .Name cn p2] [] pos) (rdE X.K T mg E (sIs c F)) :=
  peI (pe_callB call_isi hg hm boot_isinstance (pa_cons he (pa_cons (pe_bltn (v := .ty c) hgc hmc hvc rfl hn hdb) pa_nil hs2) hs) (by decide) (by decide) hs hpl) fun σ H Q h => rd.bind (G := fun d _ => bIs c [d]) h fun b r env st x v H1 R p q => by
    have q' : Aft (Rep X.K) X.K T mg E r ((match tyN x with
      | some t => M.pure (.bl (isTy c t))
      | none => M.bad : M D) st) Q := q
    cases et : tyN x with
    | none =>
      rw [et] at q'
      exact False.elim q'
    | some t =>
      rw [et] at q'
      exact ⟨v, .ty c, .type t, .type c, isTy c t, rfl, .ty c, tyX_of R.s.low p et, kit_ty (isKinds_at hk et), aft_same q' R.s (.bl _)⟩
end
/-! ### tuple, list, abs, int, all, any, sum -/
def bTuple : List D → M D
  | [.tup ds] => M.pure (.tup ds)
  | [.lst ds] => M.pure (.tup ds)
  | [.ref k] => fun st => (match st[k]? with
    | some (.lst ds) => .ok (.tup ds) st
    | _ => .bad)
  | _ => M.bad
theorem cs_tuple {K : PySem.W.Frag} : CbS K bTuple (fun xs H Q => ∃ p ys, xs = [.ref p] ∧ ((SqL K H p ys ∧ ∀ l, H l = none → Q (.ref l) (upd H l (.tup ys))) ∨ (SqT K H p ys ∧ Q (.ref p) H))) := fun T mg E r H st xs ds Q S p h => by
  rcases ds with _ | ⟨d, _ | ⟨d2, ds⟩⟩
  · exact False.elim h
  · obtain ⟨v, rfl, q⟩ := p.i1
    cases d with
    | tup ds =>
      obtain ⟨a, vs, rfl, ha, ra⟩ := q.t
      exact ⟨a, vs, rfl, .inr ⟨sqT_mono S.low ha, aft_same h S q⟩⟩
    | lst ds =>
      obtain ⟨a, vs, rfl, ha, ra⟩ := q.l
      exact ⟨a, vs, rfl, .inl ⟨sqL_mono S.low ha, new_tup S ra h⟩⟩
    | ref k =>
      obtain ⟨a, rfl, hk⟩ := q.rf
      have h' : Aft (Rep K) K T mg E r (match st[k]? with
        | some (.lst ds) => .ok (.tup ds) st
        | _ => .bad) Q := h
      cases e : st[k]? with
      | none =>
        rw [e] at h'
        exact False.elim h'
      | some ob =>
        rw [e] at h'
        cases ob with
        | ins C gs => exact False.elim h'
        | lst ds =>
          obtain ⟨xs, hx, rx⟩ := S.obs k a _ hk e
          exact ⟨a, xs, rfl, .inl ⟨.inl (.inl hx), new_tup S rx h'⟩⟩
    | _ => exact False.elim h
  · cases d <;> exact False.elim h
def bList : List D → M D
  | [.tup ds] => M.pure (.lst ds)
  | [.lst ds] => M.pure (.lst ds)
  | _ => M.bad
theorem cs_list {K : PySem.W.Frag} : CbS K bList (fun xs H Q => ∃ p ys, xs = [.ref p] ∧ (SqL K H p ys ∨ SqT K H p ys) ∧ ∀ l, H l = none → Q (.ref l) (upd H l (.lst ys))) := fun T mg E r H st xs ds Q S p h => by
  rcases ds with _ | ⟨d, _ | ⟨d2, ds⟩⟩
  · exact False.elim h
  · obtain ⟨v, rfl, q⟩ := p.i1
    cases d with
    | tup ds =>
      obtain ⟨a, vs, rfl, ha, ra⟩ := q.t
      exact ⟨a, vs, rfl, .inr (sqT_mono S.low ha), new_lst S ra h⟩
    | lst ds =>
      obtain ⟨a, vs, rfl, ha, ra⟩ := q.l
      exact ⟨a, vs, rfl, .inl (sqL_mono S.low ha), new_lst S ra h⟩
    | _ => exact False.elim h
  · cases d <;> exact False.elim h
def bAbs : List D → M D
  | [.int i] => M.pure (.int (if i < 0 then -i else i))
  | _ => M.bad
theorem cs_abs {K : PySem.W.Frag} : CbS K bAbs (fun xs H Q => ∃ i, xs = [.int i] ∧ Q (.int (if i < 0 then -i else i)) H) := fun T mg E r H st xs ds Q S p h => by
  rcases ds with _ | ⟨d, _ | ⟨d2, ds⟩⟩
  · exact False.elim h
  · obtain ⟨v, rfl, q⟩ := p.i1
    cases d with
    | int i => exact ⟨i, by rw [q.i], aft_same h S (.int _)⟩
    | _ => exact False.elim h
  · cases d <;> exact False.elim h
def bInt : List D → M D
  | [.int i] => M.pure (.int i)
  | [.bl b] => M.pure (.int (if b then 1 else 0))
  | _ => M.bad
theorem cs_int {K : PySem.W.Frag} : CbS K bInt (fun xs H Q => (∃ i, xs = [.int i] ∧ Q (.int i) H) ∨ ∃ k, xs = [.bl k] ∧ Q (.int (if k then 1 else 0)) H) := fun T mg E r H st xs ds Q S p h => by
  rcases ds with _ | ⟨d, _ | ⟨d2, ds⟩⟩
  · exact False.elim h
  · obtain ⟨v, rfl, q⟩ := p.i1
    cases d with
    | int i => exact .inl ⟨i, by rw [q.i], aft_same h S (.int _)⟩
    | bl b => exact .inr ⟨b, by rw [q.b], aft_same h S (.int _)⟩
    | _ => exact False.elim h
  · cases d <;> exact False.elim h
/-- all of a list of this kind, read -/
def boolsD : List D → Option (List Bool)
  | [] => some []
  | .bl b :: ds => (boolsD ds).map (b :: ·)
  | _ => none
def intsD : List D → Option (List Int)
  | [] => some []
  | .int b :: ds => (intsD ds).map (b :: ·)
  | _ => none
theorem boolsD_reps {K : PySem.W.Frag} {r : Rho} : ∀ {ds : List D} {vs : List V} {bs : List Bool}, Reps K r vs ds → boolsD ds = some bs → vs = bs.map V.bl
  | [], _, _, h, e => by
    cases h
    cases e
    rfl
  | d :: ds, _, bs, h, e => by
    cases h with
    | cons p q =>
      cases d with
      | bl b =>
        have e' : (boolsD ds).map (b :: ·) = some bs := e
        cases e2 : boolsD ds with
        | none =>
          rw [e2] at e'
          cases e'
        | some cs =>
          rw [e2] at e'
          have e3 : b :: cs = bs := Option.some.inj e'
          rw [← e3, p.b, boolsD_reps q e2]
          rfl
      | _ => cases e
theorem intsD_reps {K : PySem.W.Frag} {r : Rho} : ∀ {ds : List D} {vs : List V} {bs : List Int}, Reps K r vs ds → intsD ds = some bs → vs = bs.map V.int
  | [], _, _, h, e => by
    cases h
    cases e
    rfl
  | d :: ds, _, bs, h, e => by
    cases h with
    | cons p q =>
      cases d with
      | int b =>
        have e' : (intsD ds).map (b :: ·) = some bs := e
        cases e2 : intsD ds with
        | none =>
          rw [e2] at e'
          cases e'
        | some cs =>
          rw [e2] at e'
          have e3 : b :: cs = bs := Option.some.inj e'
          rw [← e3, p.i, intsD_reps q e2]
          rfl
      | _ => cases e
def onB (f : List Bool → Bool) : Option (List Bool) → M D
  | some bs => M.pure (.bl (f bs))
  | none => M.bad
def bAll : List D → M D
  | [.lst ds] => onB (·.all id) (boolsD ds)
  | _ => M.bad
def bAny : List D → M D
  | [.lst ds] => onB (·.any id) (boolsD ds)
  | _ => M.bad
theorem cs_all {K : PySem.W.Frag} : CbS K bAll (rAll K) := fun T mg E r H st xs ds Q S p h => by
  rcases ds with _ | ⟨d, _ | ⟨d2, ds⟩⟩
  · exact False.elim h
  · obtain ⟨v, rfl, q⟩ := p.i1
    cases d with
    | lst ds =>
      obtain ⟨a, vs, rfl, ha, ra⟩ := q.l
      have h' : Aft (Rep K) K T mg E r (onB (·.all id) (boolsD ds) st) Q := h
      cases e : boolsD ds with
      | none =>
        rw [e] at h'
        exact False.elim h'
      | some bs =>
        rw [e] at h'
        refine ⟨a, bs, rfl, ?_, aft_same h' S (.bl _)⟩
        rw [← boolsD_reps ra e]
        exact sqL_mono S.low ha
    | _ => exact False.elim h
  · cases d <;> exact False.elim h
theorem cs_any {K : PySem.W.Frag} : CbS K bAny (rAny K) := fun T mg E r H st xs ds Q S p h => by
  rcases ds with _ | ⟨d, _ | ⟨d2, ds⟩⟩
  · exact False.elim h
  · obtain ⟨v, rfl, q⟩ := p.i1
    cases d with
    | lst ds =>
      obtain ⟨a, vs, rfl, ha, ra⟩ := q.l
      have h' : Aft (Rep K) K T mg E r (onB (·.any id) (boolsD ds) st) Q := h
      cases e : boolsD ds with
      | none =>
        rw [e] at h'
        exact False.elim h'
      | some bs =>
        rw [e] at h'
        refine ⟨a, bs, rfl, ?_, aft_same h' S (.bl _)⟩
        rw [← boolsD_reps ra e]
        exact sqL_mono S.low ha
    | _ => exact False.elim h
  · cases d <;> exact False.elim h
def onI (f : List Int → M D) : Option (List Int) → M D
  | some bs => f bs
  | none => M.bad
def bSum : List D → M D
  | [.lst ds] => onI (fun ns => M.pure (.int ns.sum)) (intsD ds)
  | _ => M.bad
theorem cs_sum {K : PySem.W.Frag} : CbS K bSum (rSum K) := fun T mg E r H st xs ds Q S p h => by
  rcases ds with _ | ⟨d, _ | ⟨d2, ds⟩⟩
  · exact False.elim h
  · obtain ⟨v, rfl, q⟩ := p.i1
    cases d with
    | lst ds =>
      obtain ⟨a, vs, rfl, ha, ra⟩ := q.l
      have h' : Aft (Rep K) K T mg E r (onI (fun ns => M.pure (.int ns.sum)) (intsD ds) st) Q := h
      cases e : intsD ds with
      | none =>
        rw [e] at h'
        exact False.elim h'
      | some bs =>
        rw [e] at h'
        refine ⟨a, bs, rfl, ?_, aft_same h' S (.int _)⟩
        rw [← intsD_reps ra e]
        exact sqL_mono S.low ha
    | _ => exact False.elim h
  · cases d <;> exact False.elim h
end Dt

set_option maxHeartbeats 4000000
namespace Dt
open PySem PySem.Spec PyProof.Rows L2
/-! ### sources: a list (true), a tuple (false) -/
def SqV (K : PySem.W.Frag) : Bool → Hp → Addr → List V → Prop
  | true => SqL K
  | false => SqT K
def IsSqH : Bool → Heap → Addr → Array Value → Prop
  | true => Heap.IsList
  | false => Heap.IsTuple
def IsItH : Bool → Heap → Addr → Addr → Nat → Prop
  | true => Heap.IsListIter
  | false => Heap.IsTupleIter
def itObj : Bool → Addr → Obj
  | true, a => { cls := .type "list_iterator", data := .fields #[.ref a, .int 0 0] }
  | false, a => { cls := .type "tuple_iterator", data := .fields #[.ref a, .int 0 0] }
theorem begins_sq : ∀ (k : Bool) (a : Addr) (its : Array Value), Begins (.ref a) (itObj k a) fun h => IsSqH k h a its
  | true, a, its => begins_list a its
  | false, a, its => begins_tuple a its
theorem itObj_is {h : Heap} {it a : Addr} : ∀ {k : Bool}, h.get? it = some (itObj k a) → IsItH k h it a 0
  | true, e => ⟨_, e, rfl, rfl⟩
  | false, e => ⟨_, e, rfl, rfl⟩
theorem isIt_obj {h : Heap} {it a : Addr} {i : Nat} : ∀ {k : Bool}, IsItH k h it a i → ∃ o, h.get? it = some o ∧ ∀ v, o.data ≠ .cell v
  | true, ⟨o, e, _, d⟩ => ⟨o, e, fun v q => by rw [d] at q; cases q⟩
  | false, ⟨o, e, _, d⟩ => ⟨o, e, fun v q => by rw [d] at q; cases q⟩
theorem isIt_at {h h' : Heap} {it a : Addr} {i : Nat} : ∀ {k : Bool}, IsItH k h it a i → (∀ o, h.get? it = some o → h'.get? it = some o) → IsItH k h' it a i
  | true, q, w => Heap.IsListIter.at q w
  | false, q, w => Heap.IsTupleIter.at q w
theorem draws_sq {prog : Program} {w : World} {A : Around} (hh : A.handled = none) : ∀ (k : Bool) (it a : Addr) (hne : a ≠ it) (its : Array Value), Draws prog w A it [it, a] its.size (fun i v => its[i]? = some v) (fun i h => IsItH k h it a i ∧ IsSqH k h a its)
  | true, it, a, hne, its => Draws.list hh it a hne its
  | false, it, a, hne, its => Draws.tuple hh it a hne its
section
variable {X : Cx} {pins : List (Addr × Obj)} {σ : L2.St} {H : Hp} {s : Shared} {a : Addr} {xs ys : List V}
theorem inv_sq (I : Inv X pins σ H s) : ∀ {k : Bool}, SqV X.K k H a xs → ∃ its : List Value, Vals xs its ∧ IsSqH k s.heap a its.toArray ∧ a < s.heap.objs.size ∧ xs.length = its.length
  | true, h => by
    obtain ⟨its, r, p, _⟩ := I.list h
    exact ⟨its, r, p.isList, p.lt, r.length⟩
  | false, h => by
    obtain ⟨its, r, p, _⟩ := I.tuple h
    obtain ⟨o, ho, _⟩ := id p
    exact ⟨its, r, p, Heap.lt_size ho, r.length⟩
theorem sq_inj (I : Inv X pins σ H s) : ∀ {k : Bool}, SqV X.K k H a xs → SqV X.K k H a ys → xs = ys
  | true, h, h' => I.list_inj h h'
  | false, h, h' => I.tuple_inj h h'
/-- v stands for a list or a tuple of ds -/
theorem sq_mono {K : PySem.W.Frag} {H H' : Hp} (h : ∀ a o, H a = some o → H' a = some o) : ∀ {k : Bool}, SqV K k H a xs → SqV K k H' a xs
  | true, q => sqL_mono h q
  | false, q => sqT_mono h q
end
/-! ### zip of two -/
def ItzG (K : PySem.W.Frag) (k1 k2 : Bool) (a b : Addr) : It :=
  ⟨fun i H => ∃ (xs ys : List V) (x y : V), SqV K k1 H a xs ∧ SqV K k2 H b ys ∧ xs[i]? = some x ∧ ys[i]? = some y,
    fun i H v H' => ∃ T x y, v = .ref T ∧ H T = none ∧ H' = upd H T (.tup [x, y]) ∧ (∀ xs, SqV K k1 H a xs → xs[i]? = some x) ∧ ∀ ys, SqV K k2 H b ys → ys[i]? = some y,
    fun i H => ∃ xs ys : List V, SqV K k1 H a xs ∧ SqV K k2 H b ys ∧ i = min xs.length ys.length⟩
def znT (z TI TO i1 i2 a b : Addr) (k1 k2 : Bool) (i : Nat) (h : Heap) : Prop := IsZip h z TI TO .none ∧ IsTupOf2 h TI (.ref i1) (.ref i2) ∧ (∃ x y, IsTupOf2 h TO x y) ∧ IsItH k1 h i1 a i ∧ IsItH k2 h i2 b i
section
variable {z TI TO i1 i2 a b : Addr} {k1 k2 : Bool} {i : Nat} {h h' : Heap}
theorem znT_obj (st : znT z TI TO i1 i2 a b k1 k2 i h) : ∀ c ∈ [z, TI, TO, i1, i2], ∃ o, h.get? c = some o ∧ ∀ v, o.data ≠ .cell v := fun c hc => by
  obtain ⟨hz, hTI, ⟨x, y, hTO⟩, h1, h2⟩ := st
  have e' : c = z ∨ c = TI ∨ c = TO ∨ c = i1 ∨ c = i2 := by simpa using hc
  rcases e' with q | q | q | q | q
  · rw [q]; exact ⟨_, hz, fun v q => nomatch q⟩
  · rw [q]; exact ⟨_, hTI, fun v q => nomatch q⟩
  · rw [q]; exact ⟨_, hTO, fun v q => nomatch q⟩
  · rw [q]; exact isIt_obj h1
  · rw [q]; exact isIt_obj h2
theorem znT_keep (st : znT z TI TO i1 i2 a b k1 k2 i h) (k : ∀ b ∈ [z, TI, TO, i1, i2], ∀ o, h.get? b = some o → h'.get? b = some o) : znT z TI TO i1 i2 a b k1 k2 i h' := by
  obtain ⟨hz, hTI, ⟨x, y, hTO⟩, h1, h2⟩ := st
  exact ⟨k z (by simp) _ hz, k TI (by simp) _ hTI, ⟨x, y, k TO (by simp) _ hTO⟩, isIt_at h1 fun o q => k i1 (by simp) o q, isIt_at h2 fun o q => k i2 (by simp) o q⟩
end
section
variable {X : Cx} {pins : List (Addr × Obj)} {σ : L2.St} {H : Hp} {s : Shared} {z TI TO i1 i2 a b : Addr} {k1 k2 : Bool} {i : Nat} {elts : List Expr} {kk : Nat} {tpos : Pos} {fp1 fp2 : List Addr} {xs ys : List V} {its its2 : List Value} {St1 St2 : Nat → Heap → Prop} {E : Value → Shared → Prop}
/-- a turn of zip, by what its iterators draw -/
theorem zip_item (I : Inv X pins σ H s) (hf : ∀ c ∈ [z, TI, TO, i1, i2], FpOk X pins H c) (S : ZipSep2 z TI TO i1 i2 fp1 fp2) (D1 : Draws X.prog X.w X.A.in1 i1 fp1 its.toArray.size (fun i v => its.toArray[i]? = some v) St1)
    (D2 : Draws X.prog X.w X.A.in1 i2 fp2 its2.toArray.size (fun i v => its2.toArray[i]? = some v) St2) (w1 : ∀ i h, St1 i h → IsItH k1 h i1 a i) (w2 : ∀ i h, St2 i h → IsItH k2 h i2 b i) (st : znT z TI TO i1 i2 a b k1 k2 i s.heap) (s1 : St1 i s.heap) (s2 : St2 i s.heap)
    (q1 : SqV X.K k1 H a xs) (q2 : SqV X.K k2 H b ys) (r1 : Vals xs its) (r2 : Vals ys its2) (h1 : i < its.length) (h2 : i < its2.length) :
    wpAny (model X.prog X.w) X.A (pyNext (.ref z)) (fun r s1 => ∃ u, r = some u ∧
      wpAny (model X.prog X.w) X.A (letOwnedTupleGo (.Tuple elts kk tpos) (.ref z) u) (fun _ s2 => ∃ x H', Inv X pins σ H' s2 ∧ RelV x u ∧ (ItzG X.K k1 k2 a b).yld i H x H' ∧ znT z TI TO i1 i2 a b k1 k2 (i + 1) s2.heap ∧ ∀ b ∈ [z, TI, TO, i1, i2], H' b = none) E s1) E s := by
  have W := GoesN.zip2 (elts := elts) (x1 := kk) (pos := tpos) (A := X.A) S D1 D2
  obtain ⟨z0, TI0, TO0, _, _⟩ := id st
  refine W.goes i s _ E (by simp; omega) ⟨z0, TI0, TO0, s1, s2⟩ fun v h' tk hY st' hk htk => ?_
  obtain ⟨T, u, u2, ev, hT, p1, p2, hTT⟩ := hY
  obtain ⟨z1, TI1, TO1, s1', s2'⟩ := st'
  have e1 : its[i]? = some u := by simpa using p1
  have e2 : its2[i]? = some u2 := by simpa using p2
  obtain ⟨x, hx, rx⟩ : ∃ x, xs[i]? = some x ∧ RelV x u := by
    have hl := r1.length
    have hxi : xs[i]? = some xs[i] := List.getElem?_eq_getElem (by omega)
    obtain ⟨u', hu', ru⟩ := r1.get hxi
    rw [e1] at hu'
    cases hu'
    exact ⟨_, hxi, ru⟩
  obtain ⟨y, hy, ry⟩ : ∃ x, ys[i]? = some x ∧ RelV x u2 := by
    have hl := r2.length
    have hxi : ys[i]? = some ys[i] := List.getElem?_eq_getElem (by omega)
    obtain ⟨u', hu', ru⟩ := r2.get hxi
    rw [e2] at hu'
    cases hu'
    exact ⟨_, hxi, ru⟩
  have new : ObjOk X.prog X.w (upd H T (.tup [x, y])) h' T (.tup [x, y]) := ⟨by show 2 ≤ sizeLine; decide, [u, u2], .cons rx (.cons ry .nil), hTT⟩
  have I1 : Inv X pins σ (upd H T (.tup [x, y])) { s with heap := h', toks := tk } := I.turnedNew (ch := [z, TO, i1, i2]) hk (fun c hc => hf c (by simp at hc ⊢; rcases hc with e | e | e | e <;> simp [e])) hT new
  refine ⟨.ref T, _, I1, ev ▸ rfl, ⟨T, x, y, rfl, I.hok.fresh hT, rfl, fun l hl => by rw [sq_inj I hl q1]; exact hx, fun l hl => by rw [sq_inj I hl q2]; exact hy⟩, ⟨z1, TI1, TO1, w1 _ _ s1', w2 _ _ s2'⟩, fun c hc => ?_⟩
  obtain ⟨o, eo, _⟩ := znT_obj st c hc
  rw [upd_ne (Nat.ne_of_lt (Nat.lt_of_lt_of_le (Heap.lt_size eo) hT))]
  exact (hf c hc).1
theorem zip_done (I : Inv X pins σ H s) (hf : ∀ c ∈ [z, TI, TO, i1, i2], FpOk X pins H c) (S : ZipSep2 z TI TO i1 i2 fp1 fp2) (D1 : Draws X.prog X.w X.A.in1 i1 fp1 its.toArray.size (fun i v => its.toArray[i]? = some v) St1)
    (D2 : Draws X.prog X.w X.A.in1 i2 fp2 its2.toArray.size (fun i v => its2.toArray[i]? = some v) St2) (st : znT z TI TO i1 i2 a b k1 k2 i s.heap) (s1 : St1 i s.heap) (s2 : St2 i s.heap) (hi : i = min its.length its2.length) :
    wpAny (model X.prog X.w) X.A (pyNext (.ref z)) (fun r s1 => r = none ∧ Inv X pins σ H s1) E s := by
  have W := GoesN.zip2 (elts := []) (x1 := 0) (pos := ⟨0, 0, 0, 0⟩) (A := X.A) S D1 D2
  obtain ⟨z0, TI0, TO0, _, _⟩ := id st
  have en : min its.toArray.size its2.toArray.size = i := by rw [hi]; simp
  refine W.stops s (fun s1 => Inv X pins σ H s1) E (by rw [en]; exact ⟨z0, TI0, TO0, s1, s2⟩) fun h' tk hk htk => ?_
  exact I.turnedL (t' := tk) (ch := [z, TO, i1, i2]) hk fun c hc => hf c (by simp at hc ⊢; rcases hc with e | e | e | e <;> simp [e])
/-- apart -/
def ZApart (z TI TO i1 i2 a b : Addr) : Prop := ZipSep2 z TI TO i1 i2 [i1, a] [i2, b] ∧ a ≠ i1 ∧ b ≠ i2
theorem turn_zipG {P : Program} {w : World} {K : PySem.W.Frag} (Z : ZApart z TI TO i1 i2 a b) : Turn P w K (.Tuple elts kk tpos) (ItzG K k1 k2 a b) [z, TI, TO, i1, i2] z (znT z TI TO i1 i2 a b k1 k2) where
  mem := by simp
  obj := fun i h st c hc => znT_obj st c hc
  keep := fun i h h' st k => znT_keep st k
  item := by
    intro X hP hw hK hc i pins s σ H E I hf st hg
    subst hP hw hK
    obtain ⟨xs, ys, x, y, q1, q2, hx, hy⟩ := hg
    obtain ⟨its, r1, p1, _, l1⟩ := inv_sq I q1
    obtain ⟨its2, r2, p2, _, l2⟩ := inv_sq I q2
    have g1 : i < xs.length := (List.getElem?_eq_some_iff.mp hx).1
    have g2 : i < ys.length := (List.getElem?_eq_some_iff.mp hy).1
    exact zip_item I hf Z.1 (draws_sq (A := X.A.in1) (I.ok.hd hc) k1 i1 a Z.2.1 its.toArray) (draws_sq (A := X.A.in1) (I.ok.hd hc) k2 i2 b Z.2.2 its2.toArray) (fun _ _ q => q.1) (fun _ _ q => q.1) st ⟨st.2.2.2.1, p1⟩ ⟨st.2.2.2.2, p2⟩ q1 q2 r1 r2 (by omega) (by omega)
  done := by
    intro X hP hw hK hc i pins s σ H E I hf st hg
    subst hP hw hK
    obtain ⟨xs, ys, q1, q2, hi⟩ := hg
    obtain ⟨its, r1, p1, _, l1⟩ := inv_sq I q1
    obtain ⟨its2, r2, p2, _, l2⟩ := inv_sq I q2
    exact zip_done I hf Z.1 (draws_sq (A := X.A.in1) (I.ok.hd hc) k1 i1 a Z.2.1 its.toArray) (draws_sq (A := X.A.in1) (I.ok.hd hc) k2 i2 b Z.2.2 its2.toArray) st ⟨st.2.2.2.1, p1⟩ ⟨st.2.2.2.2, p2⟩ (by omega)
  self := fun A i s Q E st h => wpAny_pyIter_zip st.1 h
end
/-- the iterator of zip(a, b), new -/
theorem zip_new {X : Cx} {pins : List (Addr × Obj)} {σ : L2.St} {H : Hp} {s : Shared} {a b : Addr} {k1 k2 : Bool} {xs ys : List V} {Q : Value → Shared → Prop} {E : Value → Shared → Prop} (I : Inv X pins σ H s) (q1 : SqV X.K k1 H a xs) (q2 : SqV X.K k2 H b ys)
    (h : ∀ z TI TO i1 i2 s', Inv X pins σ H s' → znT z TI TO i1 i2 a b k1 k2 0 s'.heap → ZApart z TI TO i1 i2 a b → (∀ c ∈ [z, TI, TO, i1, i2], FpOk X pins H c) → a ∉ [z, TI, TO, i1, i2] → b ∉ [z, TI, TO, i1, i2] → (∀ c, c < s.heap.objs.size → c ∉ [z, TI, TO, i1, i2]) → Q (.ref z) s') :
    wpAny (model X.prog X.w) X.A (call (.type "zip") [.ref a, .ref b]) Q E s := by
  obtain ⟨its, r1, p1, g1, l1⟩ := inv_sq I q1
  obtain ⟨its2, r2, p2, g2, l2⟩ := inv_sq I q2
  refine zip_begins2 (begins_sq k1 a its.toArray) (begins_sq k2 b its2.toArray) p1 p2 fun h' hz hTI hTO h1 h2 hsz hk => ?_
  have hlow : ∀ c, c < s.heap.objs.size → c ∉ [s.heap.objs.size + 4, s.heap.objs.size + 2, s.heap.objs.size + 3, s.heap.objs.size, s.heap.objs.size + 1] := fun c hc hm => by
    have e' : c = s.heap.objs.size + 4 ∨ c = s.heap.objs.size + 2 ∨ c = s.heap.objs.size + 3 ∨ c = s.heap.objs.size ∨ c = s.heap.objs.size + 1 := by simpa using hm
    have hn : (c : Nat) < s.heap.objs.size := hc
    rcases e' with z | z | z | z | z <;> (have z' : (c : Nat) = _ := z; omega)
  refine h _ _ _ _ _ _ (I.kept (t' := s.toks) hk) ⟨hz, hTI, ⟨_, _, hTO⟩, itObj_is h1, itObj_is h2⟩ ⟨zip_sep2 (fp1 := [a]) (fp2 := [b]) (fun c hc => by rw [List.mem_singleton.mp hc]; exact g1) (fun c hc => by rw [List.mem_singleton.mp hc]; exact g2), Nat.ne_of_lt g1, Nat.ne_of_lt (Nat.lt_succ_of_lt g2)⟩ (fun c hcm => ?_) (hlow a g1) (hlow b g2) hlow
  have e' : c = s.heap.objs.size + 4 ∨ c = s.heap.objs.size + 2 ∨ c = s.heap.objs.size + 3 ∨ c = s.heap.objs.size ∨ c = s.heap.objs.size + 1 := by simpa using hcm
  have hle : s.heap.objs.size ≤ c := by
    rcases e' with z | z | z | z | z
    · rw [z]; exact Nat.le_add_right _ _
    · rw [z]; exact Nat.le_add_right _ _
    · rw [z]; exact Nat.le_add_right _ _
    · rw [z]; exact Nat.le_refl _
    · rw [z]; exact Nat.le_add_right _ _
  exact I.fpOk hle (I.hok.fresh hle)
def iZipG (K : PySem.W.Frag) (ta : TA) : TI := fun σ H R => ta σ H fun vs H1 => ∃ a b k1 k2 xs ys, vs = [.ref a, .ref b] ∧ SqV K k1 H1 a xs ∧ SqV K k2 H1 b ys ∧ R (ItzG K k1 k2 a b) H1
theorem pi_zipG {X : Cx} {e e2 : Expr} {ta : TA} {p pos tpos : Pos} {elts : List Expr} {kk : Nat} (hg : Gl X "zip") (hm : X.mg "zip" = none) (ha : PA X [e, e2] ta)
    (hs : starEach [e, e2] X.env = (false, eval e X.env) :: starEach [e2] X.env := by rfl) (hpl : (backTo pos (starEach [e2] X.env)).any (·.1) = false := by rfl) :
    PI X (.Tuple elts kk tpos) (.Call (.Name "zip" p) [e, e2] [] pos) (iZipG X.K ta) := by
  refine ⟨fun pins s σ H R I h => ?_⟩
  refine Call_ (ld_blt I hg hm PyProof.Rows.boot_zip (PyProof.Rows.callWith_type1 (thn (ha.run pos pins s σ H _ I h) fun us s1 ⟨vs, H1, I1, r1, q1⟩ => ?_) hs hpl))
  obtain ⟨a, b, k1, k2, xs, ys, ex, h1, h2, q⟩ := q1
  subst ex
  cases r1 with
  | cons r rr =>
    cases rr with
    | cons r' rr =>
      cases rr
      cases r
      cases r'
      exact zip_new I1 h1 h2 fun z TI TO i1 i2 s' I' st Z fp _ _ _ => wpAny_pyIter_zip st.1 ⟨z, _, _, _, H1, rfl, I', turn_zipG Z, st, fp, q⟩
/-- the data -/
def zipL : List D → List D → List D
  | x :: xs, y :: ys => .tup [x, y] :: zipL xs ys
  | _, _ => []
theorem zipL_len : ∀ xs ys : List D, (zipL xs ys).length = min xs.length ys.length
  | [], ys => by simp [zipL]
  | x :: xs, [] => by simp [zipL]
  | x :: xs, y :: ys => by simp [zipL, zipL_len xs ys]
theorem zipL_get : ∀ {xs ys : List D} {i : Nat} {d : D}, (zipL xs ys)[i]? = some d → ∃ x y, xs[i]? = some x ∧ ys[i]? = some y ∧ d = .tup [x, y]
  | [], ys, i, d, h => by simp [zipL] at h
  | x :: xs, [], i, d, h => by simp [zipL] at h
  | x :: xs, y :: ys, 0, d, h => by
    simp [zipL] at h
    exact ⟨x, y, rfl, rfl, h.symm⟩
  | x :: xs, y :: ys, i + 1, d, h => by
    obtain ⟨u, v, h1, h2, h3⟩ := zipL_get (i := i) (by simpa [zipL] using h)
    exact ⟨u, v, by simpa using h1, by simpa using h2, h3⟩
def zip2D (x y : D) : M (List D) := itemsD x >>= fun xs => itemsD y >>= fun ys => M.pure (zipL xs ys)
def zipD : List D → M (List D)
  | [x, y] => zip2D x y
  | _ => M.bad
def iZip (Fs : SA) : SA := fun env => Fs env >>= zipD
theorem rep_sq {K : PySem.W.Frag} {r : Rho} {v : V} {d : D} {ds : List D} {st st' : Sto} (p : Rep K r v d) (e : itemsD d st = .ok ds st') : st' = st ∧ ∃ a k xs, v = .ref a ∧ SqV K k r.fl a xs ∧ Reps K r xs ds := by
  cases d with
  | lst es =>
    obtain ⟨a, xs, rfl, h1, h2⟩ := p.l
    have e' : Out.ok es st = .ok ds st' := e
    injection e' with e1 e2
    subst e1 e2
    exact ⟨rfl, a, true, xs, rfl, h1, h2⟩
  | tup es =>
    obtain ⟨a, xs, rfl, h1, h2⟩ := p.t
    have e' : Out.ok es st = .ok ds st' := e
    injection e' with e1 e2
    subst e1 e2
    exact ⟨rfl, a, false, xs, rfl, h1, h2⟩
  | _ => cases e
theorem itok_zip {K : PySem.W.Frag} {T : List (Addr × Str)} {r : Rho} {a b : Addr} {k1 k2 : Bool} {xs ys : List V} {ds es : List D} (h1 : SqV K k1 r.fl a xs) (h2 : SqV K k2 r.fl b ys) (p1 : Reps K r xs ds) (p2 : Reps K r ys es) : ItOk K T r (ItzG K k1 k2 a b) (zipL ds es) := fun r2 H2 st2 i hf ha S => by
  have g1 : SqV K k1 H2 a xs := sq_mono S.low (sq_mono hf h1)
  have g2 : SqV K k2 H2 b ys := sq_mono S.low (sq_mono hf h2)
  refine ⟨fun d hd => ?_, fun hl => ⟨xs, ys, g1, g2, by rw [p1.length, p2.length, ← zipL_len]; exact hl⟩⟩
  obtain ⟨x, y, e1, e2, rfl⟩ := zipL_get hd
  obtain ⟨v, v1, v2⟩ := p1.get e1
  obtain ⟨w, w1, w2⟩ := p2.get e2
  refine ⟨⟨xs, ys, v, w, g1, g2, v1, w1⟩, fun x H3 y => ?_⟩
  obtain ⟨T', x', y', rfl, hT, rfl, f1, f2⟩ := y
  have ex : x' = v := Option.some.inj ((f1 xs g1).symm.trans v1)
  have ey : y' = w := Option.some.inj ((f2 ys g2).symm.trans w1)
  subst ex ey
  have hl := S.fresh_fl hT
  refine ⟨r2.add T' (.tup [x', y']), Rho.add_le hl, S.add hT (by intro ps z; cases z), .tup (.inl (.inl ?_)) (Reps.mono (Rho.add_le hl) (.cons (v2.up hf ha) (.cons (w2.up hf ha) .nil)))⟩
  show upd r2.fl T' (.tup [x', y']) T' = _
  rw [upd_same]
/-! ### enumerate -/
def IteG (K : PySem.W.Frag) (k : Bool) (a : Addr) : It :=
  ⟨fun i H => ∃ (xs : List V) (x : V), SqV K k H a xs ∧ xs[i]? = some x, fun i H v H' => ∃ T x, v = .ref T ∧ H T = none ∧ H' = upd H T (.tup [.int (i : Nat), x]) ∧ ∀ xs, SqV K k H a xs → xs[i]? = some x, fun i H => ∃ xs : List V, SqV K k H a xs ∧ i = xs.length⟩
def enT (e it a : Addr) (k : Bool) (i : Nat) (h : Heap) : Prop := (∃ old, IsEnum h e it ((0 : Int) + (i : Int)) old) ∧ IsItH k h it a i
theorem turn_enumG {P : Program} {w : World} {K : PySem.W.Frag} {k : Bool} {elts : List Expr} {kk : Nat} {tpos : Pos} {a e it : Addr} (h1 : e ≠ it) (h2 : e ≠ a) (h3 : a ≠ it) : Turn P w K (.Tuple elts kk tpos) (IteG K k a) [e, it] e (enT e it a k) where
  mem := by simp
  obj := fun i h st b hb => by
    obtain ⟨⟨old, he⟩, hi⟩ := st
    have e' : b = e ∨ b = it := by simpa using hb
    rcases e' with z | z
    · rw [z]; exact ⟨_, he, fun v q => nomatch q⟩
    · rw [z]; exact isIt_obj hi
  keep := fun i h h' st k => let ⟨⟨old, he⟩, hi⟩ := st; ⟨⟨old, k e (by simp) _ he⟩, isIt_at hi fun o q => k it (by simp) o q⟩
  item := by
    intro X hP hw hK hc i pins s σ H E I hf st hg
    subst hP hw hK
    obtain ⟨xs, x, q1, hx⟩ := hg
    obtain ⟨its, r1, p1, _, l1⟩ := inv_sq I q1
    obtain ⟨u, hu, ru⟩ := r1.get hx
    have g1 : i < xs.length := (List.getElem?_eq_some_iff.mp hx).1
    have W := GoesN.enumFrom (elts := elts) (x1 := kk) (pos := tpos) (A := X.A) 0 (draws_sq (prog := X.prog) (w := X.w) (A := X.A.in1) (I.ok.hd hc) k it a h3 its.toArray) e h1 (by simp [h1, h2]) (by simp)
    have hel : ∀ b ∈ [e, it], b < s.heap.objs.size := fun b hb => by
      obtain ⟨⟨old, he⟩, hi⟩ := st
      have e' : b = e ∨ b = it := by simpa using hb
      rcases e' with z | z
      · rw [z]; exact Heap.lt_size he
      · rw [z]; obtain ⟨o, q, _⟩ := isIt_obj hi; exact Heap.lt_size q
    refine W.goes i s _ E (by simp; omega) ⟨st.1, st.2, p1⟩ fun v h' tk hY st' hk htk => ?_
    obtain ⟨T, t, u', ev, hT, hu', hTT⟩ := hY
    have eu : its[i]? = some u' := by simpa using hu'
    rw [hu] at eu
    cases eu
    have new : ObjOk X.prog X.w (upd H T (.tup [.int (i : Nat), x])) h' T (.tup [.int (i : Nat), x]) := ⟨by show 2 ≤ sizeLine; decide, [.int (0 + (i : Int)) t, u], .cons ⟨t, by rw [Int.zero_add]⟩ (.cons ru .nil), hTT⟩
    have I1 : Inv X pins σ (upd H T (.tup [.int (i : Nat), x])) { s with heap := h', toks := tk } := I.turnedNew (ch := [e, it]) hk hf hT new
    refine ⟨.ref T, _, I1, ev ▸ rfl, ⟨T, x, rfl, I.hok.fresh hT, rfl, fun l hl => by rw [sq_inj I hl q1]; exact hx⟩, ⟨st'.1, st'.2.1⟩, fun c hc => ?_⟩
    rw [upd_ne (Nat.ne_of_lt (Nat.lt_of_lt_of_le (hel c hc) hT))]
    exact (hf c hc).1
  done := by
    intro X hP hw hK hc i pins s σ H E I hf st hg
    subst hP hw hK
    obtain ⟨xs, q1, hi⟩ := hg
    obtain ⟨its, r1, p1, _, l1⟩ := inv_sq I q1
    have W := GoesN.enumFrom (elts := elts) (x1 := kk) (pos := tpos) (A := X.A) 0 (draws_sq (prog := X.prog) (w := X.w) (A := X.A.in1) (I.ok.hd hc) k it a h3 its.toArray) e h1 (by simp [h1, h2]) (by simp)
    have en : its.toArray.size = i := by rw [hi, l1]; simp
    refine W.stops s (fun s1 => Inv X pins σ H s1) E (by rw [en]; exact ⟨st.1, st.2, p1⟩) fun h' tk hk htk => ?_
    exact I.turnedL (t' := tk) (ch := [e, it]) hk hf
  self := fun A i s Q E st h => let ⟨⟨_, he⟩, _⟩ := st; wpAny_pyIter_enum he h
end Dt
namespace Dt
open PySem PySem.Spec PyProof.Rows L2
open PySem.Sem (wp)
set_option maxHeartbeats 1000000 in
theorem meets_enum1 {v : Value} {o : Obj} {H : Heap → Prop} (B : Begins v o H) :
    Meets (Builtin.«enumerate.__new__» ⟨[.type "enumerate", v], []⟩) (fun _ R s => H s.heap ∧
      R (.ok (.ret (.ref (s.heap.push o).objs.size))) { s with heap := (s.heap.push o).push { cls := .type "enumerate", data := .fields #[.none, .bool false, .ref s.heap.objs.size, rawInt 0, .none, .none] } }) :=
  .of_wp fun prog w A R s h => by
    obtain ⟨hp, g, d, tk, os⟩ := s; obtain ⟨h1, h⟩ := h
    have hsub := sub_enumerate
    have q1 : ∀ {A' : Around} {E : Value → Shared → Prop} {Q : Value → Shared → Prop}, Q (.ref hp.objs.size) ⟨hp.push o, g, d, tk, os⟩ → wpAny (model prog w) A' (pyIter v) Q E ⟨hp, g, d, tk, os⟩ :=
      fun q => B.iter prog w _ _ ⟨hp, g, d, tk, os⟩ _ h1 q
    wp_walk using q1
    refine wpAny_stack_any fun st => wpAny_pure ?_
    split
    · rename_i c _ _ _ _ _
      cases (c == Value.type "enumerate")
      · wp_walk using q1
        exact ⟨_, rfl, h⟩
      · wp_walk using q1
        exact ⟨_, rfl, h⟩
    · wp_walk using q1
      exact ⟨_, rfl, h⟩
theorem enum1_begins {prog : Program} {w : World} {A : Around} {E : Value → Shared → Prop} {s : Shared} {v : Value} {o : Obj} {H : Heap → Prop} {Q : Value → Shared → Prop} (B : Begins v o H) (h1 : H s.heap)
    (h : ∀ h', IsEnum h' (s.heap.objs.size + 1) s.heap.objs.size 0 .none → h'.get? s.heap.objs.size = some o → h'.objs.size = s.heap.objs.size + 2 →
      (∀ b o, s.heap.get? b = some o → h'.get? b = some o) → Q (.ref (s.heap.objs.size + 1)) { s with heap := h' }) :
    wpAny (model prog w) A (call (.type "enumerate") [v]) Q E s := by
  refine callType_new F.called_enumerate (by decide) (F.typeCall_enumerate_1 _) (F.newCall_enumerate_1 _) (fun obj => F.args_object_init_2 obj _) F.entry_enumerate_new
    (meets_enum1 B) ⟨h1, ?_⟩
  have hz : (s.heap.push o).objs.size = s.heap.objs.size + 1 := Heap.size_push ..
  show _ ∧ _
  rw [hz]
  have he : IsEnum ((s.heap.push o).push { cls := .type "enumerate", data := .fields #[.none, .bool false, .ref s.heap.objs.size, rawInt 0, .none, .none] }) (s.heap.objs.size + 1) s.heap.objs.size 0 .none := by
    have := Heap.get?_push_size (s.heap.push o) (o := { cls := .type "enumerate", data := .fields #[.none, .bool false, .ref s.heap.objs.size, rawInt 0, .none, .none] }) rfl
    rw [hz] at this; exact this
  refine ⟨⟨_, he, rfl⟩, h _ he (Heap.get?_push_of_some _ (Heap.get?_push_size _ B.free)) (by rw [Heap.size_push, hz]) fun b o x => Heap.get?_push_of_some _ (Heap.get?_push_of_some _ x)⟩
def iEnumG (K : PySem.W.Frag) (ta : TA) : TI := fun σ H R => ta σ H fun vs H1 => ∃ a k xs, vs = [.ref a] ∧ SqV K k H1 a xs ∧ R (IteG K k a) H1
theorem pi_enumG {X : Cx} {e : Expr} {ta : TA} {p pos tpos : Pos} {elts : List Expr} {kk : Nat} (hg : Gl X "enumerate") (hm : X.mg "enumerate" = none) (ha : PA X [e] ta) (hs : starEach [e] X.env = [(false, eval e X.env)] := by rfl) :
    PI X (.Tuple elts kk tpos) (.Call (.Name "enumerate" p) [e] [] pos) (iEnumG X.K ta) := by
  refine ⟨fun pins s σ H R I h => ?_⟩
  refine Call_ (ld_blt I hg hm boot_enumerate (PyProof.Rows.callWith_type1 (thn (ha.run pos pins s σ H _ I h) fun us s1 ⟨vs, H1, I1, r1, q1⟩ => ?_) hs rfl))
  obtain ⟨a, k, xs, ex, hq, q⟩ := q1
  subst ex
  cases r1 with
  | cons r rr =>
    cases rr
    cases r
    obtain ⟨its, rv, p', g1, _⟩ := inv_sq I1 hq
    refine enum1_begins (begins_sq k a its.toArray) p' fun h' he hit hsz hk => wpAny_pyIter_enum he ?_
    have I2 : Inv X pins σ H1 { s1 with heap := h' } := I1.kept (t' := s1.toks) hk
    refine ⟨s1.heap.objs.size + 1, [s1.heap.objs.size + 1, s1.heap.objs.size], _, _, H1, rfl, I2, turn_enumG (Nat.succ_ne_self _) (Nat.ne_of_gt (Nat.lt_succ_of_lt g1)) (Nat.ne_of_lt g1), ⟨⟨.none, he⟩, itObj_is hit⟩, fun b hb => ?_, q⟩
    have e' : b = s1.heap.objs.size + 1 ∨ b = s1.heap.objs.size := by simpa using hb
    have hle : s1.heap.objs.size ≤ b := by
      rcases e' with z | z
      · rw [z]; exact Nat.le_add_right _ _
      · rw [z]; exact Nat.le_refl _
    exact I1.fpOk hle (I1.hok.fresh hle)
def enumL : Nat → List D → List D
  | _, [] => []
  | n, d :: ds => .tup [.int (n : Nat), d] :: enumL (n + 1) ds
theorem enumL_len : ∀ (n : Nat) (ds : List D), (enumL n ds).length = ds.length
  | _, [] => rfl
  | n, d :: ds => congrArg Nat.succ (enumL_len (n + 1) ds)
theorem enumL_get : ∀ {n : Nat} {ds : List D} {i : Nat} {d : D}, (enumL n ds)[i]? = some d → ∃ x, ds[i]? = some x ∧ d = .tup [.int ((n + i : Nat) : Int), x]
  | _, [], i, d, h => by simp [enumL] at h
  | n, x :: ds, 0, d, h => by
    simp [enumL] at h
    exact ⟨x, rfl, by rw [← h]; rfl⟩
  | n, x :: ds, i + 1, d, h => by
    obtain ⟨u, h1, h2⟩ := enumL_get (n := n + 1) (i := i) (by simpa [enumL] using h)
    exact ⟨u, by simpa using h1, by rw [h2, show n + 1 + i = n + (i + 1) by omega]⟩
def enumD : List D → M (List D)
  | [x] => itemsD x >>= fun xs => M.pure (enumL 0 xs)
  | _ => M.bad
def iEnum (Fs : SA) : SA := fun env => Fs env >>= enumD
theorem itok_enum {K : PySem.W.Frag} {T : List (Addr × Str)} {r : Rho} {a : Addr} {k : Bool} {xs : List V} {ds : List D} (h1 : SqV K k r.fl a xs) (p1 : Reps K r xs ds) : ItOk K T r (IteG K k a) (enumL 0 ds) := fun r2 H2 st2 i hf ha S => by
  have g1 : SqV K k H2 a xs := sq_mono S.low (sq_mono hf h1)
  refine ⟨fun d hd => ?_, fun hl => ⟨xs, g1, by rw [p1.length, ← enumL_len 0]; exact hl⟩⟩
  obtain ⟨x, e1, rfl⟩ := enumL_get hd
  obtain ⟨v, v1, v2⟩ := p1.get e1
  refine ⟨⟨xs, v, g1, v1⟩, fun x H3 y => ?_⟩
  obtain ⟨T', x', rfl, hT, rfl, f1⟩ := y
  have ex : x' = v := Option.some.inj ((f1 xs g1).symm.trans v1)
  subst ex
  have hl := S.fresh_fl hT
  rw [Nat.zero_add]
  refine ⟨r2.add T' (.tup [.int (i : Nat), x']), Rho.add_le hl, S.add hT (by intro ps z; cases z), .tup (.inl (.inl ?_)) (Reps.mono (Rho.add_le hl) (.cons (.int _) (.cons (v2.up hf ha) .nil)))⟩
  show upd r2.fl T' (.tup [.int (i : Nat), x']) T' = _
  rw [upd_same]
section
variable {X : Cx} {T : List (Addr × Str)} {mg : Str → Option Value} {E : XK} {a c : Expr} {F : SE} {Fs : SA} {p pos tpos : Pos} {elts : List Expr} {kk : Nat}
theorem di_zip (hg : Gl X "zip") (hm : X.mg "zip" = none) (ha : DA X T mg E [a, c] Fs) (hs : starEach [a, c] X.env = (false, eval a X.env) :: starEach [c] X.env := by rfl) (hpl : (backTo pos (starEach [c] X.env)).any (·.1) = false := by rfl) :
    PI X (.Tuple elts kk tpos) (.Call (.Name "zip" p) [a, c] [] pos) (rdI X.K T mg E (iZip Fs)) :=
  piI (pi_zipG hg hm ha.pa hs hpl) fun σ H R h => rd.bind (G := fun xs _ => zipD xs) h fun b r env st xs vs H1 Rl p q => by
    rcases xs with _ | ⟨d, _ | ⟨d2, _ | ⟨d3, x⟩⟩⟩
    · exact q.elim
    · exact q.elim
    · obtain ⟨v, w, rfl, p1, p2⟩ := p.i2
      have q' : Aft (fun r J ds => ItOk X.K T r J ds) X.K T mg E r ((itemsD d >>= fun xs => itemsD d2 >>= fun ys => M.pure (zipL xs ys)) st) R := q
      rw [bind_def] at q'
      cases e1 : itemsD d st with
      | exc _ _ => cases d <;> cases e1
      | bad => rw [e1] at q'; exact q'.elim
      | ok xs st1 =>
        rw [e1] at q'
        obtain ⟨rfl, a1, k1, xs1, rfl, g1, r1⟩ := rep_sq p1 e1
        have q2 : Aft (fun r J ds => ItOk X.K T r J ds) X.K T mg E r ((itemsD d2 >>= fun ys => M.pure (zipL xs ys)) st1) R := q'
        rw [bind_def] at q2
        cases e2 : itemsD d2 st1 with
        | exc _ _ => cases d2 <;> cases e2
        | bad => rw [e2] at q2; exact q2.elim
        | ok ys st2 =>
          rw [e2] at q2
          obtain ⟨rfl, a2, k2, xs2, rfl, g2, r2⟩ := rep_sq p2 e2
          exact ⟨a1, a2, k1, k2, xs1, xs2, rfl, sq_mono Rl.s.low g1, sq_mono Rl.s.low g2, q2 _ H1 r (.refl r) Rl.s (itok_zip g1 g2 r1 r2)⟩
    · exact q.elim
theorem di_enum (hg : Gl X "enumerate") (hm : X.mg "enumerate" = none) (ha : DA X T mg E [a] Fs) (hs : starEach [a] X.env = [(false, eval a X.env)] := by rfl) :
    PI X (.Tuple elts kk tpos) (.Call (.Name "enumerate" p) [a] [] pos) (rdI X.K T mg E (iEnum Fs)) :=
  piI (pi_enumG hg hm ha.pa hs) fun σ H R h => rd.bind (G := fun xs _ => enumD xs) h fun b r env st xs vs H1 Rl p q => by
    rcases xs with _ | ⟨d, _ | ⟨d2, x⟩⟩
    · exact q.elim
    · obtain ⟨v, rfl, p1⟩ := p.i1
      have q' : Aft (fun r J ds => ItOk X.K T r J ds) X.K T mg E r ((itemsD d >>= fun xs => M.pure (enumL 0 xs)) st) R := q
      rw [bind_def] at q'
      cases e1 : itemsD d st with
      | exc _ _ => cases d <;> cases e1
      | bad => rw [e1] at q'; exact q'.elim
      | ok xs st1 =>
        rw [e1] at q'
        obtain ⟨rfl, a1, k1, xs1, rfl, g1, r1⟩ := rep_sq p1 e1
        exact ⟨a1, k1, xs1, rfl, sq_mono Rl.s.low g1, q' _ H1 r (.refl r) Rl.s (itok_enum g1 r1)⟩
    · exact q.elim
end
end Dt

set_option maxHeartbeats 4000000
namespace Dt
open PySem PySem.Spec PyProof.Rows L2
/-! ### a def by its body -/
def startE (m : Nat) (ds : List D) : Env := ds.map Sl.va ++ List.replicate (m - ds.length) Sl.no
def endD : Ctl × Env → M D
  | (.nx, _) => M.pure .non
  | (.rt d, _) => M.pure d
  | _ => M.bad
def runD (m : Nat) (F : SS) (ds : List D) : M D := F (startE m ds) >>= endD
section
variable {K : PySem.W.Frag} {T : List (Addr × Str)} {mg : Str → Option Value} {E : XK} {r : Rho} {H : Hp} {st : Sto}
theorem start_rel {N : List Str} {vs : List V} {ds : List D} (S : RelS K T r H st) (p : Reps K r vs ds) (hl : ds.length ≤ N.length) : Rel K T r.fr r (L2.start N vs) H (startE N.length ds) st := by
  have hv := p.length
  refine ⟨S, fun _ _ h => h, ?_, fun i d e => ?_, fun i es e => ?_, fun i j es es' a e _ _ _ => ?_⟩
  · unfold L2.start startE
    simp [hv]
  · unfold startE at e
    by_cases hi : i < ds.length
    · rw [List.getElem?_append_left (by simpa using hi), List.getElem?_map] at e
      cases e2 : ds[i]? with
      | none =>
        rw [e2] at e
        cases e
      | some d' =>
        rw [e2] at e
        have e3 : Sl.va d' = Sl.va d := Option.some.inj e
        injection e3 with e3
        subst e3
        obtain ⟨v, h1, h2⟩ := p.get e2
        refine ⟨v, ?_, h2⟩
        unfold L2.start
        rw [List.getElem?_append_left (by simp; omega), List.getElem?_map, h1]
        rfl
    · rw [List.getElem?_append_right (by simpa using hi), List.getElem?_replicate] at e
      split at e <;> cases e
  · unfold startE at e
    by_cases hi : i < ds.length
    · rw [List.getElem?_append_left (by simpa using hi), List.getElem?_map] at e
      cases e2 : ds[i]? <;> rw [e2] at e <;> cases e
    · rw [List.getElem?_append_right (by simpa using hi), List.getElem?_replicate] at e
      split at e <;> cases e
  · unfold startE at e
    by_cases hi : i < ds.length
    · rw [List.getElem?_append_left (by simpa using hi), List.getElem?_map] at e
      cases e2 : ds[i]? <;> rw [e2] at e <;> cases e
    · rw [List.getElem?_append_right (by simpa using hi), List.getElem?_replicate] at e
      split at e <;> cases e
theorem run_read {N : List Str} {vs : List V} {ds : List D} {F : SS} {Q : VK} (S : RelS K T r H st) (p : Reps K r vs ds) (hl : ds.length ≤ N.length) (h : Aft (Rep K) K T mg E r (runD N.length F ds st) Q) :
    rdS K T mg E F { nx := fun _ H' => Q .non H', rt := Q } (L2.start N vs) H := by
  refine ⟨r.fr, r, _, st, start_rel S p hl, ?_⟩
  have cut : ∀ {r' : Rho}, Rho.les r.fr r r' → r.le { r' with fr := r.fr } := fun {r'} l => ⟨l.1, rfl, l.2.2⟩
  unfold runD at h
  rw [bind_def] at h
  cases e : F (startE N.length ds) st with
  | bad =>
    rw [e] at h
    exact h
  | exc x s1 =>
    rw [e] at h
    exact fun cls dd H' r' l S' x => h cls dd H' _ (cut l) (S'.less l.2.1) x
  | ok x s1 =>
    rw [e] at h
    obtain ⟨c, env'⟩ := x
    cases c with
    | nx => exact fun σ' H' r' l R' => h .non H' _ (cut l) (R'.s.less l.2.1) .non
    | rt d => exact fun v H' r' l S' x => h v H' _ (cut l) (S'.less l.2.1) (rep_fr x)
    | bk => exact h.elim
    | ct => exact h.elim
end
section
variable {P : Program} {w : World} {K : PySem.W.Frag} {T : List (Addr × Str)} {mg : Str → Option Value} {base : Heap} {k : Nat} {x qual : Str} {params : Arguments} {body : List Stmt} {scope : Scope} {fa : Addr} {fd : FuncData} {N ps : List Str} {F : SS}
theorem dfn_of {m n : Nat} (G : FunD K x qual params body scope [] [] fa fd) (hmg : mg x = some (.ref fa)) (S : FnScope N ps scope) (hb : Binds K fd ps []) (hm : N.length = m) (hn : ps.length = n) (hnm : ps.length ≤ N.length)
    (hbody : ∀ (cdv : Value) (A : Around) (outer : List PySem.Env) (s : Shared) (H : Hp) (E : XK), Room k (A.deeper (envOfC qual scope s.heap.objs.size fa cdv)) →
      PSs (cxOf (L2N.CX P w) P w K mg base N qual scope fa cdv A outer s H E) body (rdS K T mg E F)) : DFn P w K T mg base (k + 1) x n (runD m F) := by
  subst hm hn
  refine ⟨fa, fd, ps, hmg, G.kp, hb, G.ok S (fun vs H Q E h => h.1) fun cdv A outer s H vs Q E hr hsp => ⟨_, hbody cdv A outer s H E hr, ?_⟩⟩
  obtain ⟨hl, ds, r, st, R, p, h⟩ := hsp
  exact run_read R p (by rw [← p.length, hl]; exact hnm) h
/-- a promise that is never asked -/
theorem dfn_bad {n : Nat} (G : FunD K x qual params body scope [] [] fa fd) (hmg : mg x = some (.ref fa)) (hb : Binds K fd ps []) (hn : ps.length = n) : DFn P w K T mg base k x n (fun _ => M.bad) := by
  subst hn
  exact ⟨fa, fd, ps, hmg, G.kp, hb, ⟨fun vs H Q E h => h.1, fun A outer s H args us vs Q E hr e0 hb r h => by
    obtain ⟨_, _, _, _, _, _, h⟩ := h
    exact False.elim h⟩⟩
end
/-! ### new lists -/
/-- what is wanted of a list that is about to be laid -/
def AftF (K : PySem.W.Frag) (T : List (Addr × Str)) (mg : Str → Option Value) (E : XK) (r : Rho) (o : Out (List D)) (Q : VK) : Prop :=
  match o with
  | .ok ds st' => ∀ a xs H' r', r.le r' → RelS K T r' H' st' → Reps K r' xs ds → H' a = none → Q (.ref a) (upd H' a (.lst xs))
  | .exc e st' => ∀ cls dd H' r', r.le r' → RelS K T r' H' st' → ExR mg cls dd r' e → E cls dd H'
  | .bad => False
def rdF (K : PySem.W.Frag) (T : List (Addr × Str)) (mg : Str → Option Value) (E : XK) (F : SA) : TE :=
  fun σ H Q => ∃ b r env st, Rel K T b r σ H env st ∧ AftF K T mg E r (F env st) Q
section
variable {K : PySem.W.Frag} {T : List (Addr × Str)} {mg : Str → Option Value} {E : XK} {r r' : Rho} {H : Hp} {st : Sto}
theorem AftF.from {o : Out (List D)} {Q : VK} (l : r.le r') (h : AftF K T mg E r o Q) : AftF K T mg E r' o Q := by
  cases o with
  | ok x s => exact fun a xs H' r2 l2 S p n => h a xs H' r2 (l.trans l2) S p n
  | exc e s => exact fun c d H' r2 l2 S p => h c d H' r2 (l.trans l2) S p
  | bad => exact h
theorem AftF.bind {α β : Type} {RR : Rho → β → α → Prop} {m : M α} {f : α → M (List D)} {Q : β → Hp → Prop} {Q' : VK} (h : AftF K T mg E r ((m >>= f) st) Q')
    (k : ∀ x st1 v H1 r1, r.le r1 → RelS K T r1 H1 st1 → RR r1 v x → AftF K T mg E r1 (f x st1) Q' → Q v H1) : Aft RR K T mg E r (m st) Q := by
  rw [bind_def] at h
  cases e : m st with
  | ok x s1 =>
    rw [e] at h
    exact fun v H1 r1 l S p => k x s1 v H1 r1 l S p (AftF.from l h)
  | exc e1 s1 =>
    rw [e] at h
    exact h
  | bad =>
    rw [e] at h
    exact h
theorem rdF.bind {α β : Type} {RR : Rho → β → α → Prop} {σ : L2.St} {F : Env → M α} {G : α → Env → M (List D)} {Q : β → Hp → Prop} {Q' : VK} (h : rdF K T mg E (fun env => F env >>= fun x => G x env) σ H Q')
    (k : ∀ b r env st x v H1, Rel K T b r σ H1 env st → RR r v x → AftF K T mg E r (G x env st) Q' → Q v H1) : rd RR K T mg E F σ H Q := by
  obtain ⟨b, r, env, st, R, a⟩ := h
  exact ⟨b, r, env, st, R, AftF.bind a fun x st1 v H1 r1 l S p q => k b r1 env st1 x v H1 (R.go l S) p q⟩
end
def capL (ds : List D) : M (List D) := if ds.length ≤ 1000000 then M.pure ds else M.bad
def sLstF (Fs : SA) : SA := fun env => Fs env >>= capL
def catL : D → D → M (List D)
  | .lst xs, .lst ys => if xs.length + ys.length ≤ 1000000 then M.pure (xs ++ ys) else M.bad
  | _, _ => M.bad
def sCatF (F G : SE) : SA := fun env => F env >>= fun x => G env >>= fun y => catL x y
def listL : List D → M (List D)
  | [.tup ds] => M.pure ds
  | [.lst ds] => M.pure ds
  | _ => M.bad
def sListF (Fs : SA) : SA := fun env => Fs env >>= listL
/-- a list comprehension, its list new -/
def cmpF (t : Tg) (vs : List Nat) (ifs : SB) (el : SE) (ds : List D) : SA := fun env => if ds.length ≤ 1000000 then noExc (cmpL t ifs el (wipeE vs env) ds []) else M.bad
section
variable {X : Cx} {T : List (Addr × Str)} {mg : Str → Option Value} {E : XK} {es : List Expr} {Fs : SA} {pos p : Pos} {a c e : Expr} {F G : SE}
theorem d_lstF (h : DA X T mg E es Fs) : PE X (.List es pos) (rdF X.K T mg E (sLstF Fs)) :=
  peI (pe_lst h.pa) fun σ H Q q => rdF.bind (G := fun xs _ => capL xs) q fun b r env st x v H1 R p q => by
    unfold capL at q
    split at q
    · rename_i hz
      exact ⟨by rw [p.length]; exact big_line hz, fun l hl => q l v H1 r (.refl r) R.s p hl⟩
    · exact False.elim q
theorem d_catF (ha : PE X a (rdE X.K T mg E F)) (hb : PE X c (rdE X.K T mg E G)) : PE X (.BinOp a .Add c pos) (rdF X.K T mg E (sCatF F G)) :=
  peI (pe_op op_catL ha hb) fun σ H Q h => rdF.bind (G := fun x env => G env >>= fun y => catL x y) h fun b r env st x v H1 R p q =>
    ⟨b, r, env, st, R, AftF.bind q fun y st2 w H2 r2 l S p2 q2 => by
      cases x with
      | lst xs =>
        cases y with
        | lst ys =>
          have h' : AftF X.K T mg E r2 ((if xs.length + ys.length ≤ 1000000 then M.pure (xs ++ ys) else M.bad : M (List D)) st2) Q := q2
          split at h'
          · rename_i hz
            obtain ⟨a, vs, rfl, ha, ra⟩ := (p.mono l).l
            obtain ⟨c, ws, rfl, hc, rc⟩ := p2.l
            exact ⟨a, c, vs, ws, rfl, rfl, sqL_mono S.low ha, sqL_mono S.low hc, by rw [ra.length, rc.length]; exact big_line hz, fun l hl => h' l _ H2 r2 (.refl r2) S (ra.append rc) hl⟩
          · exact False.elim h'
        | _ => exact False.elim q2
      | _ => exact False.elim q2⟩
theorem d_listF (hg : Gl X "list") (hm : X.mg "list" = none) (ha : DA X T mg E [e] Fs)
    (he : starEach [e] X.env = (false, eval e X.env) :: starEach [] X.env := by rfl) (hpl : (backTo pos (starEach [] X.env)).any (·.1) = false := by rfl) : PE X (.Call (.Name "list" p) [e] [] pos) (rdF X.K T mg E (sListF Fs)) :=
  peI (pe_callTy call_list_of hg hm rfl ha.pa (by decide) (by decide) he hpl) fun σ H Q h => rdF.bind (G := fun xs _ => listL xs) h fun b r env st xs v H1 R p q => by
    rcases xs with _ | ⟨d, _ | ⟨d2, ds⟩⟩
    · exact False.elim q
    · obtain ⟨v, rfl, p1⟩ := p.i1
      cases d with
      | tup ds =>
        obtain ⟨a, vs, rfl, ha, ra⟩ := p1.t
        exact ⟨a, vs, rfl, .inr (sqT_mono R.s.low ha), fun l hl => q l vs H1 r (.refl r) R.s ra hl⟩
      | lst ds =>
        obtain ⟨a, vs, rfl, ha, ra⟩ := p1.l
        exact ⟨a, vs, rfl, .inl (sqL_mono R.s.low ha), fun l hl => q l vs H1 r (.refl r) R.s ra hl⟩
      | _ => exact False.elim q
    · cases d <;> exact False.elim q
end
/-! ### the frame's own lists -/
section
variable {K : PySem.W.Frag} {T : List (Addr × Str)} {mg : Str → Option Value} {E : XK} {b : Hp} {r r' : Rho} {σ : L2.St} {H H' : Hp} {env : Env} {st st' : Sto} {a : Addr} {xs ys : List V} {ds : List D} {i : Nat}
/-- slot i holds the list at a -/
theorem Rel.setOwn (R : Rel K T b r σ H env st) (hf : r.fr a = some (.lst xs)) (hb : b a = none) (p : Reps K r xs ds) (hi : i < env.length) (un : ∀ (j : Nat) es, j ≠ i → env[j]? = some (.ow es) → σ[j]? ≠ some (some (.ref a))) :
    Rel K T b r (σ.set i (some (.ref a))) H (env.set i (.ow ds)) st := by
  have hl := R.ln
  have at_ : ∀ (j : Nat) (s : Sl), (env.set i (.ow ds))[j]? = some s → (j = i ∧ s = .ow ds ∧ (σ.set i (some (.ref a)))[j]? = some (some (.ref a))) ∨ (j ≠ i ∧ env[j]? = some s ∧ (σ.set i (some (.ref a)))[j]? = σ[j]?) := fun j s h => by
    by_cases e : j = i
    · subst e
      rw [List.getElem?_set_self hi] at h
      exact .inl ⟨rfl, (Option.some.inj h).symm, List.getElem?_set_self (by omega)⟩
    · rw [List.getElem?_set_ne (Ne.symm e)] at h
      exact .inr ⟨e, h, List.getElem?_set_ne (Ne.symm e)⟩
  refine ⟨R.s, R.bas, by simpa using hl, fun j d' h => ?_, fun j es h => ?_, fun j k es es' c h1 h2 h3 h4 => ?_⟩
  · rcases at_ j _ h with ⟨_, e, _⟩ | ⟨_, e, q⟩
    · cases e
    · rw [q]
      exact R.val j d' e
  · rcases at_ j _ h with ⟨_, e, q⟩ | ⟨_, e, q⟩
    · injection e with e
      subst e
      exact ⟨a, xs, q, hb, hf, p⟩
    · rw [q]
      exact R.own j es e
  · rcases at_ j _ h1 with ⟨ej, _, q1⟩ | ⟨nj, e1, q1⟩
    · rcases at_ k _ h2 with ⟨ek, _, _⟩ | ⟨nk, e2, q2⟩
      · rw [ej, ek]
      · rw [q1] at h3
        rw [q2] at h4
        have ea : a = c := by
          injection h3 with h3
          injection h3 with h3
          injection h3
        subst ea
        exact absurd h4 (un k es' nk e2)
    · rcases at_ k _ h2 with ⟨ek, _, q2⟩ | ⟨nk, e2, q2⟩
      · rw [q2] at h4
        rw [q1] at h3
        have ea : a = c := by
          injection h4 with h4
          injection h4 with h4
          injection h4
        subst ea
        exact absurd h3 (un j es nj e1)
      · rw [q1] at h3
        rw [q2] at h4
        exact R.uni j k es es' c e1 e2 h3 h4
/-- the store of a list that is about to be laid, held -/
theorem Rel.holdNew (R : Rel K T b r σ H env st) (h : H a = none) : Rel K T b (r.hold a xs) σ (upd H a (.lst xs)) env st :=
  ⟨R.s.hold h, fun c o e => by
    show upd r.fr a (.lst xs) c = some o
    rw [upd_ne (ne_of_none (R.bas c o e) (R.s.fresh_fr h))]
    exact R.bas c o e, R.ln, fun i d e => by
    obtain ⟨v, h1, h2⟩ := R.val i d e
    exact ⟨v, h1, rep_fr h2⟩, fun i es e => by
    obtain ⟨c, zs, h1, h2, h3, h4⟩ := R.own i es e
    refine ⟨c, zs, h1, h2, ?_, reps_fr h4⟩
    show upd r.fr a (.lst xs) c = _
    rw [upd_ne (ne_of_none h3 (R.s.fresh_fr h))]
    exact h3, R.uni⟩
theorem Rho.hold_les {b : Hp} (hb : ∀ a o, b a = some o → r.fr a = some o) (ha : b a = none) : Rho.les b r (r.hold a xs) :=
  ⟨fun _ _ h => h, fun c o e => by
    show upd r.fr a (.lst xs) c = some o
    rw [upd_ne (ne_of_none e ha)]
    exact hb c o e, [], by simp [Rho.hold]⟩
theorem Rel.bas_none (R : Rel K T b r σ H env st) (h : H a = none) : b a = none := by
  cases e : b a with
  | none => rfl
  | some o =>
    rw [R.s.frm a o (R.bas a o e)] at h
    cases h
theorem Rel.fresh_own (R : Rel K T b r σ H env st) (h : H a = none) (j : Nat) (es : List D) (e : env[j]? = some (.ow es)) : σ[j]? ≠ some (some (.ref a)) := fun z => by
  obtain ⟨c, zs, h1, _, h3, _⟩ := R.own j es e
  rw [h1] at z
  have ea : c = a := by
    injection z with z
    injection z with z
    injection z
  subst ea
  rw [R.s.frm _ _ h3] at h
  cases h
/-- an own list changed -/
theorem Rel.turn (R : Rel K T b r σ H env st) (e : env[i]? = some (.ow ds)) {es : List D} (hs : σ[i]? = some (some (.ref a))) (hf : r.fr a = some (.lst xs)) (hb : b a = none) (p : Reps K r ys es) : Rel K T b (r.hold a ys) σ (upd H a (.lst ys)) (env.set i (.ow es)) st := by
  have hi : i < env.length := (List.getElem?_eq_some_iff.mp e).1
  have un : ∀ (j : Nat) es, j ≠ i → env[j]? = some (.ow es) → σ[j]? ≠ some (some (.ref a)) := fun j es' nj ej z => nj (R.uni j i es' ds a ej e z hs)
  have at_ : ∀ (j : Nat) (s : Sl), (env.set i (.ow es))[j]? = some s → (j = i ∧ s = .ow es) ∨ (j ≠ i ∧ env[j]? = some s) := fun j s h => by
    by_cases e : j = i
    · subst e
      rw [List.getElem?_set_self hi] at h
      exact .inl ⟨rfl, (Option.some.inj h).symm⟩
    · rw [List.getElem?_set_ne (Ne.symm e)] at h
      exact .inr ⟨e, h⟩
  refine ⟨R.s.turn hf, fun c o z => ?_, by simpa using R.ln, fun j d h => ?_, fun j es' h => ?_, fun j k es1 es2 c h1 h2 h3 h4 => ?_⟩
  · show upd r.fr a (.lst ys) c = some o
    rw [upd_ne (ne_of_none z hb)]
    exact R.bas c o z
  · rcases at_ j _ h with ⟨_, z⟩ | ⟨_, z⟩
    · cases z
    · obtain ⟨v, h1, h2⟩ := R.val j d z
      exact ⟨v, h1, rep_fr h2⟩
  · rcases at_ j _ h with ⟨ej, z⟩ | ⟨nj, z⟩
    · injection z with z
      subst z
      rw [ej]
      refine ⟨a, ys, hs, hb, ?_, reps_fr p⟩
      show upd r.fr a (.lst ys) a = _
      rw [upd_same]
    · obtain ⟨c, zs, h1, h2, h3, h4⟩ := R.own j es' z
      refine ⟨c, zs, h1, h2, ?_, reps_fr h4⟩
      show upd r.fr a (.lst ys) c = _
      rw [upd_ne (fun q => un j es' nj z (by rw [← q]; exact h1))]
      exact h3
  · rcases at_ j _ h1 with ⟨ej, _⟩ | ⟨nj, z1⟩
    · rcases at_ k _ h2 with ⟨ek, _⟩ | ⟨nk, z2⟩
      · rw [ej, ek]
      · rw [ej] at h3 ⊢
        exact R.uni i k ds es2 c e z2 h3 h4
    · rcases at_ k _ h2 with ⟨ek, _⟩ | ⟨nk, z2⟩
      · rw [ek] at h4 ⊢
        exact R.uni j i es1 ds c z1 e h3 h4
      · exact R.uni j k es1 es2 c z1 z2 h3 h4
end
def sNew (i : Nat) (F : SA) : SS := fun env => F env >>= fun ds => if i < env.length then M.pure (.nx, env.set i (.ow ds)) else M.bad
def appL (i : Nat) (env : Env) (ds : List D) (d : D) : M (Ctl × Env) := if ds.length < 1000000 then M.pure (.nx, env.set i (.ow (ds ++ [d]))) else M.bad
def ownD (i : Nat) (env : Env) : M (List D) := match env[i]? with
  | some (.ow ds) => M.pure ds
  | _ => M.bad
def sApp (i : Nat) (F : SE) : SS := fun env => ownD i env >>= fun ds => F env >>= appL i env ds
def sealE (i : Nat) (env : Env) : Env := match env[i]? with
  | some (.ow ds) => env.set i (.va (.lst ds))
  | _ => env
def sSeal (i : Nat) (F : SS) : SS := fun env => F (sealE i env)
/-- an own list, read at once -/
def sOwnIx (i : Nat) (G : SE) : SE := fun env => ownD i env >>= fun ds => G env >>= fun y => ixD (.lst ds) y
def sOwnLen (i : Nat) : SE := fun env => ownD i env >>= fun ds => M.pure (.int ds.length)
def putL (ds : List D) (v : D) : D → M (List D)
  | .int i => (match ixN ds.length i with
    | some j => M.pure (ds.set j v)
    | none => M.bad)
  | _ => M.bad
def sOwnPut (i : Nat) (G F : SE) : SS := fun env => F env >>= fun v => ownD i env >>= fun ds => G env >>= fun y => putL ds v y >>= fun es => M.pure (.nx, env.set i (.ow es))
section
variable {X : Cx} {T : List (Addr × Str)} {mg : Str → Option Value} {E : XK} {a e : Expr} {F G : SE} {Fs : SA} {pos apos p p2 p3 : Pos} {x : Str} {ss : List Stmt} {A : SS}
theorem AftF.toS {K : PySem.W.Frag} {b : Hp} {r : Rho} {s : Sto} {m : M (List D)} {f : List D → M (Ctl × Env)} {Q : VK} {D : Ends} (hb : ∀ a o, b a = some o → r.fr a = some o) (h : AftS K T mg E b r ((m >>= f) s) D)
    (k : ∀ x st1 c xs H1 r1, r.le r1 → RelS K T r1 H1 st1 → Reps K r1 xs x → H1 c = none → AftS K T mg E b r1 (f x st1) D → Q (.ref c) (upd H1 c (.lst xs))) : AftF K T mg E r (m s) Q := by
  rw [bind_def] at h
  cases e : m s with
  | ok x s1 =>
    rw [e] at h
    exact fun c xs H1 r1 l S p n => k x s1 c xs H1 r1 l S p n (AftS.from (l.les hb) h)
  | exc e1 s1 =>
    rw [e] at h
    exact fun c d H' r' l S p => h c d H' r' (l.les hb) S p
  | bad =>
    rw [e] at h
    exact h
theorem d_new (i : Nat) (he : PE X e (rdF X.K T mg E Fs)) (hN : X.N.Nodup) (hi : X.N[i]? = some x := by rfl) (hx : Loc X.env.scope x := by first | exact .inl rfl | exact .inr rfl) (hs : swapsWith e (some (.Name x p)) pos.line X.env = pure false := by rfl)
    (hf : X.fn x = true ∨ X.env.scope.names.lookup x = some .local := by first | exact .inl rfl | exact .inr rfl | assumption) : PS X (.Assign [.Name x p] e pos) (rdS X.K T mg E (sNew i Fs)) :=
  psI (ps_set hN hi hx he hs hf) fun D σ H ⟨b, r, env, st, R, h⟩ => ⟨b, r, env, st, R, AftF.toS (f := fun ds => if i < env.length then M.pure (.nx, env.set i (.ow ds)) else M.bad) R.bas h fun ds st1 c xs H1 r1 l S p n q => by
    by_cases hl : i < env.length
    · rw [if_pos hl] at q
      have R1 := R.go l S
      have R2 : Rel X.K T b (r1.hold c xs) σ (upd H1 c (.lst xs)) env st1 := R1.holdNew n
      exact q _ _ (r1.hold c xs) (Rho.hold_les R1.bas (R1.bas_none n)) (R2.setOwn (xs := xs) (by show upd r1.fr c (.lst xs) c = _; rw [upd_same]) (R1.bas_none n) (reps_fr p) hl fun j es _ e => R1.fresh_own n j es e)
    · rw [if_neg hl] at q
      exact q.elim⟩
theorem own_at {K : PySem.W.Frag} {b : Hp} {r : Rho} {σ : L2.St} {H : Hp} {env : Env} {st : Sto} {i : Nat} {α : Type} {f : List D → M α} (P : Out α → Prop) (hbad : P .bad → False) (h : P ((ownD i env >>= f) st)) (R : Rel K T b r σ H env st) :
    ∃ ds a xs, env[i]? = some (.ow ds) ∧ σ[i]? = some (some (.ref a)) ∧ b a = none ∧ r.fr a = some (.lst xs) ∧ Reps K r xs ds ∧ P (f ds st) := by
  rw [bind_def] at h
  unfold ownD at h
  cases e : env[i]? with
  | none =>
    rw [e] at h
    exact (hbad h).elim
  | some s =>
    rw [e] at h
    cases s with
    | no => exact (hbad h).elim
    | va d => exact (hbad h).elim
    | ow ds =>
      obtain ⟨a, xs, h1, h2, h3, h4⟩ := R.own i ds e
      exact ⟨ds, a, xs, rfl, h1, h2, h3, h4, h⟩
theorem d_app (i : Nat) (he : PE X e (rdE X.K T mg E F)) (hN : X.N[i]? = some x := by rfl) (hv : Vis X.env.scope x := by first | exact Or.inl rfl | exact Or.inr (Or.inl rfl) | exact Or.inr (Or.inr rfl))
    (hd : (x == ("__debug__" : Str)) = false := by decide) (hcd : (x == ("__classdict__" : Str)) = false := by decide)
    (hbase : attributeBase (.Name x p) "append" X.env (eval (.Name x p) X.env) = eval (.Name x p) X.env := by rfl)
    (hfew : ((backTo p3 (starEach [e] X.env)).all (fun x => !x.1) && (backToKw p3 (keywordEach [] X.env)).all (fun x => x.1.isSome)
      && decide ([e].length + ([] : List Keyword).length + (if ([] : List Keyword).isEmpty then 0 else 1) < 30)) = true := by rfl)
    (hline : (apos.endLine == p3.line) = true := by rfl) (hs : starEach [e] X.env = (false, eval e X.env) :: starEach [] X.env := by rfl) (hplain : (backTo p3 (starEach [] X.env)).any (·.1) = false := by rfl)
    (hsw : swapsWith (.Call (.Attribute (.Name x p) "append" apos) [e] [] p3) none pos.line X.env = pure false := by rfl) :
    PS X (.Expr (.Call (.Attribute (.Name x p) "append" apos) [e] [] p3) pos) (rdS X.K T mg E (sApp i F)) :=
  psI (ps_expr (pe_bm PySem.F.plainAttrs_list PySem.F.slot_list_append PySem.F.type_list_append mt_append (pe_var hN hv hd hcd) (pa_cons he pa_nil hs) hbase hfew hline hs hplain) hsw) fun D σ H ⟨b, r, env, st, R, h⟩ => by
    obtain ⟨ds, a, xs, e1, e2, e3, e4, p1, h⟩ := own_at (fun o => AftS X.K T mg E b r o D) (fun z => z) h R
    have hH := R.s.frm _ _ e4
    refine ⟨.ref a, e2, .inl ⟨rfl, xs, SqL.of hH⟩, ?_⟩
    refine ⟨b, r, env, st, R, AftS.bind (f := fun d => appL i env ds d) R.bas h fun d st1 v H1 r1 l S p q => ?_⟩
    have R1 := R.go l S
    have f1 : r1.fr a = some (.lst xs) := by rw [l.2.1]; exact e4
    unfold appL at q
    split at q
    · rename_i hz
      refine ⟨a, xs, v, rfl, rfl, R1.s.frm _ _ f1, by rw [p1.length]; exact Nat.lt_of_lt_of_le hz (by decide), ?_⟩
      have R2 := R1.turn e1 e2 f1 e3 ((p1.mono l).append (.one p))
      exact q _ _ _ (Rho.hold_les R1.bas e3) R2
    · exact q.elim
theorem d_seal (i : Nat) (h : PSs X ss (rdS X.K T mg E A)) : PSs X ss (rdS X.K T mg E (sSeal i A)) := pssI h fun D σ H ⟨b, r, env, st, R, h⟩ => by
  unfold sSeal sealE at h
  cases e : env[i]? with
  | none =>
    rw [e] at h
    exact ⟨b, r, env, st, R, h⟩
  | some s =>
    rw [e] at h
    cases s with
    | no => exact ⟨b, r, env, st, R, h⟩
    | va d => exact ⟨b, r, env, st, R, h⟩
    | ow ds =>
      obtain ⟨a, xs, h1, h2, h3, h4⟩ := R.own i ds e
      -- what others hold, without this list
      have hdec : ∃ f : Hp, (∀ c o, f c = some o → r.fr c = some o) ∧ f a = none ∧ ∀ c o, c ≠ a → r.fr c = some o → f c = some o := by
        refine ⟨fun c => if c = a then none else r.fr c, fun c o z => ?_, if_pos rfl, fun c o n z => (if_neg n).trans z⟩
        by_cases q : c = a
        · have z' := (if_pos q).symm.trans z
          cases z'
        · exact (if_neg q).symm.trans z
      obtain ⟨f, f1, f2, f3⟩ := hdec
      have hl := R.s.dis a _ h3
      have hfl : ∀ c o, r.fl c = some o → (upd r.fl a (.lst xs)) c = some o := fun c o z => by
        rw [upd_ne (ne_of_none z hl)]
        exact z
      have S2 := R.s.seal_ h3 f1 f2
      have hi : i < env.length := (List.getElem?_eq_some_iff.mp e).1
      have R2 : Rel X.K T b { r with fl := upd r.fl a (.lst xs), fr := f } σ H (env.set i (.va (.lst ds))) st := by
        have at_ : ∀ (j : Nat) (s : Sl), (env.set i (.va (.lst ds)))[j]? = some s → (j = i ∧ s = .va (.lst ds)) ∨ (j ≠ i ∧ env[j]? = some s) := fun j s h => by
          by_cases e : j = i
          · subst e
            rw [List.getElem?_set_self hi] at h
            exact .inl ⟨rfl, (Option.some.inj h).symm⟩
          · rw [List.getElem?_set_ne (Ne.symm e)] at h
            exact .inr ⟨e, h⟩
        refine ⟨S2, fun c o z => f3 c o (ne_of_none z h2) (R.bas c o z), by simpa using R.ln, fun j d z => ?_, fun j es z => ?_, fun j k es es' c z1 z2 => ?_⟩
        · rcases at_ j _ z with ⟨ej, ed⟩ | ⟨_, ed⟩
          · injection ed with ed
            subst ed
            rw [ej]
            refine ⟨_, h1, .lst (.inl (.inl ?_)) (h4.up hfl ⟨[], by simp⟩)⟩
            show upd r.fl a (.lst xs) a = _
            rw [upd_same]
          · obtain ⟨v, q1, q2⟩ := R.val j d ed
            exact ⟨v, q1, q2.up hfl ⟨[], by simp⟩⟩
        · rcases at_ j _ z with ⟨_, ed⟩ | ⟨nj, ed⟩
          · cases ed
          · obtain ⟨c, zs, q1, q2, q3, q4⟩ := R.own j es ed
            exact ⟨c, zs, q1, q2, f3 c _ (fun y => nj (R.uni j i es ds a ed e (by rw [← y]; exact q1) h1)) q3, q4.up hfl ⟨[], by simp⟩⟩
        · rcases at_ j _ z1 with ⟨_, ed⟩ | ⟨_, ed⟩
          · cases ed
          · rcases at_ k _ z2 with ⟨_, ed2⟩ | ⟨_, ed2⟩
            · cases ed2
            · exact R.uni j k es es' c ed ed2
      exact ⟨b, _, _, st, R2, AftS.from ⟨hfl, fun c o z => f3 c o (ne_of_none z h2) (R.bas c o z), [], by simp⟩ h⟩
/-- x[e], x an own list -/
theorem d_ownIx (i : Nat) (hb : PE X e (rdE X.K T mg E G)) (hsl : PlainIx e) (hN : X.N[i]? = some x := by rfl) (hv : Vis X.env.scope x := by first | exact Or.inl rfl | exact Or.inr (Or.inl rfl) | exact Or.inr (Or.inr rfl))
    (hd : (x == ("__debug__" : Str)) = false := by decide) (hcd : (x == ("__classdict__" : Str)) = false := by decide) : PE X (.Subscript (.Name x p) e pos) (rdE X.K T mg E (sOwnIx i G)) :=
  peI (pe_ix ix_list (pe_var hN hv hd hcd) hb hsl) fun σ H Q ⟨b, r, env, st, R, h⟩ => by
    obtain ⟨ds, a, xs, e1, e2, e3, e4, p1, h⟩ := own_at (fun o => Aft (Rep X.K) X.K T mg E r o Q) (fun z => z) h R
    refine ⟨.ref a, e2, b, r, env, st, R, Aft.bind (f := fun y => ixD (.lst ds) y) h fun y st1 v H1 r1 l S p q => ?_⟩
    have f1 : r1.fr a = some (.lst xs) := by rw [l.2.1]; exact e4
    cases y with
    | int j =>
      have q' : Aft (Rep X.K) X.K T mg E r1 ((match atI ds j with
        | some d => M.pure d
        | none => M.bad : M D) st1) Q := q
      cases e : atI ds j with
      | none =>
        rw [e] at q'
        exact False.elim q'
      | some d =>
        rw [e] at q'
        obtain ⟨v', h1, h2⟩ := atI_reps (p1.mono l) e
        exact ⟨a, xs, j, v', rfl, p.i, .inl (.inl (S.frm _ _ f1)), h1, aft_same q' S h2⟩
    | _ => exact False.elim q
/-- len(x), x an own list -/
theorem d_ownLen (i : Nat) (hg : Gl X "len") (hm : X.mg "len" = none) (hN : X.N[i]? = some x := by rfl) (hv : Vis X.env.scope x := by first | exact Or.inl rfl | exact Or.inr (Or.inl rfl) | exact Or.inr (Or.inr rfl))
    (hd : (x == ("__debug__" : Str)) = false := by decide) (hcd : (x == ("__classdict__" : Str)) = false := by decide)
    (he : starEach [.Name x p2] X.env = (false, eval (.Name x p2) X.env) :: starEach [] X.env := by rfl) (hpl : (backTo pos (starEach [] X.env)).any (·.1) = false := by rfl) :
    PE X (.Call (.Name "len" p) [.Name x p2] [] pos) (rdE X.K T mg E (sOwnLen i)) :=
  peI (pe_callB cr_len hg hm boot_len (pa_cons (pe_var hN hv hd hcd) pa_nil he) (by decide) (by decide) he hpl) fun σ H Q ⟨b, r, env, st, R, h⟩ => by
    obtain ⟨ds, a, xs, e1, e2, e3, e4, p1, h⟩ := own_at (fun o => Aft (Rep X.K) X.K T mg E r o Q) (fun z => z) h R
    refine ⟨.ref a, e2, .inl ⟨a, xs, rfl, .inl (.inl (.inl (R.s.frm _ _ e4))), ?_⟩⟩
    rw [p1.length]
    exact aft_same h R.s (.int _)
/-- x[e] = e2, x an own list -/
theorem d_ownPut (i : Nat) (hi : PE X a (rdE X.K T mg E G)) (he : PE X e (rdE X.K T mg E F)) (hN : X.N[i]? = some x := by rfl) (hv : Vis X.env.scope x := by first | exact Or.inl rfl | exact Or.inr (Or.inl rfl) | exact Or.inr (Or.inr rfl))
    (hd : (x == ("__debug__" : Str)) = false := by decide) (hcd : (x == ("__classdict__" : Str)) = false := by decide)
    (ha : ∀ v, assign (.Subscript (.Name x p) a p2) X.env v = (do
      let ov ← holding [v] (eval (.Name x p) X.env)
      let iv ← holding [v, ov] (eval a X.env)
      standAt p2
      holding [v, ov, iv] (setItem ov iv v)
      release [v, ov, iv] []) := by intro _; rfl)
    (hs : swapsWithSole [.Subscript (.Name x p) a p2] e pos.line X.env = pure false := by rfl) (hw : swappedStores [.Subscript (.Name x p) a p2] e X.env = pure none := by rfl)
    (h1 : (assignEach [.Subscript (.Name x p) a p2] X.env).map (·.2) = [assign (.Subscript (.Name x p) a p2) X.env] := by rfl) :
    PS X (.Assign [.Subscript (.Name x p) a p2] e pos) (rdS X.K T mg E (sOwnPut i G F)) :=
  psI (ps_asg he (pg_sub (pe_var hN hv hd hcd) hi set_list ha) hs hw h1) fun Dn σ H h => rdS.bind (f := fun v env => ownD i env >>= fun ds => G env >>= fun y => putL ds v y >>= fun es => M.pure (.nx, env.set i (.ow es))) h fun b r env st d v H1 R p q => by
    obtain ⟨ds, c, xs, e1, e2, e3, e4, p1, h⟩ := own_at (fun o => AftS X.K T mg E b r o Dn) (fun z => z) q R
    refine ⟨.ref c, e2, b, r, env, st, R, AftS.bind (f := fun y => putL ds d y >>= fun es => M.pure (.nx, env.set i (.ow es))) R.bas h fun y st1 w H2 r1 l S p2 q => ?_⟩
    have R1 := R.go l S
    have f1 : r1.fr c = some (.lst xs) := by rw [l.2.1]; exact e4
    cases y with
    | int j =>
      have q' : AftS X.K T mg E b r1 (((match ixN ds.length j with
        | some j => M.pure (ds.set j d)
        | none => M.bad : M (List D)) >>= fun es => M.pure (.nx, env.set i (.ow es))) st1) Dn := q
      cases e : ixN ds.length j with
      | none =>
        rw [e] at q'
        exact q'.elim
      | some j' =>
        rw [e] at q'
        refine ⟨c, xs, j, j', rfl, p2.i, S.frm _ _ f1, by rw [p1.length]; exact e, ?_⟩
        have R2 := R1.turn e1 e2 f1 e3 ((p1.mono l).set j' (p.mono l))
        exact q' _ _ _ (Rho.hold_les R1.bas e3) R2
    | _ => exact q.elim
end
end Dt

set_option maxHeartbeats 4000000
namespace Dt
open PySem PySem.Spec PyProof.Rows L2
/-! ### a, b = x, y -/
def sPar (is : List Nat) (Fs : SA) : SS := fun env => Fs env >>= fun ds => if ds.length = is.length then M.pure (.nx, setAll is ds env) else M.bad
/-! ### the store -/
def newRef (ds : List D) : M D := fun st => .ok (.ref st.length) (st ++ [.lst ds])
def sRef (F : SA) : SE := fun env => F env >>= newRef
def putD : D → D → D → M (Ctl × Env) → M (Ctl × Env)
  | .ref k, .int i, v, m => fun st => (match st[k]? with
    | some (.lst ds) => (match ixN ds.length i with
      | some j => m (st.set k (.lst (ds.set j v)))
      | none => .bad)
    | _ => .bad)
  | _, _, _, _ => M.bad
def sPut (O G F : SE) : SS := fun env => F env >>= fun v => O env >>= fun o => G env >>= fun y => putD o y v (M.pure (.nx, env))
section
variable {K : PySem.W.Frag} {T : List (Addr × Str)} {mg : Str → Option Value} {E : XK} {b : Hp} {r r' : Rho} {σ : L2.St} {H H' : Hp} {env : Env} {st st' : Sto} {a : Addr} {xs ys : List V} {ds : List D} {i : Nat}
theorem RelS.push (R : RelS K T r H st) (h : H a = none) (p : Reps K r xs ds) : RelS K T { r with ad := r.ad ++ [a] } (upd H a (.lst xs)) (st ++ [.lst ds]) ∧ r.le { r with ad := r.ad ++ [a] } := by
  have hl := R.fresh_fl h
  have hf := R.fresh_fr h
  have ha := R.fresh_ad h
  have up : ∀ c u, H c = some u → upd H a (.lst xs) c = some u := fun c u e => by rw [upd_ne (ne_of_none e h)]; exact e
  have le : r.le { r with ad := r.ad ++ [a] } := ⟨fun _ _ h => h, rfl, [a], rfl⟩
  refine ⟨⟨fun c o e => up c o (R.low c o e), fun c o e => up c o (R.frm c o e), R.dis, ?_, ?_, fun c m => ?_, fun k c ob e1 e2 => ?_, R.tab.ext up, R.ntl, R.ntf⟩, le⟩
  · show (r.ad ++ [a]).length = (st ++ [Ob.lst ds]).length
    simp [R.len]
  · exact List.nodup_append.mpr ⟨R.nd, by simp, fun x hx y hy e => ha (by rw [List.mem_singleton.mp hy] at e; rw [← e]; exact hx)⟩
  · rcases List.mem_append.mp m with q | q
    · exact R.ads c q
    · rw [List.mem_singleton.mp q]
      exact ⟨hl, hf⟩
  · have e1' : (r.ad ++ [a])[k]? = some c := e1
    by_cases hk : k < r.ad.length
    · rw [List.getElem?_append_left hk] at e1'
      rw [List.getElem?_append_left (by rw [← R.len]; exact hk)] at e2
      exact (R.obs k c ob e1' e2).at (fun o z => up c o z) (fun _ _ z => z) ⟨[a], rfl⟩
    · rw [List.getElem?_append_right (by omega)] at e1'
      rw [List.getElem?_append_right (by rw [← R.len]; omega)] at e2
      have hk0 : k - r.ad.length = 0 := by
        have q := (List.getElem?_eq_some_iff.mp e1').1
        simp at q
        omega
      rw [hk0] at e1'
      rw [← R.len, hk0] at e2
      have ec : a = c := by simpa using e1'
      have eo : Ob.lst ds = ob := by simpa using e2
      subst ec eo
      exact ⟨xs, upd_same, p.mono le⟩
theorem RelS.put {k : Nat} (R : RelS K T r H st) (hk : r.ad[k]? = some a) {es : List D} (e : st[k]? = some (.lst es)) (p : Reps K r ys ds) : RelS K T r (upd H a (.lst ys)) (st.set k (.lst ds)) := by
  obtain ⟨zs, hH, _⟩ := R.obs k a _ hk e
  have hm : a ∈ r.ad := List.mem_of_getElem? hk
  obtain ⟨hl, hf⟩ := R.ads a hm
  have up : ∀ c u, c ≠ a → H c = some u → upd H a (.lst ys) c = some u := fun c u n e => by rw [upd_ne n]; exact e
  refine ⟨fun c o z => up c o (ne_of_none z hl) (R.low c o z), fun c o z => up c o (ne_of_none z hf) (R.frm c o z), R.dis, by rw [List.length_set]; exact R.len, R.nd, R.ads, fun j c ob e1 e2 => ?_, tabs_mut R.tab hH, R.ntl, R.ntf⟩
  by_cases ej : j = k
  · subst ej
    rw [hk] at e1
    have ec : a = c := Option.some.inj e1
    subst ec
    have hj : j < st.length := (List.getElem?_eq_some_iff.mp e).1
    rw [List.getElem?_set_self hj] at e2
    have eo : Ob.lst ds = ob := Option.some.inj e2
    subst eo
    exact ⟨ys, upd_same, p⟩
  · rw [List.getElem?_set_ne (Ne.symm ej)] at e2
    have nc : c ≠ a := fun z => by
      rw [z] at e1
      have h1 := (List.getElem?_eq_some_iff.mp e1)
      have h2 := (List.getElem?_eq_some_iff.mp hk)
      obtain ⟨l1, g1⟩ := h1
      obtain ⟨l2, g2⟩ := h2
      exact ej ((List.getElem_inj R.nd).mp (g1.trans g2.symm))
    exact (R.obs j c ob e1 e2).at (fun o z => up c o nc z) (fun _ _ z => z) ⟨[], by simp⟩
theorem Rel.put {k : Nat} (R : Rel K T b r σ H env st) (hk : r.ad[k]? = some a) {es : List D} (e : st[k]? = some (.lst es)) (p : Reps K r ys ds) : Rel K T b r σ (upd H a (.lst ys)) env (st.set k (.lst ds)) := ⟨R.s.put hk e p, R.bas, R.ln, R.val, R.own, R.uni⟩
end
section
variable {X : Cx} {T : List (Addr × Str)} {mg : Str → Option Value} {E : XK} {a c d e o : Expr} {F G O : SE} {Fs : SA} {pos px py pz pt p2 : Pos} {x y z : Str} {kt k2 : Nat} {pt2 : Pos}
theorem d_ref (h : PE X e (rdF X.K T mg E Fs)) : PE X e (rdE X.K T mg E (sRef Fs)) := peI h fun σ H Q ⟨b, r, env, st, R, h⟩ => ⟨b, r, env, st, R, by
  unfold sRef at h
  rw [bind_def] at h
  cases e1 : Fs env st with
  | exc x s1 =>
    rw [e1] at h
    exact h
  | bad =>
    rw [e1] at h
    exact h
  | ok ds s1 =>
    rw [e1] at h
    intro a xs H' r' l S p n
    obtain ⟨S2, l2⟩ := S.push n p
    exact h (.ref a) _ _ (l.trans l2) S2 (.ref (by
      show (r'.ad ++ [a])[s1.length]? = some a
      rw [← S.len]
      simp))⟩
/-- a new list, read only -/
def sVal (Fs : SA) : SE := fun env => Fs env >>= fun ds => M.pure (.lst ds)
theorem d_val (h : PE X e (rdF X.K T mg E Fs)) : PE X e (rdE X.K T mg E (sVal Fs)) := peI h fun σ H Q ⟨b, r, env, st, R, h⟩ => ⟨b, r, env, st, R, by
  unfold sVal at h
  rw [bind_def] at h
  cases e1 : Fs env st with
  | exc x s1 =>
    rw [e1] at h
    exact h
  | bad =>
    rw [e1] at h
    exact h
  | ok ds s1 =>
    rw [e1] at h
    exact fun a xs H' r' l S p n => new_lst S p (Aft.from l h) a n⟩
/-- o[e] = e2, o of the store -/
theorem d_put (ho : PE X o (rdE X.K T mg E O)) (hi : PE X a (rdE X.K T mg E G)) (he : PE X e (rdE X.K T mg E F))
    (ha : ∀ v, assign (.Subscript o a p2) X.env v = (do
      let ov ← holding [v] (eval o X.env)
      let iv ← holding [v, ov] (eval a X.env)
      standAt p2
      holding [v, ov, iv] (setItem ov iv v)
      release [v, ov, iv] []) := by intro _; rfl)
    (hs : swapsWithSole [.Subscript o a p2] e pos.line X.env = pure false := by rfl) (hw : swappedStores [.Subscript o a p2] e X.env = pure none := by rfl)
    (h1 : (assignEach [.Subscript o a p2] X.env).map (·.2) = [assign (.Subscript o a p2) X.env] := by rfl) :
    PS X (.Assign [.Subscript o a p2] e pos) (rdS X.K T mg E (sPut O G F)) :=
  psI (ps_asg he (pg_sub ho hi set_list ha) hs hw h1) fun Dn σ H h => rdS.bind (f := fun v env => O env >>= fun o => G env >>= fun y => putD o y v (M.pure (.nx, env))) h fun b r env st d v H1 R p q =>
    ⟨b, r, env, st, R, AftS.bind (f := fun o => G env >>= fun y => putD o y d (M.pure (.nx, env))) R.bas q fun od st1 ov H2 r1 l1 S1 p1 q1 =>
      ⟨b, r1, env, st1, R.go l1 S1, AftS.bind (f := fun y => putD od y d (M.pure (.nx, env))) (R.go l1 S1).bas q1 fun yd st2 yv H3 r2 l2 S2 p2 q2 => by
        cases od with
        | ref k =>
          cases yd with
          | int i =>
            have q' : AftS X.K T mg E b r2 (match st2[k]? with
              | some (.lst ds) => (match ixN ds.length i with
                | some j => .ok (.nx, env) (st2.set k (.lst (ds.set j d)))
                | none => .bad)
              | _ => .bad) Dn := q2
            cases e1 : st2[k]? with
            | none =>
              rw [e1] at q'
              exact False.elim q'
            | some ob =>
              rw [e1] at q'
              cases ob with
              | ins C gs => exact False.elim q'
              | lst ds =>
                have q3 : AftS X.K T mg E b r2 (match ixN ds.length i with
                  | some j => .ok (.nx, env) (st2.set k (.lst (ds.set j d)))
                  | none => .bad) Dn := q'
                cases e2 : ixN ds.length i with
                | none =>
                  rw [e2] at q3
                  exact False.elim q3
                | some j =>
                  rw [e2] at q3
                  obtain ⟨oa, rfl, hk⟩ := (p1.mono l2).rf
                  obtain ⟨xs, hx, rx⟩ := S2.obs k oa _ hk e1
                  have R2 := (R.go l1 S1).go l2 S2
                  exact ⟨oa, xs, i, j, rfl, p2.i, hx, by rw [rx.length]; exact e2, q3 σ _ r2 (.refl R2.bas) (R2.put hk e1 (rx.set j ((p.mono l1).mono l2)))⟩
          | _ => exact False.elim q2
        | _ => exact False.elim q2⟩⟩
theorem d_par2 (i j : Nat) (hc : X.calm = true) (hN : X.N.Nodup) (ha : PA X [a, c] (rdA X.K T mg E Fs)) (hw : swappedStores [.Tuple [.Name x px, .Name y py] kt pt] (.Tuple [a, c] k2 pt2) X.env = pure (some [x, y]))
    (hi : X.N[i]? = some x := by rfl) (hj : X.N[j]? = some y := by rfl) (hij : i ≠ j := by decide) (hx : X.env.scope.names.lookup x = some .local := by rfl) (hy : X.env.scope.names.lookup y = some .local := by rfl)
    (hs : swapsWithSole [.Tuple [.Name x px, .Name y py] kt pt] (.Tuple [a, c] k2 pt2) pos.line X.env = pure false := by rfl) :
    PS X (.Assign [.Tuple [.Name x px, .Name y py] kt pt] (.Tuple [a, c] k2 pt2) pos) (rdS X.K T mg E (sPar [i, j] Fs)) :=
  psI (ps_par hc hN hi hj hij hx hy ha hw hs) fun Dn σ H h => rdS.bind (f := fun (ds : List D) env => if ds.length = [i, j].length then M.pure (.nx, setAll [i, j] ds env) else M.bad) h fun b r env st ds vs H1 R p q => by
    split at q
    · rename_i hl
      rcases ds with _ | ⟨d1, _ | ⟨d2, _ | ⟨d3, ds⟩⟩⟩
      · simp at hl
      · simp at hl
      · obtain ⟨v, w, rfl, h1, h2⟩ := p.i2
        exact ⟨v, w, rfl, q _ H1 r (.refl R.bas) ((R.set h1 i).set h2 j)⟩
      · simp at hl
    · exact q.elim
theorem d_par3 (i j l : Nat) (hc : X.calm = true) (hN : X.N.Nodup) (ha : PA X [a, c, d] (rdA X.K T mg E Fs)) (hw : swappedStores [.Tuple [.Name x px, .Name y py, .Name z pz] kt pt] (.Tuple [a, c, d] k2 pt2) X.env = pure (some [x, y, z]))
    (hi : X.N[i]? = some x := by rfl) (hj : X.N[j]? = some y := by rfl) (hl : X.N[l]? = some z := by rfl) (hij : i ≠ j := by decide) (hil : i ≠ l := by decide) (hjl : j ≠ l := by decide) (hx : X.env.scope.names.lookup x = some .local := by rfl) (hy : X.env.scope.names.lookup y = some .local := by rfl) (hz : X.env.scope.names.lookup z = some .local := by rfl)
    (hs : swapsWithSole [.Tuple [.Name x px, .Name y py, .Name z pz] kt pt] (.Tuple [a, c, d] k2 pt2) pos.line X.env = pure false := by rfl) :
    PS X (.Assign [.Tuple [.Name x px, .Name y py, .Name z pz] kt pt] (.Tuple [a, c, d] k2 pt2) pos) (rdS X.K T mg E (sPar [i, j, l] Fs)) :=
  psI (ps_par3 hc hN hi hj hl hij hil hjl hx hy hz ha hw hs) fun Dn σ H h => rdS.bind (f := fun (ds : List D) env => if ds.length = [i, j, l].length then M.pure (.nx, setAll [i, j, l] ds env) else M.bad) h fun b r env st ds vs H1 R p q => by
    split at q
    · rename_i hl
      rcases ds with _ | ⟨d1, _ | ⟨d2, _ | ⟨d3, _ | ⟨d4, ds⟩⟩⟩⟩
      · simp at hl
      · simp at hl
      · simp at hl
      · obtain ⟨v, w, u, rfl, h1, h2, h3⟩ := p.i3
        exact ⟨v, w, u, rfl, q _ H1 r (.refl R.bas) (((R.set h1 i).set h2 j).set h3 l)⟩
      · simp at hl
    · exact q.elim
end

/-! ### small things -/
def fuelI (i : Nat) : Env → Nat := fun env => match env[i]? with
  | some (.va (.int n)) => n.natAbs + 2
  | _ => 0
theorem d_gint {X : Cx} {T : List (Addr × Str)} {mg : Str → Option Value} {E : XK} {x : Str} {i : Int} {pos : Pos} (hg : Gl X x) (h : ∃ t, X.mg x = some (.int i t)) (hd : (x == ("__debug__" : Str)) = false := by decide) : PE X (.Name x pos) (rdE X.K T mg E (sC (.int i))) := by
  obtain ⟨t, h⟩ := h
  exact d_glob (v := .int i) hg h ⟨t, rfl⟩ (fun _ => .int i) hd
theorem passL {P : Program} {w : World} {X : Cx} : Passes (L2N.CX P w) X (fun _ _ _ => False) := fun _ _ _ _ _ _ _ ⟨_, _, _, _, _, _, _, _, _, _, _, _, z⟩ => z.elim
theorem Room.units1 {k : Nat} {A : Around} (r : Room k A) : A.units + 65 < cLine := by have := r.un; omega
end Dt

set_option maxHeartbeats 4000000
/-! where an exception is handled: the ends of iterators, zip, comprehensions, targets, defs, isinstance -/
namespace Dt
open PySem PySem.Spec PyProof.Rows L2 HotX L2H
section
variable {prog : Program} {w : World} {A : Around} {E : Value → Shared → Prop} {s : Shared}
theorem nextOf_list_endH {it l x1 : Addr} {i : Nat} {items : Array Value} {Q : Value → Shared → Prop} (hot : HotAt A x1 s.heap) (hn : x1 ≠ it)
    (hit : s.heap.IsListIter it l i) (hl : s.heap.IsList l items) (hx : items[i]? = none)
    (hE : ∀ h' e, Heap.ExtBut it s.heap h' → (∃ o, h'.get? e = some o ∧ o.cls = .type "StopIteration") → E (.ref e) { s with heap := h' }) :
    wpAny (model prog w) A (Builtin.SmallTypes.nextOf (.ref it)) Q E s := by
  obtain ⟨o, ho, hc, hd⟩ := id hit
  obtain ⟨ol, hol, _, nl, hdl⟩ := hl
  obtain ⟨hh, o1, vs1, h1, d1, c1⟩ := hot
  unfold Builtin.SmallTypes.nextOf
  refine wpAny_bind (wpAny_callSpecial?_slot (name := Str.ofString "__next__") hit.typeIs slot_listiter_next
    (wpAny_call_entry slot_listiter_next hit.typeIs entry_listiter_next ?_ (args_listiter_next _)))
  show wpAny _ _ (field (.ref it) 0 >>= _) _ _ s
  refine wpAny_bind (wpAny_field ho hd (x := .ref l) rfl ?_)
  show wpAny _ _ (if (Value.ref l == Value.none) = true then _ else _) _ _ s
  rw [if_neg (show ¬ ((Value.ref l == Value.none) = true) from Bool.false_ne_true)]
  show wpAny _ _ (field (.ref it) 1 >>= _) _ _ s
  refine wpAny_bind (wpAny_field ho hd (x := .int i 0) rfl ?_)
  show wpAny _ _ (seqItems? (.ref l) >>= _) _ _ s
  refine wpAny_bind (wpAny_seqItems hol hdl ?_)
  simp only [Int.toNat_natCast, hx]
  refine wpAny_bind (wpAny_rule (wpAny_bind (wpAny_setField ho hd (by simp) ?_)))
  show wpAny _ _ (newExc (.type "StopIteration") [] >>= _) _ _ _
  refine wpAny_bind ?_
  simp only [newExc, newTuple]
  refine wpAny_bind (wpAny_newObj_type ?_ (by size_fits))
  refine wpAny_bind (m := firstArgMember _ _) (wpAny_of_eq (a := Value.none) (by first | rfl | (simp only [firstArgMember]; rfl)) ?_)
  refine wpAny_newObj_type ?_ (by size_fits)
  have h1' : ((s.heap.update it (Obj.mapFields (·.setIfInBounds 0 Value.none)))).get? x1 = some o1 := (Heap.get?_update_other _ _ (Ne.symm hn)).trans h1
  refine raiseNew_hot ⟨hh, o1, vs1, Heap.get?_push_of_some _ (Heap.get?_push_of_some _ h1'), d1, c1⟩ (Nat.ne_of_lt (Heap.lt_size (Heap.get?_push_of_some _ h1'))) (Heap.get?_push_size _ rfl) rfl (by first | (simp; done) | (simp; omega) | (simp only [Array.size_append]; simp; omega)) ?_
  refine hE _ _ (fun b ob hb e => ?_) ⟨_, Heap.get?_update_self _ (Heap.get?_push_size _ rfl) rfl, rfl⟩
  have e1 : ((s.heap.update it (Obj.mapFields (·.setIfInBounds 0 Value.none)))).get? b = some ob := (Heap.get?_update_other _ _ (Ne.symm hb)).trans e
  rw [Heap.get?_update_other _ _ (Nat.ne_of_gt (Heap.lt_size (Heap.get?_push_of_some _ e1)))]
  exact Heap.get?_push_of_some _ (Heap.get?_push_of_some _ e1)
theorem next_tuple_endH {it t x1 : Addr} {i : Nat} {items : Array Value} {Q : Option Value → Shared → Prop} (hot : HotAt A x1 s.heap) (hn : x1 ≠ it)
    (hit : IsTupIter s.heap it t i) (ht : IsTup s.heap t items) (hx : items[i]? = none)
    (hQ : ∀ h', Heap.ExtBut it s.heap h' → Q none { s with heap := h' }) : wpAny (model prog w) A (pyNext (.ref it)) Q E s := by
  obtain ⟨o, ho, hc, hd⟩ := id hit
  obtain ⟨ol, hol, _, nl, hdl⟩ := ht
  obtain ⟨hh, o1, vs1, h1, d1, c1⟩ := hot
  unfold pyNext
  refine wpAny_bind (wpAny_attempt (wpAny_callSpecial?_slot (name := Str.ofString "__next__") hit.typeIs slot_tupleiter_next
    (wpAny_call_entry slot_tupleiter_next hit.typeIs entry_tupleiter_next ?_ (args_tupleiter_next _))))
  show wpAny _ _ (field (.ref it) 0 >>= _) _ _ s
  refine wpAny_bind (wpAny_field ho hd (x := .ref t) rfl ?_)
  show wpAny _ _ (if (Value.ref t == Value.none) = true then _ else _) _ _ s
  rw [if_neg (show ¬ ((Value.ref t == Value.none) = true) from Bool.false_ne_true)]
  show wpAny _ _ (field (.ref it) 1 >>= _) _ _ s
  refine wpAny_bind (wpAny_field ho hd (x := .int i 0) rfl ?_)
  show wpAny _ _ (seqItems? (.ref t) >>= _) _ _ s
  refine wpAny_bind (wpAny_seqItems hol hdl ?_)
  simp only [Int.toNat_natCast, hx]
  refine wpAny_bind (wpAny_rule (wpAny_bind (wpAny_setField ho hd (by simp) ?_)))
  show wpAny _ _ (newExc (.type "StopIteration") [] >>= _) _ _ _
  refine wpAny_bind ?_
  simp only [newExc, newTuple]
  refine wpAny_bind (wpAny_newObj_type ?_ (by size_fits))
  refine wpAny_bind (m := firstArgMember _ _) (wpAny_of_eq (a := Value.none) (by first | rfl | (simp only [firstArgMember]; rfl)) ?_)
  refine wpAny_newObj_type ?_ (by size_fits)
  have h1' : ((s.heap.update it (Obj.mapFields (·.setIfInBounds 0 Value.none)))).get? x1 = some o1 := (Heap.get?_update_other _ _ (Ne.symm hn)).trans h1
  refine raiseNew_hot ⟨hh, o1, vs1, Heap.get?_push_of_some _ (Heap.get?_push_of_some _ h1'), d1, c1⟩ (Nat.ne_of_lt (Heap.lt_size (Heap.get?_push_of_some _ h1'))) (Heap.get?_push_size _ rfl) rfl (by first | (simp; done) | (simp; omega) | (simp only [Array.size_append]; simp; omega)) ?_
  refine wpAny_bind (wpAny_isInstance (T := "StopIteration") (b := true) ⟨_, Heap.get?_update_self _ (Heap.get?_push_size _ rfl) rfl, rfl⟩ isSubtype_stop ?_)
  refine wpAny_pure (hQ _ fun b ob hb e => ?_)
  have e1 : ((s.heap.update it (Obj.mapFields (·.setIfInBounds 0 Value.none)))).get? b = some ob := (Heap.get?_update_other _ _ (Ne.symm hb)).trans e
  rw [Heap.get?_update_other _ _ (Nat.ne_of_gt (Heap.lt_size (Heap.get?_push_of_some _ e1)))]
  exact Heap.get?_push_of_some _ (Heap.get?_push_of_some _ e1)
theorem unpackItems_tupleH {t x1 : Addr} {items : Array Value} {Q : List Value → Shared → Prop} (hot : HotAt A x1 s.heap) (ht : IsTup s.heap t items)
    (hQ : ∀ h', Heap.ExtBut s.heap.objs.size s.heap h' → Q items.toList { s with heap := h' }) : wpAny (model prog w) A (unpackItems (.ref t) items.size none) Q E s := by
  have hlt : t ≠ s.heap.objs.size := by obtain ⟨o, ho, _⟩ := ht; exact Nat.ne_of_lt (Heap.lt_size ho)
  obtain ⟨hh, o1, vs1, h1, d1, c1⟩ := hot
  have hx1 : x1 ≠ s.heap.objs.size := Nat.ne_of_lt (Heap.lt_size h1)
  unfold unpackItems
  refine wpAny_bind ?_
  · unfold notIterableAtAll
    refine wpAny_bind (wpAny_specialOf ht.typeIs slot_tuple_iter.lookup ?_)
    refine wpAny_pure ?_
    simp only [Bool.false_eq_true, if_false]
    refine wpAny_bind (wpAny_holding (iter_tuple ht ?_))
    refine wpAny_bind (wpAny_holding (draw_tuple hlt items.size 0 _ _ ⟨_, Heap.get?_push_size _ rfl, rfl, rfl⟩ (ht.push _) (by omega) fun h₁ hit₁ hs₁ => ?_))
    have hall : List.take items.size (List.drop 0 items.toList) = items.toList := by
      rw [List.drop_zero]; exact List.take_of_length_le (by simp)
    rw [hall]
    rw [if_neg (by simp)]
    have ht₁ : IsTup h₁ t items := (ht.push _).extBut hs₁.extBut hlt
    refine wpAny_bind (wpAny_holding (next_tuple_endH (x1 := x1) ⟨hh, o1, vs1, hs₁.extBut _ _ hx1 (Heap.get?_push_of_some _ h1), d1, c1⟩ hx1 hit₁ ht₁ (by simp) fun h₂ he₂ => ?_))
    simp only [Option.isSome_none, Bool.false_eq_true, if_false]
    refine wpAny_pure (hQ h₂ fun b o hb e => he₂ b o hb (hs₁.extBut b o hb (Heap.get?_push_of_some _ e)))
theorem assign_Tuple_tupleH {env : PySem.Env} {elts : List Expr} {k} {pos : Pos} {t x1 : Addr} {items : Array Value} {Q : Unit → Shared → Prop} (hot : HotAt A x1 s.heap) (ht : IsTup s.heap t items)
    (hn : (assignEach elts env).length = items.size) (hstar : (assignEach elts env).findIdx? (·.1) = none)
    (h : ∀ h', Heap.ExtBut s.heap.objs.size s.heap h' → wpAny (model prog w) A (assignInOrder ((assignEach elts env).map (·.2)) items.toList) Q E { s with heap := h' }) :
    wpAny (model prog w) A (assign (.Tuple elts k pos) env (.ref t)) Q E s := by
  rw [assign_Tuple]
  refine wpAny_bind (wpAny_standAt ?_)
  unfold unpack
  rw [hn, hstar]
  exact wpAny_bind (wpAny_holding (unpackItems_tupleH hot ht h))
end
theorem pg_tupH {X : Cx} {es : List Expr} {k : Nat} {t : TGs} {n : Nat} {pos : Pos} (hc : HotC X) (h : PGs X es t)
    (hn : (assignEach es X.env).length = n := by rfl) (hst : (assignEach es X.env).findIdx? (·.1) = none := by rfl) : PG X (.Tuple es k pos) (gTup X.K n t) := by
  refine ⟨fun pins s σ H v u Q I r hw => ?_⟩
  obtain ⟨a, xs, e1, hq, hl, hw⟩ := hw
  subst e1
  cases r
  obtain ⟨its, rv, ht, _⟩ := I.tuple hq
  obtain ⟨x1, hot⟩ := hc.at I
  refine assign_Tuple_tupleH hot ht (by simp [hn, ← hl, rv.length]) hst fun h' hx => ?_
  have I1 : Inv X pins σ H { s with heap := h' } := I.kept (t' := s.toks) fun b o e => hx b o (Nat.ne_of_lt (Heap.lt_size e)) e
  exact h.run pins _ σ H xs _ Q I1 (by simpa using rv) hw
/-! ### zip of two lists -/
theorem draws_listH {prog : Program} {w : World} {A : Around} {x1 : Addr} (it l : Addr) (hne : l ≠ it) (hx : x1 ≠ it) (items : Array Value) :
    Draws prog w A it [it, l, x1] items.size (fun i v => items[i]? = some v) (fun i h => (h.IsListIter it l i ∧ h.IsList l items) ∧ HotAt A x1 h) where
  live := fun _ _ st => let ⟨o, ho, _⟩ := st.1.1; ⟨o, ho⟩
  frame := fun _ _ _ st hk => by
    obtain ⟨⟨s1, s2⟩, hh, o1, vs1, h1, d1, c1⟩ := st
    exact ⟨⟨s1.at fun o e => hk it (by simp) o e, s2.at fun o e => hk l (by simp) o e⟩, hh, o1, vs1, hk x1 (by simp) _ h1, d1, c1⟩
  item := fun i s Q E hi st hQ => by
    obtain ⟨⟨s1, s2⟩, hh, o1, vs1, h1, d1, c1⟩ := st
    refine wpAny_nextOf_list_item s1 s2 (x := items[i]) (by simp [hi]) fun h' hit' hs' => ?_
    exact hQ _ h' s.toks (by simp [hi]) ⟨⟨hit', s2.extBut hs'.extBut hne⟩, hh, o1, vs1, hs'.extBut _ _ hx h1, d1, c1⟩ hs'
  done := fun s Q E st hE => nextOf_list_endH st.2 hx st.1.1 st.1.2 (by simp) hE
/-- an iterator, while x1 is handled -/
structure TurnP (P : Program) (w : World) (K : PySem.W.Frag) (A : Around) (x1 : Addr) (tg : Expr) (J : It) (fp : List Addr) (it : Addr) (tn : Nat → Heap → Prop) : Prop where
  mem : it ∈ fp
  obj : ∀ i h, tn i h → ∀ b ∈ fp, ∃ o, h.get? b = some o ∧ ∀ v, o.data ≠ .cell v
  keep : ∀ i h h', tn i h → (∀ b ∈ fp, ∀ o, h.get? b = some o → h'.get? b = some o) → tn i h'
  item : ∀ (X : Cx), X.prog = P → X.w = w → X.K = K → X.A = A → ∀ (i : Nat) (pins : List (Addr × Obj)) (s : Shared) (σ : L2.St) (H : Hp) (E : Value → Shared → Prop), HotAt A x1 s.heap → Inv X pins σ H s → (∀ b ∈ fp, FpOk X pins H b) → tn i s.heap → J.go i H →
    wpAny (model P w) X.A (pyNext (.ref it)) (fun r s1 => ∃ u, r = some u ∧
      wpAny (model P w) X.A (letOwnedTupleGo tg (.ref it) u) (fun _ s2 => ∃ x H', Inv X pins σ H' s2 ∧ RelV x u ∧ J.yld i H x H' ∧ tn (i + 1) s2.heap ∧ ∀ b ∈ fp, H' b = none) E s1) E s
  done : ∀ (X : Cx), X.prog = P → X.w = w → X.K = K → X.A = A → ∀ (i : Nat) (pins : List (Addr × Obj)) (s : Shared) (σ : L2.St) (H : Hp) (E : Value → Shared → Prop), HotAt A x1 s.heap → Inv X pins σ H s → (∀ b ∈ fp, FpOk X pins H b) → tn i s.heap → J.stop i H →
    wpAny (model P w) X.A (pyNext (.ref it)) (fun r s1 => r = none ∧ Inv X pins σ H s1) E s
  self : ∀ (A : Around) (i : Nat) (s : Shared) (Q : Value → Shared → Prop) (E : Value → Shared → Prop), tn i s.heap → Q (.ref it) s → wpAny (model P w) A (pyIter (.ref it)) Q E s
theorem turn_zipH {P : Program} {w : World} {K : PySem.W.Frag} {A : Around} {x1 z TI TO i1 i2 a b : Addr} {elts : List Expr} {kk : Nat} {tpos : Pos} (S : ZipSep2 z TI TO i1 i2 [i1, a, x1] [i2, b, x1]) (n1 : a ≠ i1) (n2 : b ≠ i2) (m1 : x1 ≠ i1) (m2 : x1 ≠ i2) :
    TurnP P w K A x1 (.Tuple elts kk tpos) (ItzG K true true a b) [z, TI, TO, i1, i2] z (znT z TI TO i1 i2 a b true true) where
  mem := by simp
  obj := fun i h st c hc => znT_obj st c hc
  keep := fun i h h' st k => znT_keep st k
  item := by
    intro X hP hw hK hA i pins s σ H E hot I hf st hg
    subst hP hw hK hA
    obtain ⟨xs, ys, x, y, q1, q2, hx, hy⟩ := hg
    obtain ⟨its, r1, p1, _, l1⟩ := inv_sq I q1
    obtain ⟨its2, r2, p2, _, l2⟩ := inv_sq I q2
    have g1 : i < xs.length := (List.getElem?_eq_some_iff.mp hx).1
    have g2 : i < ys.length := (List.getElem?_eq_some_iff.mp hy).1
    exact zip_item I hf S (draws_listH (A := X.A.in1) i1 a n1 m1 its.toArray) (draws_listH (A := X.A.in1) i2 b n2 m2 its2.toArray) (fun _ _ q => q.1.1) (fun _ _ q => q.1.1) st ⟨⟨st.2.2.2.1, p1⟩, hot⟩ ⟨⟨st.2.2.2.2, p2⟩, hot⟩ q1 q2 r1 r2 (by omega) (by omega)
  done := by
    intro X hP hw hK hA i pins s σ H E hot I hf st hg
    subst hP hw hK hA
    obtain ⟨xs, ys, q1, q2, hi⟩ := hg
    obtain ⟨its, r1, p1, _, l1⟩ := inv_sq I q1
    obtain ⟨its2, r2, p2, _, l2⟩ := inv_sq I q2
    exact zip_done I hf S (draws_listH (A := X.A.in1) i1 a n1 m1 its.toArray) (draws_listH (A := X.A.in1) i2 b n2 m2 its2.toArray) st ⟨⟨st.2.2.2.1, p1⟩, hot⟩ ⟨⟨st.2.2.2.2, p2⟩, hot⟩ (by omega)
  self := fun A i s Q E st h => wpAny_pyIter_zip st.1 h
def PIEP (X : Cx) (x1 : Addr) (pins : List (Addr × Obj)) (σ : L2.St) (tg : Expr) (R : It → Hp → Prop) (itv : Value) (s2 : Shared) : Prop :=
  ∃ (it : Addr) (fp : List Addr) (tn : Nat → Heap → Prop) (J : It) (H' : Hp), itv = .ref it ∧ Inv X pins σ H' s2 ∧ TurnP X.prog X.w X.K X.A x1 tg J fp it tn ∧ tn 0 s2.heap ∧ (∀ b ∈ fp, FpOk X pins H' b) ∧ R J H'
structure PIP (X : Cx) (x1 : Addr) (tg iter : Expr) (wi : TI) : Prop where
  run : ∀ (pins : List (Addr × Obj)) (s : Shared) (σ : L2.St) (H : Hp) (R : It → Hp → Prop), Inv X pins σ H s → wi σ H R →
    wpAny (model X.prog X.w) X.A (eval iter X.env) (fun v s1 => wpAny (model X.prog X.w) X.A (pyIter v) (PIEP X x1 pins σ tg R) X.xe s1) X.xe s
def iZipL (K : PySem.W.Frag) (ta : TA) : TI := fun σ H R => ta σ H fun vs H1 => ∃ a b xs ys, vs = [.ref a, .ref b] ∧ SqL K H1 a xs ∧ SqL K H1 b ys ∧ R (ItzG K true true a b) H1
theorem pip_zip {X : Cx} {p1 : Addr × Obj} {e e2 : Expr} {ta : TA} {p pos tpos : Pos} {elts : List Expr} {kk : Nat} (hp : p1 ∈ X.pn) (hg : Gl X "zip") (hm : X.mg "zip" = none) (ha : PA X [e, e2] ta)
    (hs : starEach [e, e2] X.env = (false, eval e X.env) :: starEach [e2] X.env := by rfl) (hpl : (backTo pos (starEach [e2] X.env)).any (·.1) = false := by rfl) :
    PIP X p1.1 (.Tuple elts kk tpos) (.Call (.Name "zip" p) [e, e2] [] pos) (iZipL X.K ta) := by
  refine ⟨fun pins s σ H R I h => ?_⟩
  refine Call_ (ld_blt I hg hm PyProof.Rows.boot_zip (PyProof.Rows.callWith_type1 (thn (ha.run pos pins s σ H _ I h) fun us s1 ⟨vs, H1, I1, r1, q1⟩ => ?_) hs hpl))
  obtain ⟨a, b, xs, ys, ex, h1, h2, q⟩ := q1
  subst ex
  cases r1 with
  | cons r rr =>
    cases rr with
    | cons r' rr =>
      cases rr
      cases r
      cases r'
      have hx := I1.pin p1 (List.mem_append_left _ hp)
      obtain ⟨its, rv, q1, g1, _⟩ := inv_sq (k := true) I1 h1
      obtain ⟨its2, rv2, q2, g2, _⟩ := inv_sq (k := true) I1 h2
      have gx : p1.1 < s1.heap.objs.size := Heap.lt_size hx.1
      refine zip_begins2 (begins_sq true a its.toArray) (begins_sq true b its2.toArray) q1 q2 fun h' hz hTI hTO k1 k2 hsz hk => wpAny_pyIter_zip hz ?_
      refine ⟨s1.heap.objs.size + 4, [s1.heap.objs.size + 4, s1.heap.objs.size + 2, s1.heap.objs.size + 3, s1.heap.objs.size, s1.heap.objs.size + 1], _, _, H1, rfl, I1.kept (t' := s1.toks) hk,
        turn_zipH (zip_sep2 (fp1 := [a, p1.1]) (fp2 := [b, p1.1]) (fun c hc => ?_) (fun c hc => ?_)) (Nat.ne_of_lt g1) (Nat.ne_of_lt (Nat.lt_succ_of_lt g2)) (Nat.ne_of_lt gx) (Nat.ne_of_lt (Nat.lt_succ_of_lt gx)), ⟨hz, hTI, ⟨_, _, hTO⟩, itObj_is k1, itObj_is k2⟩, fun c hcm => ?_, q⟩
      · have e' : c = a ∨ c = p1.1 := by simpa using hc
        rcases e' with z | z
        · rw [z]; exact g1
        · rw [z]; exact gx
      · have e' : c = b ∨ c = p1.1 := by simpa using hc
        rcases e' with z | z
        · rw [z]; exact g2
        · rw [z]; exact gx
      · have e' : c = s1.heap.objs.size + 4 ∨ c = s1.heap.objs.size + 2 ∨ c = s1.heap.objs.size + 3 ∨ c = s1.heap.objs.size ∨ c = s1.heap.objs.size + 1 := by simpa using hcm
        have hle : s1.heap.objs.size ≤ c := by
          rcases e' with z | z | z | z | z
          · rw [z]; exact Nat.le_add_right _ _
          · rw [z]; exact Nat.le_add_right _ _
          · rw [z]; exact Nat.le_add_right _ _
          · rw [z]; exact Nat.le_refl _
          · rw [z]; exact Nat.le_add_right _ _
        exact I1.fpOk hle (I1.hok.fresh hle)
/-! ### a comprehension there -/
abbrev blkP (X : Cx) (s : Shared) (H : Hp) (scope : Scope) (cenv : PySem.Env) (fp : List Addr) : Cx := { X.blk s H scope cenv fp with pn := X.pn }
theorem cx_pn {X : Cx} (ok : X.Ok) (pn : List (Addr × Obj)) : ({ X with pn := pn } : Cx).Ok :=
  ⟨ok.mod, ok.kind, ok.glob, ok.blt, ok.above, ok.inj, ok.has, ok.cab, ok.hd, ok.frames, ok.stk, ok.exf, ok.bs, ok.bsz, ok.noex, ok.exfs, ok.funs, ok.frf⟩
theorem lc_coreH {X : Cx} {p1 : Addr × Obj} {pins : List (Addr × Obj)} {s : Shared} {σ : L2.St} {H : Hp} {Q : VK} {elt tg iter : Expr} {ifs : List Expr} {scope : Scope} {own : List (Str × Nat)} {pos pos' : Pos} {wi : TI} {g : TG} {tt : TT} {te : TE} {use : Option (Value → Sem Unit)} {Qf : Value → Shared → Prop}
    (hc : Hot1 X.A p1) (hpn : p1 ∈ X.pn) (hN : X.N.Nodup) (I : Inv X pins σ H s) (hi : PIP X p1.1 tg iter wi) (ok : BlkOk X.N X.env.scope scope own)
    (hg : ∀ (s : Shared) (H : Hp) (C : Addr) (cl : List (Str × Addr)) (fp : List Addr), PG (blkP X s H scope (compEnvC scope cl C X.env) fp) tg g) (ht : ∀ (s : Shared) (H : Hp) (C : Addr) (cl : List (Str × Addr)) (fp : List Addr), PTs (blkP X s H scope (compEnvC scope cl C X.env) fp) ifs tt)
    (he : ∀ (s : Shared) (H : Hp) (C : Addr) (cl : List (Str × Addr)) (fp : List Addr), PE (blkP X s H scope (compEnvC scope cl C X.env) fp) elt te) (hs : ∀ x, foldedSetIterable iter X.env x = pure x)
    (h : tLc wi g tt te (own.map (·.2)) σ H Q)
    (hRR : ∀ D C s' m H', Inv X pins σ H' s' → Q (.ref D) H' → s'.heap.Ns C m → FpOk X pins H' C → compPost (model X.prog X.w) X.A X.xe use Qf (.ref D) C (.ok .next) s') :
    wpAny (model X.prog X.w) X.A (comprehension (.ListComp elt [⟨tg, iter, ifs, 0⟩] scope pos) scope X.env pos' (newList []) false (eval iter X.env) use) Qf X.xe s := by
  have hfree : ∀ y ∈ scope.names, y.2 = .free → ∃ c, X.env.cells.lookup y.1 = some c := fun y hy e => by
    rcases ok.free y hy e with k | k
    · exact I.ok.has _ (.inl k)
    · exact I.ok.has _ (.inr k)
  refine wpAny_comprehension_free (use := use) rfl hs (closure_ok hfree) ok.kind (fun y hy e => by rw [ok.uniq y hy, e])
    (thn (hi.run pins s σ H _ I h) fun xv s1 hx => thn hx fun itv s2 h2 => ?_)
  obtain ⟨it, fp, tn, J, H2, e, I2, T, st2, f2, q⟩ := h2
  subst e
  refine wpAny_newObj_type (newEnv_comp ?_) (by show 0 ≤ sizeLine; decide)
  generalize hD : s2.heap.objs.size = D
  have hDn : H2 D = none := I2.hok.fresh (Nat.le_of_eq hD)
  obtain ⟨W, ⟨m0, w0⟩, turn⟩ := q D hDn
  -- the new list
  generalize hs3 : ({ s2 with heap := s2.heap.push { cls := .type "list", data := .seq ([] : List Value).toArray } } : Shared) = s3
  have I3 : Inv X pins σ (upd H2 D (.lst [])) s3 := by
    rw [← hs3]
    refine I2.laid (t' := s2.toks) (fun b o e => Heap.get?_push_of_some _ e) (Nat.le_of_eq hD) ⟨Nat.zero_le _, [], 0, .nil, ?_⟩
    rw [← hD]
    exact Heap.get?_push_size _ rfl
  have h3 : s3.heap = s2.heap.push { cls := .type "list", data := .seq ([] : List Value).toArray } := by rw [← hs3]
  have sz : ∀ b ∈ fp, b < s2.heap.objs.size := fun b hb => by
    obtain ⟨o, e, _⟩ := T.obj _ _ st2 b hb
    exact Heap.lt_size e
  have f3 : ∀ b ∈ fp, FpOk X pins (upd H2 D (.lst [])) b ∧ b < s3.heap.objs.size := fun b hb => by
    have hlt := sz b hb
    refine ⟨⟨?_, (f2 b hb).2⟩, by rw [h3, Heap.size_push]; exact Nat.lt_succ_of_lt hlt⟩
    rw [upd_ne (by rw [← hD]; exact Nat.ne_of_lt hlt)]
    exact (f2 b hb).1
  have st3 : tn 0 s3.heap := T.keep _ _ _ st2 fun b _ o e => by rw [h3]; exact Heap.get?_push_of_some _ e
  have I4' := block_start I3 ok hN f3
  have pg := hg s3 (upd H2 D (.lst [])) s3.heap.objs.size (cellsFrom (s3.heap.objs.size + 1) scope.names (cloFrom X.env.cells scope.names [])) fp
  have pt := ht s3 (upd H2 D (.lst [])) s3.heap.objs.size (cellsFrom (s3.heap.objs.size + 1) scope.names (cloFrom X.env.cells scope.names [])) fp
  have pe := he s3 (upd H2 D (.lst [])) s3.heap.objs.size (cellsFrom (s3.heap.objs.size + 1) scope.names (cloFrom X.env.cells scope.names [])) fp
  show codeAny _ _ (.compStart (.ListComp elt [⟨tg, iter, ifs, 0⟩] scope pos) 0 (.ref it) (.ref D) (compEnvC scope (cellsFrom (s3.heap.objs.size + 1) scope.names (cloFrom X.env.cells scope.names [])) s3.heap.objs.size X.env)) (compPost (model X.prog X.w) X.A X.xe use Qf (.ref D) s3.heap.objs.size) { s3 with heap := pushCells (s3.heap.push { cls := .type "dict", data := .dict #[] }) scope.names }
  have nfp : ∀ b ∈ fp, (upd H2 D (.lst [])) b = none := fun b hb => (f3 b hb).1.1
  generalize hce : compEnvC scope (cellsFrom (s3.heap.objs.size + 1) scope.names (cloFrom X.env.cells scope.names [])) s3.heap.objs.size X.env = ce at I4' pg pt pe ⊢
  have cL : ce.locals = s3.heap.objs.size := by subst hce; rfl
  generalize hH3 : upd H2 D (.lst []) = H3 at I3 I4' pg pt pe w0 nfp f3
  generalize hs4 : ({ s3 with heap := pushCells (s3.heap.push { cls := .type "dict", data := .dict #[] }) scope.names } : Shared) = s4 at I4' ⊢
  have st4 : tn 0 s4.heap := T.keep _ _ _ st3 fun b _ o e => by rw [← hs4]; exact pushCells_keeps _ _ _ _ (Heap.get?_push_of_some _ e)
  -- what is pinned stays pinned
  have I4 : Inv (blkP X s3 H3 scope ce fp) [] (L2.wipe σ (own.map (·.2))) H3 s4 := by
    refine ⟨cx_pn I4'.ok X.pn, I4'.os, I4'.bare, I4'.base, I4'.loc, I4'.cell, I4'.free, I4'.freeC, fun p hp => ?_, I4'.hok, I4'.len⟩
    have hp' : p ∈ X.pn := by simpa using (show p ∈ X.pn ++ ([] : List (Addr × Obj)) from hp)
    obtain ⟨a1, a2, a3, a4, a5⟩ := I3.pin p (List.mem_append_left _ hp')
    refine ⟨?_, a2, ?_, fun z => ?_, a5⟩
    · rw [← hs4]
      exact pushCells_keeps _ _ _ _ (Heap.get?_push_of_some _ a1)
    · show p.1 ≠ ce.locals
      rw [cL]
      exact Nat.ne_of_lt (Heap.lt_size a1)
    · rcases List.mem_cons.mp (I3.stkSub p.1 z) with z | z
      · exact a3 z
      · exact a4 z
  have hotAt : ∀ {pins' : List (Addr × Obj)} {σ' : L2.St} {H' : Hp} {s' : Shared}, Inv (blkP X s3 H3 scope ce fp) pins' σ' H' s' → HotAt X.A p1.1 s'.heap := fun {pins' σ' H' s'} I' => by
    obtain ⟨hh, v1, e1, c1⟩ := hc
    exact ⟨hh, p1.2, v1, (I'.pin p1 (List.mem_append_left _ hpn)).1, e1, c1⟩
  have stat : ∀ {σ' : L2.St} {H' : Hp} {s' : Shared}, Inv (blkP X s3 H3 scope ce fp) [] σ' H' s' → (∀ b ∈ fp, H' b = none) → ∀ b ∈ fp, FpOk (blkP X s3 H3 scope ce fp) [] H' b := fun {σ' H' s'} I' hn b hb =>
    ⟨hn b hb, (I'.ok.exf b hb).1, I'.ok.exfs b hb, .inl hb, fun x c e => (I'.ok.exf b hb).2 x c e, fun p hp => by
      have hp' : p ∈ X.pn := by simpa using (show p ∈ X.pn ++ ([] : List (Addr × Obj)) from hp)
      exact (f3 b hb).1.2.2.2.2.2 p (List.mem_append_left _ hp')⟩
  have loop : codeAny (model X.prog X.w) X.A (.compLoop (.ListComp elt [⟨tg, iter, ifs, 0⟩] scope pos) 0 (.ref it) (.ref D) ce) (compPost (model X.prog X.w) X.A X.xe use Qf (.ref D) s3.heap.objs.size) s4 := by
    refine compLoop_any (fun n s' => ∃ i H', Inv (blkP X s3 H3 scope ce fp) [] (L2.wipe σ (own.map (·.2))) H' s' ∧ tn i s'.heap ∧ (∀ b ∈ fp, H' b = none) ∧ W i n H') ?_ m0 ⟨0, H3, I4, st4, nfp, w0⟩
    rintro n s5 ⟨i, H5, I5, st5, n5, w5⟩
    rcases turn i n H5 w5 with ⟨stop, qq⟩ | ⟨go, Nx, hNx, step⟩
    · have td := T.done (blkP X s3 H3 scope ce fp) rfl rfl rfl rfl i [] s5 _ H5 (fun _ _ => False) (hotAt I5) I5 (stat I5 n5) st5 stop
      refine thnF td fun r s6 ⟨hr, I6⟩ => ?_
      subst hr
      -- back in the def's context
      have I7 : Inv X pins σ H5 s6 := I3.call' (ch := fp) I6.os I6.base I6.hok I6.bare fun b hb => ⟨(f3 b hb).1.2.2.2.1, (f3 b hb).1.2.1, (f3 b hb).1.2.2.2.2.1, (f3 b hb).1.2.2.2.2.2⟩
      have nC : H5 s3.heap.objs.size = none := by
        have z : H5 ce.locals = none := I6.free
        rw [cL] at z
        exact z
      obtain ⟨m, hn, _⟩ := I6.loc
      have hn : s6.heap.Ns ce.locals m := hn
      rw [cL] at hn
      exact hRR D s3.heap.objs.size s6 m H5 I7 qq hn (I3.fpOk (Nat.le_refl _) nC)
    · have ti := T.item (blkP X s3 H3 scope ce fp) rfl rfl rfl rfl i [] s5 _ H5 (fun _ _ => False) (hotAt I5) I5 (stat I5 n5) st5 go
      refine thnF ti fun r s6 ⟨u, hr, h6⟩ => ?_
      subst hr
      refine thnF h6 fun _ s7 ⟨x, H7, I7, r7, y7, st7, n7⟩ => ?_
      have I7' := I7.pinned (stat I7 n7) (T.obj _ _ st7)
      refine thnF (pg.run _ s7 _ H7 x u _ I7' r7 (step x H7 y7)) fun _ s8 ⟨σ8, H8, I8, hw8, q8⟩ => ?_
      refine thnF (pt.run _ s8 σ8 H8 _ I8 q8) fun b s9 ⟨H9, I9, q9⟩ => ?_
      -- the turn's end
      have fin : ∀ {s' : Shared} {H' : Hp}, Inv (blkP X s3 H3 scope ce fp) ([] ++ pinsAt fp s7.heap) σ8 H' s' → Nx H' → ∃ m, m < n ∧ ∃ i H', Inv (blkP X s3 H3 scope ce fp) [] (L2.wipe σ (own.map (·.2))) H' s' ∧ tn i s'.heap ∧ (∀ b ∈ fp, H' b = none) ∧ W i m H' := fun {s' H'} I' nx => by
        obtain ⟨m', hm, w'⟩ := hNx H' nx
        have pin' : ∀ b ∈ fp, ∀ o, s7.heap.get? b = some o → s'.heap.get? b = some o ∧ H' b = none := fun b hb o e =>
          let z := I'.pin (b, o) (List.mem_append_right _ (List.mem_append_right _ (mem_pinsAt hb e)))
          ⟨z.1, z.2.1⟩
        have hl : (L2.wipe σ (own.map (·.2))).length = σ8.length := by rw [← hw8, wipe_length]
        refine ⟨m', hm, i + 1, H', (I'.unpinned (pins := [])).weak hl (fun j v e => ?_), T.keep _ _ _ st7 fun b hb o e => (pin' b hb o e).1, fun b hb => ?_, w'⟩
        · rw [← hw8] at e
          exact (wipe_some e).1
        · obtain ⟨o, e, _⟩ := T.obj _ _ st7 b hb
          exact (pin' b hb o e).2
      cases b with
      | false =>
        simp only [Bool.false_eq_true, if_false] at q9 ⊢
        exact fin I9 q9
      | true =>
        simp only [if_true] at q9 ⊢
        refine thnF (pe.run _ s9 σ8 H9 _ I9 q9) fun z s10 ⟨yv, H10, I10, r10, acc, hD10, hz10, nx⟩ => ?_
        exact app_ok (X := blkP X s3 H3 scope ce fp) I10 hD10 hz10 r10 fun s11 I11 => fin I11 nx
  exact codeAny_compStart_list loop (T.self X.A 0 _ _ _ st4 loop)
theorem pe_lcH {X : Cx} {p1 : Addr × Obj} {elt tg iter : Expr} {ifs : List Expr} {scope : Scope} {own : List (Str × Nat)} {pos : Pos} {wi : TI} {g : TG} {tt : TT} {te : TE} (hc : Hot1 X.A p1) (hpn : p1 ∈ X.pn) (hN : X.N.Nodup) (hi : PIP X p1.1 tg iter wi) (ok : BlkOk X.N X.env.scope scope own)
    (hg : ∀ (s : Shared) (H : Hp) (C : Addr) (cl : List (Str × Addr)) (fp : List Addr), PG (blkP X s H scope (compEnvC scope cl C X.env) fp) tg g) (ht : ∀ (s : Shared) (H : Hp) (C : Addr) (cl : List (Str × Addr)) (fp : List Addr), PTs (blkP X s H scope (compEnvC scope cl C X.env) fp) ifs tt)
    (he : ∀ (s : Shared) (H : Hp) (C : Addr) (cl : List (Str × Addr)) (fp : List Addr), PE (blkP X s H scope (compEnvC scope cl C X.env) fp) elt te) (hs : ∀ x, foldedSetIterable iter X.env x = pure x := by intro _; rfl) :
    PE X (.ListComp elt [⟨tg, iter, ifs, 0⟩] scope pos) (tLc wi g tt te (own.map (·.2))) := by
  refine ⟨fun pins s σ H Q I h => ?_⟩
  rw [eval_ListComp]
  refine lc_coreH hc hpn hN I hi ok hg ht he hs h fun D C s' m H' I' q hn f => ⟨m, hn, fun h'' sb => ?_⟩
  obtain ⟨f0, f1, f2, f3, f4, f5⟩ := f
  exact ⟨.ref D, H', I'.turned (t' := s'.toks) (fun b o hb e => (sb.2 b hb).trans e) f0 f1 f3 f4 f5, rfl, q⟩
end Dt

set_option maxHeartbeats 4000000
namespace Dt
open PySem PySem.Spec PyProof.Rows L2 HotX L2H LamX
/-! ### split, join -/
def strD : D → M Unit
  | .str _ => M.pure ()
  | _ => M.bad
def sStr2 (op : D → D → M D) (F G : SE) : SE := fun env => F env >>= fun x => strD x >>= fun _ => G env >>= fun y => op x y
def bSplit : D → D → M D
  | .str a, .str b => if (b.length == 0) = false ∧ a.length ≤ 1000000 then M.pure (.lst ((Txt.split a b).map D.str)) else M.bad
  | _, _ => M.bad
def strsD : List D → Option (List Str)
  | [] => some []
  | .str b :: ds => (strsD ds).map (b :: ·)
  | _ => none
def joinO (a : Str) : Option (List Str) → M D
  | some ys => if (ys.map (·.length)).sum + ys.length * a.length ≤ 16777216 then M.pure (.str (Txt.join a ys)) else M.bad
  | none => M.bad
def bJoin : D → D → M D
  | .str a, .lst ds => joinO a (strsD ds)
  | .str a, .tup ds => joinO a (strsD ds)
  | _, _ => M.bad
theorem strsD_reps {K : PySem.W.Frag} {r : Rho} : ∀ {ds : List D} {vs : List V} {bs : List Str}, Reps K r vs ds → strsD ds = some bs → vs = bs.map V.str
  | [], _, _, h, e => by
    cases h
    cases e
    rfl
  | d :: ds, _, bs, h, e => by
    cases h with
    | cons p q =>
      cases d with
      | str b =>
        have e' : (strsD ds).map (b :: ·) = some bs := e
        cases e2 : strsD ds with
        | none =>
          rw [e2] at e'
          cases e'
        | some cs =>
          rw [e2] at e'
          have e3 : b :: cs = bs := Option.some.inj e'
          rw [← e3, p.s, strsD_reps q e2]
          rfl
      | _ => cases e
theorem reps_strs {K : PySem.W.Frag} {r : Rho} : ∀ ys : List Str, Reps K r (ys.map V.str) (ys.map D.str)
  | [] => .nil
  | y :: ys => .cons (.str y) (reps_strs ys)
section
variable {X : Cx} {T : List (Addr × Str)} {mg : Str → Option Value} {E : XK} {o e : Expr} {F G : SE} {pos apos : Pos}
theorem strD_at {K : PySem.W.Frag} {r : Rho} {st : Sto} {x : D} {f : Unit → M D} {Q : VK} (h : Aft (Rep K) K T mg E r ((strD x >>= f) st) Q) : ∃ a, x = .str a ∧ Aft (Rep K) K T mg E r (f () st) Q := by
  cases x with
  | str a => exact ⟨a, rfl, h⟩
  | _ => exact False.elim h
theorem d_split (ho : PE X o (rdE X.K T mg E F)) (he : PE X e (rdE X.K T mg E G)) (hs : starEach [e] X.env = [(false, eval e X.env)] := by rfl) (hbase : attributeBase o "split" X.env (eval o X.env) = eval o X.env := by rfl) (hline : (apos.endLine == pos.line) = true := by rfl) :
    PE X (.Call (.Attribute o "split" apos) [e] [] pos) (rdE X.K T mg E (sStr2 bSplit F G)) :=
  peI (pe_split ho he hs hbase hline) fun σ H Q h => rd.bind (G := fun x env => strD x >>= fun _ => G env >>= fun y => bSplit x y) h fun b r env st x v H1 R p q => by
    obtain ⟨a, rfl, q⟩ := strD_at q
    refine ⟨⟨a, p.s⟩, b, r, env, st, R, Aft.bind (f := fun y => bSplit (.str a) y) q fun y st2 w H2 r2 l S p2 q2 => ?_⟩
    cases y with
    | str c =>
      have h' : Aft (Rep X.K) X.K T mg E r2 ((if (c.length == 0) = false ∧ a.length ≤ 1000000 then M.pure (.lst ((Txt.split a c).map D.str)) else M.bad : M D) st2) Q := q2
      split at h'
      · rename_i hz
        exact ⟨a, c, p.s, by rw [p2.s], hz.1, Nat.le_trans (Nat.add_le_add_right hz.2 2) (by decide), new_lst S (reps_strs _) h'⟩
      · exact False.elim h'
    | _ => exact False.elim q2
theorem d_join (ho : PE X o (rdE X.K T mg E F)) (he : PE X e (rdE X.K T mg E G)) (hs : starEach [e] X.env = [(false, eval e X.env)] := by rfl) (hbase : attributeBase o "join" X.env (eval o X.env) = eval o X.env := by rfl) (hline : (apos.endLine == pos.line) = true := by rfl) :
    PE X (.Call (.Attribute o "join" apos) [e] [] pos) (rdE X.K T mg E (sStr2 bJoin F G)) :=
  peI (pe_join ho he hs hbase hline) fun σ H Q h => rd.bind (G := fun x env => strD x >>= fun _ => G env >>= fun y => bJoin x y) h fun b r env st x v H1 R p q => by
    obtain ⟨a, rfl, q⟩ := strD_at q
    refine ⟨⟨a, p.s⟩, b, r, env, st, R, Aft.bind (f := fun y => bJoin (.str a) y) q fun y st2 w H2 r2 l S p2 q2 => ?_⟩
    have key : ∀ {ds : List D} {vs : List V}, Reps X.K r2 vs ds → Aft (Rep X.K) X.K T mg E r2 (joinO a (strsD ds) st2) Q → ∃ ys : List Str, vs = ys.map V.str ∧ (ys.map (·.length)).sum + ys.length * a.length ≤ 16777216 ∧ Q (.str (Txt.join a ys)) H2 := fun {ds vs} hr h' => by
      cases e : strsD ds with
      | none =>
        rw [e] at h'
        exact False.elim h'
      | some ys =>
        rw [e] at h'
        have h2 : Aft (Rep X.K) X.K T mg E r2 ((if (ys.map (·.length)).sum + ys.length * a.length ≤ 16777216 then M.pure (.str (Txt.join a ys)) else M.bad : M D) st2) Q := h'
        split at h2
        · rename_i hz
          exact ⟨ys, strsD_reps hr e, hz, aft_same h2 S (.str _)⟩
        · exact False.elim h2
    cases y with
    | lst ds =>
      obtain ⟨c, vs, rfl, hc, rc⟩ := p2.l
      obtain ⟨ys, e1, e2, e3⟩ := key rc q2
      exact ⟨a, c, ys, p.s, rfl, .inl (by rw [← e1]; exact sqL_mono S.low hc), e2, e3⟩
    | tup ds =>
      obtain ⟨c, vs, rfl, hc, rc⟩ := p2.t
      obtain ⟨ys, e1, e2, e3⟩ := key rc q2
      exact ⟨a, c, ys, p.s, rfl, .inr (by rw [← e1]; exact sqT_mono S.low hc), e2, e3⟩
    | _ => exact False.elim q2
end
/-! ### zip of two lists, comprehensions, where an exception is handled -/
def itemsL : D → M (List D)
  | .lst ds => M.pure ds
  | _ => M.bad
def zipDL : List D → M (List D)
  | [x, y] => itemsL x >>= fun xs => itemsL y >>= fun ys => M.pure (zipL xs ys)
  | _ => M.bad
def iZipLs (Fs : SA) : SA := fun env => Fs env >>= zipDL
theorem pipI {X : Cx} {x1 : Addr} {tg it : Expr} {t t' : TI} (h : PIP X x1 tg it t') (w : ∀ σ H R, t σ H R → t' σ H R) : PIP X x1 tg it t := ⟨fun pins s σ H R I q => h.run pins s σ H R I (w σ H R q)⟩
section
variable {X : Cx} {T : List (Addr × Str)} {mg : Str → Option Value} {E : XK} {a c e elt tg iter : Expr} {F G : SE} {Fs : SA} {p pos tpos : Pos} {elts : List Expr} {kk : Nat} {p1 : Addr × Obj} {ifs : List Expr} {src : SA} {t : Tg} {I : SB} {scope : Scope} {vs : List Nat}
theorem dip_zip (hp : p1 ∈ X.pn) (hg : Gl X "zip") (hm : X.mg "zip" = none) (ha : DA X T mg E [a, c] Fs) (hs : starEach [a, c] X.env = (false, eval a X.env) :: starEach [c] X.env := by rfl) (hpl : (backTo pos (starEach [c] X.env)).any (·.1) = false := by rfl) :
    PIP X p1.1 (.Tuple elts kk tpos) (.Call (.Name "zip" p) [a, c] [] pos) (rdI X.K T mg E (iZipLs Fs)) :=
  pipI (pip_zip hp hg hm ha.pa hs hpl) fun σ H R h => rd.bind (G := fun xs _ => zipDL xs) h fun b r env st xs vs H1 Rl p q => by
    rcases xs with _ | ⟨d, _ | ⟨d2, _ | ⟨d3, x⟩⟩⟩
    · exact q.elim
    · exact q.elim
    · obtain ⟨v, w, rfl, p1, p2⟩ := p.i2
      cases d with
      | lst xs =>
        cases d2 with
        | lst ys =>
          obtain ⟨a1, xs1, rfl, g1, r1⟩ := p1.l
          obtain ⟨a2, xs2, rfl, g2, r2⟩ := p2.l
          have q' : Aft (fun r J ds => ItOk X.K T r J ds) X.K T mg E r (.ok (zipL xs ys) st) R := q
          exact ⟨a1, a2, xs1, xs2, rfl, sqL_mono Rl.s.low g1, sqL_mono Rl.s.low g2, q' _ H1 r (.refl r) Rl.s (itok_zip (k1 := true) (k2 := true) g1 g2 r1 r2)⟩
        | _ => exact q.elim
      | _ => exact q.elim
    · exact q.elim
theorem d_compH (own : List (Str × Nat)) (hc : Hot1 X.A p1) (hpn : p1 ∈ X.pn) (hN : X.N.Nodup) (hi : PIP X p1.1 tg iter (rdI X.K T mg E src)) (ok : BlkOk X.N X.env.scope scope own)
    (hg : ∀ (s : Shared) (H : Hp) (C : Addr) (cl : List (Str × Addr)) (fp : List Addr), PG (blkP X s H scope (compEnvC scope cl C X.env) fp) tg (t.g X.K)) (ht : ∀ (s : Shared) (H : Hp) (C : Addr) (cl : List (Str × Addr)) (fp : List Addr), PTs (blkP X s H scope (compEnvC scope cl C X.env) fp) ifs (rdT X.K T mg EF I))
    (he : ∀ (s : Shared) (H : Hp) (C : Addr) (cl : List (Str × Addr)) (fp : List Addr), PE (blkP X s H scope (compEnvC scope cl C X.env) fp) elt (rdE X.K T mg EF G)) (hv : own.map (·.2) = vs := by rfl) (hl : ∀ i ∈ t.slots, i ∈ own.map (·.2) := by decide)
    (hs : ∀ x, foldedSetIterable iter X.env x = pure x := by intro _; rfl) : PE X (.ListComp elt [⟨tg, iter, ifs, 0⟩] scope pos) (rdE X.K T mg E (sComp src t vs I G)) := by
  subst hv
  exact peI (pe_lcH hc hpn hN hi ok hg ht he hs) (lc_read (fun _ _ _ h => h) hl)
end
/-! ### isinstance of the exception that is handled -/
def rIsP (K : PySem.W.Frag) (D a : Addr) : List V → Hp → VK → Prop := fun xs H Q => ∃ (c : V) (cv : Value) (b : Bool), xs = [.ref a, c] ∧ (∀ u, RelV c u → u = cv) ∧ PySem.W.kitOne K (.ref D) cv = some b ∧ Q (.bl b) H
theorem call_isP {X : Cx} {a D : Addr} {oe : Obj} (hp : (a, oe) ∈ X.pn) (C : ExcC X.K D) (hz : Zc (.ref D) none oe) (hf : ∃ vs, oe.data = .fields vs) : CallR X (.builtin "isinstance") (rIsP X.K D a) := by
  intro pins s σ H xs us Q I r h
  obtain ⟨c, cv, b, rfl, hcv, e, q⟩ := h
  cases r with
  | cons rx rr =>
    cases rr with
    | cons rt rr =>
      cases rr
      cases rx
      have ec := hcv _ rt
      subst ec
      obtain ⟨hget, _⟩ := I.pin (a, oe) (List.mem_append.mpr (.inl hp))
      obtain ⟨vs, hv⟩ := hf
      have J : PySem.W.InstAt s.heap a oe D none := by
        obtain ⟨oc, od, oda, osl⟩ := oe
        obtain ⟨h1, h2⟩ := hz
        dsimp only at h1 h2 hv
        subst h1 h2 hv
        exact ⟨hget, rfl, rfl, trivial⟩
      exact PySem.W.kia_one (PySem.W.handS_kitx_exc C.hg C.hk C.hs C.hd C.ha C.hn C.ht C.hm) I.kIn J e (fun z => nomatch z) fun tk => ⟨.bl b, H, I.kept (t' := tk) fun _ _ z => z, rfl, q⟩
/-- isinstance(e, C), e the exception at a in slot i; the answer k -/
def sIsP (i : Nat) (a : Addr) (k : Bool) : SE := fun env => match env[i]? with
  | some (.va (.adr b)) => if b = a then M.pure (.bl k) else M.bad
  | _ => M.bad
section
variable {X : Cx} {T : List (Addr × Str)} {mg : Str → Option Value} {E : XK} {p p2 p3 pos : Pos} {x cn : Str} {a Dc : Addr} {oe : Obj}
theorem isp_read {K : PySem.W.Frag} {i : Nat} {k : Bool} {c : V} {cv : Value} (hcv : ∀ u, RelV c u → u = cv) (hk : PySem.W.kitOne K (.ref Dc) cv = some k) (σ : L2.St) (H : Hp) (Q : VK) (h : rdE K T mg E (sIsP i a k) σ H Q) : tCB (rIsP K Dc a) (tCons (tVar i) (tCons (tC c) tNil)) σ H Q := by
  obtain ⟨b, r, env, st, R, h⟩ := h
  unfold sIsP at h
  cases e : env[i]? with
  | none =>
    rw [e] at h
    exact h.elim
  | some s =>
    rw [e] at h
    cases s with
    | no => exact h.elim
    | ow ds => exact h.elim
    | va d =>
      cases d with
      | adr b2 =>
        have h' : Aft (Rep K) K T mg E r ((if b2 = a then M.pure (.bl k) else M.bad : M D) st) Q := h
        split at h'
        · rename_i hb
          subst hb
          obtain ⟨v, h1, h2⟩ := R.val i _ e
          cases h2
          exact ⟨_, h1, c, cv, k, rfl, hcv, hk, aft_same h' R.s (.bl k)⟩
        · exact False.elim h'
      | _ => exact h.elim
theorem d_isP (i : Nat) {k : Bool} {C : Addr} (hp : (a, oe) ∈ X.pn) (XC : ExcC X.K Dc) (hz : Zc (.ref Dc) none oe) (hf : ∃ vs, oe.data = .fields vs) (hk : PySem.W.kitOne X.K (.ref Dc) (.ref C) = some k) (hg : Gl X "isinstance") (hm : X.mg "isinstance" = none) (hgc : Gl X cn) (hmc : X.mg cn = some (.ref C))
    (hN : X.N[i]? = some x) (hv : Vis X.env.scope x) (hd : (x == ("__debug__" : Str)) = false) (hcd : (x == ("__classdict__" : Str)) = false) (hdb : (cn == ("__debug__" : Str)) = false)
    (hs : starEach [.Name x p3, .Name cn p2] X.env = (false, eval (.Name x p3) X.env) :: starEach [.Name cn p2] X.env := by rfl) (hs2 : starEach [.Name cn p2] X.env = (false, eval (.Name cn p2) X.env) :: starEach [] X.env := by rfl) (hpl : (backTo pos (starEach [.Name cn p2] X.env)).any (·.1) = false := by rfl) :
    PE X (.Call (.Name "isinstance" p) [.Name x p3, .Name cn p2] [] pos) (rdE X.K T mg E (sIsP i a k)) :=
  peI (pe_callB (call_isP hp XC hz hf) hg hm boot_isinstance (pa_cons (pe_var hN hv hd hcd) (pa_cons (pe_glob (v := .ref C) hgc hmc rfl hdb) pa_nil hs2) hs) (by decide) (by decide) hs hpl) (isp_read (fun u r => r) hk)
theorem d_isPB (i : Nat) {k : Bool} {ty : String} (hp : (a, oe) ∈ X.pn) (XC : ExcC X.K Dc) (hz : Zc (.ref Dc) none oe) (hf : ∃ vs, oe.data = .fields vs) (hk : PySem.W.kitOne X.K (.ref Dc) (.type ty) = some k) (hg : Gl X "isinstance") (hm : X.mg "isinstance" = none) (hgc : Gl X cn) (hmc : X.mg cn = none) (hvc : bootBuiltins cn = some (.type ty))
    (hN : X.N[i]? = some x) (hv : Vis X.env.scope x) (hd : (x == ("__debug__" : Str)) = false) (hcd : (x == ("__classdict__" : Str)) = false) (hn : cn ≠ "__name__") (hdb : (cn == ("__debug__" : Str)) = false)
    (hs : starEach [.Name x p3, .Name cn p2] X.env = (false, eval (.Name x p3) X.env) :: starEach [.Name cn p2] X.env := by rfl) (hs2 : starEach [.Name cn p2] X.env = (false, eval (.Name cn p2) X.env) :: starEach [] X.env := by rfl) (hpl : (backTo pos (starEach [.Name cn p2] X.env)).any (·.1) = false := by rfl) :
    PE X (.Call (.Name "isinstance" p) [.Name x p3, .Name cn p2] [] pos) (rdE X.K T mg E (sIsP i a k)) :=
  peI (pe_callB (call_isP hp XC hz hf) hg hm boot_isinstance (pa_cons (pe_var hN hv hd hcd) (pa_cons (pe_bltn (v := .ty ty) hgc hmc hvc rfl hn hdb) pa_nil hs2) hs) (by decide) (by decide) hs hpl) (isp_read (fun u r => r) hk)
end
/-! ### a def called there, its promise told of the exception -/
structure FnP (P : Program) (w : World) (K : PySem.W.Frag) (mg : Str → Option Value) (base : Heap) (k : Nat) (f : Addr) (fd : FuncData) (ps : List Str) (sp : Addr × Obj → Sp) : Prop where
  len : ∀ p vs H Q E, sp p vs H Q E → vs.length = ps.length
  run : ∀ (A : Around) (outer : List PySem.Env) (s : Shared) (H : Hp) (args : Args) (us : List Value) (vs : List V) (Q : VK) (E : XK) (p : Addr × Obj), RoomH k A → Hot1 A p → PinOk outer H s p → Env0 P w K mg base A outer s H → BindsTo s fd args (ps.zip us) → Vals vs us → sp p vs H Q E →
    codeAny (model P w) A (.call (.ref f) args) (CR C8.CX0 outer P w H s Q E) s
theorem fn_ofP {P : Program} {w : World} {K : PySem.W.Frag} {mg : Str → Option Value} {base : Heap} {k : Nat} {f : Addr} {name qual : Str} {params : Arguments} {body : List Stmt} {scope : Scope} {dV kV doc pm cdv ct oc : Value} {an od : Option Addr}
    {osl : Array (Option Value)} {N ps : List Str} {sp : Addr × Obj → Sp} (lk : K.lookup f = some ⟨oc, od, .func (PySem.W.fnOf name qual params body scope dV kV doc pm an cdv ct), osl⟩) (hcd : PySem.W.codeIn K cdv qual = true) (S : FnScope N ps scope)
    (len : ∀ p vs H Q E, sp p vs H Q E → vs.length = ps.length)
    (hbody : ∀ (A : Around) (outer : List PySem.Env) (s : Shared) (H : Hp) (vs : List V) (Q : VK) (E : XK) (p : Addr × Obj), Hot1 A p → RoomH k (A.deeper (envOfC qual scope s.heap.objs.size f cdv)) → sp p vs H Q E →
      ∃ t, PSs (cxH C8.CX0 P w K mg base N qual scope f cdv A outer s H E p) body t ∧ t { nx := fun _ H' => Q .non H', rt := Q } (L2.start N vs) H) :
    FnP P w K mg base (k + 1) f (PySem.W.fnOf name qual params body scope dV kV doc pm an cdv ct) ps sp := by
  refine ⟨len, fun A outer s H args us vs Q E p hr hot hpin e0 hb r hsp => ?_⟩
  have hl := len _ _ _ _ _ hsp
  have KX : K.In s.heap := e0.mod.kin.keeps fun b o e => (e0.bs b o e).1
  have lim : s.heap.NoLimit := e0.mod.nolimit.keeps fun b o e => (e0.bs b o e).1
  have hkind : ∀ y ∈ ps.zip us, scope.names.lookup y.1 = some .local ∨ (scope.names.lookup y.1 = some .cell ∧ ((cellsFrom (s.heap.objs.size + 1) scope.names []).lookup y.1).isSome = true) := fun ⟨n, v⟩ hy => by
    rcases S.par n (List.of_mem_zip hy).1 with q | q
    · exact .inl q
    · exact .inr ⟨q, PySem.W.cellsFrom_some _ _ _ (.inl q)⟩
  refine codeAny_call_function hr.depth (KX _ _ lk) rfl S.co S.gen rfl (PySem.W.codeRec_of KX hcd) (hb _ _ _ _ ?_)
  refine wpAny_newFunctionEnv_cells S.kind hkind fun env he s1 x => ?_
  subst he
  refine ⟨lim.keeps x.toInCall.keep, codeAny_func ?_⟩
  obtain ⟨t, ht, hq⟩ := hbody A outer s H vs Q E p hot (hr.deeper _) hsp
  have I : Inv (cxH C8.CX0 P w K mg base N qual scope f cdv A outer s H E p) [] (L2.start N vs) H s1 := inv_startH S hpin e0 hl r x
  refine wpAny_mono (ht.run [] s1 (L2.start N vs) H _ I hq) (fun fl s' hs => ?_) fun e s' hs => hs
  have fin : ∀ {σ' : L2.St} {H' : Hp} {v : V} {u : Value}, Inv (cxH C8.CX0 P w K mg base N qual scope f cdv A outer s H E p) [] σ' H' s' → RelV v u → Q v H' → CE outer P w H s Q u s' :=
    fun {σ' H' v u} J rv q => ⟨v, H', J.os, J.bare, J.base, J.hok, rv, q⟩
  cases fl with
  | ret u =>
    obtain ⟨v, σ', H', J, rv, q⟩ := hs
    exact fin J rv q
  | next =>
    obtain ⟨σ', H', J, q⟩ := hs
    exact fin (v := V.non) (u := Value.none) J rfl q
  | brk =>
    obtain ⟨_, _, _, q⟩ := hs
    exact False.elim q
  | cont =>
    obtain ⟨_, _, _, q⟩ := hs
    exact False.elim q
theorem run_fnP {X : Cx} {k : Nat} {f : Addr} {fd : FuncData} {ps : List Str} {sp : Addr × Obj → Sp} {pins : List (Addr × Obj)} {σ : L2.St} {H : Hp} {s : Shared} {Q : VK} {us : List Value} {vs : List V} {p : Addr × Obj} (F : FnP X.prog X.w X.K X.mg X.base k f fd ps sp) (hr : RoomH k X.A) (hot : Hot1 X.A p) (hp : p ∈ X.pn) (hb : Binds X.K fd ps [])
    (I : Inv X pins σ H s) (r : Vals vs us) (h : sp p vs H Q (fun _ _ _ => False)) : wpAny (model X.prog X.w) X.A (call (.ref f) us) (EP X pins σ Q) X.xe s := by
  have hl : us.length = ps.length := by rw [← r.length]; exact F.len _ _ _ _ _ h
  have b := hb s us I.kIn (by rw [List.append_nil]; exact hl)
  rw [List.append_nil] at b
  have P1 := I.pin p (List.mem_append_left _ hp)
  have hpin : PinOk X.stack H s p := ⟨P1.1, P1.2.1, fun hm => (List.mem_cons.mp (I.stkSub p.1 hm)).elim P1.2.2.1 P1.2.2.2.1, P1.2.2.2.2⟩
  refine wpAny_call (codeAny_mono (F.run X.A X.stack s H ⟨us, []⟩ us vs Q (fun _ _ _ => False) p hr hot hpin I.env0 b r h) fun r s' hq => ?_)
  cases r with
  | error e => exact (show False from hq).elim
  | ok fl =>
    cases fl with
    | ret u => exact I.after hq
    | next => exact False.elim hq
    | brk => exact False.elim hq
    | cont => exact False.elim hq
theorem pe_callP {X : Cx} {k : Nat} {f : Addr} {fd : FuncData} {ps : List Str} {sp : Addr × Obj → Sp} {p : Addr × Obj} {x : Str} {q pos : Pos} {e : Expr} {es : List Expr} {t : TA} (F : FnP X.prog X.w X.K X.mg X.base k f fd ps sp) (hr : RoomH k X.A) (hot : Hot1 X.A p) (hp : p ∈ X.pn) (hg : Gl X x) (hm : X.mg x = some (.ref f)) (hk : PySem.W.keepIn X.K (.ref f) = true) (hb : Binds X.K fd ps [])
    (ha : PA X (e :: es) t) (hdb : (x == ("__debug__" : Str)) = false := by decide) (he : starEach (e :: es) X.env = (false, eval e X.env) :: starEach es X.env := by rfl) (hpl : (backTo pos (starEach es X.env)).any (·.1) = false := by rfl) :
    PE X (.Call (.Name x q) (e :: es) [] pos) (fun σ H Q => t σ H fun vs H1 => sp p vs H1 Q (fun _ _ _ => False)) := by
  refine ⟨fun pins s σ H Q I h => ?_⟩
  refine wpAny_Call_Name_kw (ld_glob I hg hm ?_ hdb)
  refine PySem.W.callWith_K (h₀ := X.base) I.ok.mod.kin hk (thn (ha.run pos pins s σ H _ I h) fun us s1 ⟨vs, H1, I1, r, q⟩ => ⟨I1.kIn, ?_⟩) he hpl
  exact run_fnP F hr hot hp hb I1 r q
/-- what such a def is called for: the exception at p of the class D, the answers w -/
def spP (K : PySem.W.Frag) (T : List (Addr × Str)) (mg : Str → Option Value) (word : Addr → Option Str) : Addr × Obj → Sp := fun p vs H Q _ =>
  vs = [.ref p.1] ∧ ∃ D w r st, Zc (.ref D) none p.2 ∧ (∃ fs, p.2.data = .fields fs) ∧ word D = some w ∧ RelS K T r H st ∧ ∀ H' r', r.le r' → RelS K T r' H' st → Q (.str w) H'
end Dt

set_option maxHeartbeats 4000000
namespace Dt
open PySem PySem.Spec PyProof.Rows L2 HotX L2H LamX
/-! ### the errors, their words -/
def raisedL : List (Str × Str) := [("InvalidStep", "step +"), ("InvalidStand", "stand +"), ("InvalidNumber", "number +"), ("InvalidPlane", "plane +"), ("InvalidFacts", "facts +"), ("InvalidText", "text +"), ("Unlike", "unlike +"), ("NoWay", "noway +"), ("Beyond", "beyond +"), ("NothingToUndo", "undo +")]
def kinL : List Str := ["InvalidStep", "InvalidStand", "InvalidNumber", "InvalidPlane", "InvalidFacts", "InvalidText", "Unlike", "NoWay", "Beyond", "NothingToUndo", "TooMany"]
def wordO (nm : Str) : Option Str := raisedL.lookup nm
structure KinF (K : PySem.W.Frag) (mg : Str → Option Value) : Prop where
  g : ∀ C ∈ kinL, mg C = some (.ref (He.ga K C))
  gT : mg "ThereError" = some (.ref (He.ga K "ThereError"))
  fV : mg "ValueError" = none
  x : ∀ nm w, wordO nm = some w → ExcC K (He.ga K nm)
  k : ∀ nm w, wordO nm = some w → ∀ C ∈ kinL, PySem.W.kitOne K (.ref (He.ga K nm)) (.ref (He.ga K C)) = some (decide (C = nm))
  v : ∀ nm w, wordO nm = some w → PySem.W.kitOne K (.ref (He.ga K nm)) (.type "ValueError") = some true
  m : ∀ nm w, wordO nm = some w → PySem.W.exmOne K (.ref (He.ga K nm)) (.ref (He.ga K "TooMany")) = some false
  t : ∀ nm w, wordO nm = some w → PySem.W.exmOne K (.ref (He.ga K nm)) (.ref (He.ga K "ThereError")) = some true
  gm : ∀ nm w, wordO nm = some w → mg nm = some (.ref (He.ga K nm))
def spKin (K : PySem.W.Frag) (T : List (Addr × Str)) : Addr × Obj → Sp := fun p vs H Q _ =>
  vs = [.ref p.1] ∧ ∃ nm w r st, wordO nm = some w ∧ Zc (.ref (He.ga K nm)) none p.2 ∧ (∃ fs, p.2.data = .fields fs) ∧ RelS K T r H st ∧ ∀ H' r', r.le r' → RelS K T r' H' st → Q (.str w) H'
/-! ### try: .. except X as e: .. except Y as e: .. -/
def wManyA (K : PySem.W.Frag) (n i : Nat) (Wout : WX) (D : Ends) : List (Value × (Addr → Value → Option Addr → TS)) → WX
  | [] => Wout
  | (c, ts) :: r => fun cls d σ H => ∃ b, PySem.W.exmOne K cls c = some b ∧
    (b = true → σ.length = n → ∀ a, H a = none → ts a cls d { nx := fun σ' H' => D.nx (σ'.set i none) H', rt := D.rt, bk := fun σ' H' => D.bk (σ'.set i none) H', ct := fun σ' H' => D.ct (σ'.set i none) H' } (σ.set i (some (.ref a))) H) ∧
    (b = false → wManyA K n i Wout D r cls d σ H)
inductive HdsA (X : Cx) (n : Str) : List ExceptHandler → List (Value × (Addr → Value → Option Addr → TS)) → Prop
  | nil : HdsA X n [] []
  | cons {x : Str} {c : Value} {ts : Addr → Value → Option Addr → TS} {b₀ : Stmt} {suite : List Stmt} {np pos' : Pos} {hds : List ExceptHandler} {l : List (Value × (Addr → Value → Option Addr → TS))} (hc : Names X x c)
      (hsu : ∀ (a : Addr) (oe : Obj) (cls : Value) (d : Option Addr) (pn : List (Addr × Obj)), L2N.Zn cls d oe → (∃ vs, oe.data = .fields vs) → PSs (X.suite a ((a, oe) :: pn)) (b₀ :: suite) (ts a cls d)) (r : HdsA X n hds l) :
      HdsA X n (.ExceptHandler (some (.Name x np)) (some n) (b₀ :: suite) pos' :: hds) ((c, ts) :: l)
theorem ps_try_manyA {X : Cx} {n : Str} {i : Nat} {body : List Stmt} {h₀ : ExceptHandler} {hds : List ExceptHandler} {l : List (Value × (Addr → Value → Option Addr → TS))} {pos : Pos} {tb : WX → TS} {Wout : WX} (hs : X.stack = X.env :: X.outer) (hf : X.env.frame = some X.env.locals) (hN : X.N.Nodup) (hi : X.N[i]? = some n) (hln : X.env.kindOf n = some .local) (tk : L2N.Takes X Wout)
    (hb : ∀ (W : WX) (pn : List (Addr × Obj)) (xe : Value → Shared → Prop), L2N.Takes (X.tr pn xe) W → PassesOwn (model X.prog X.w) X.A X.env xe → PSs (X.tr pn xe) body (tb W))
    (hh : HdsA X n (h₀ :: hds) l) : PS X (.Try body (h₀ :: hds) [] [] pos) (fun D σ H => tb (wManyA X.K X.N.length i Wout D l) D σ H) := by
  refine ⟨fun pins s σ H D I h => ?_⟩
  have ok := I.ok
  have hfr : X.A.frames = some (X.env :: X.outer) := by rw [ok.frames, hs]
  have hloc : Loc X.env.scope n := .inl hln
  refine wpAny_Try_except ?_
  refine wpAny_mono ((hb (wManyA X.K X.N.length i Wout D l) (X.pn ++ pins) (fun e s₁ => wpAny (model X.prog X.w) X.A (noteFrame e X.env) (fun _ s₂ => wpAny (model X.prog X.w) X.A (setFlight e none) (fun _ s₃ =>
    wpAny (model X.prog X.w) X.A (handleBy e X.env (h₀ :: hds)) (SP X pins D) X.xe s₃) X.xe s₂) X.xe s₁) (fun u s' xx => ?_) PassesOwn.looking).run [] s σ H D (I.toTry _) h) (fun f s1 hsp => ?_) (fun e s1 he => he)
  · -- the catch
    obtain ⟨a, B, sI, pins', σ', H', cls, d, rfl, J', nb, up, sky, na, os, ag, w⟩ := xx
    have J : Inv X pins σ' H' sI := J'.ofTry ok
    have hlen : σ'.length = X.N.length := J.len
    have sky' : Sky B (X.env :: X.outer) a (L2N.Zn cls d) X.env.locals s'.heap := by rw [← hs]; exact sky
    show wpAny (model X.prog X.w) X.A (noteFrame (.ref a) X.env) _ _ _
    refine L2N.Sky.land L2N.Zn.steady hfr hf sky' fun h3 fl3 up3 => ?_
    have J3 : Inv X pins σ' H' { s' with heap := h3 } := J.landed nb fl3.1 (up.trans up3) os ag
    obtain ⟨oe3, vs3, he3, hz3, hd3⟩ := fl3.there
    have notFr : ∀ {h : Heap} {o : Obj} {vs : Array Value}, h.FunFrames B (X.env :: X.outer) → h.get? a = some o → o.data = .fields vs → a ∉ frs (X.env :: X.outer) := fun {h o vs} ff e dd hm => by
      obtain ⟨_, o', e', hnf⟩ := ff.mem hm
      rw [e] at e'; cases e'
      exact hnf _ dd
    have nfr := notFr fl3.2.2.1 he3 hd3
    have nL : a ≠ X.env.locals := fun z => nfr (List.mem_filterMap.mpr ⟨X.env, List.mem_cons_self, by rw [hf, z]⟩)
    have nF : a ∉ X.fs := fun hm => by
      obtain ⟨e, he, q⟩ := List.mem_filterMap.mp hm
      exact nfr (List.mem_filterMap.mpr ⟨e, List.mem_cons_of_mem _ he, q⟩)
    have S3 := J3.suite he3 hd3 na nL nF
    have go : ∀ {hds' : List ExceptHandler} {l' : List (Value × (Addr → Value → Option Addr → TS))}, HdsA X n hds' l' → wManyA X.K X.N.length i Wout D l' cls d σ' H' →
        wpAny (model X.prog X.w) X.A (handleBy (.ref a) X.env hds') (SP X pins D) X.xe { s' with heap := h3 } := by
      intro hds' l' hk
      induction hk with
      | nil =>
        intro w
        refine wpAny_handleBy_nil ?_
        obtain ⟨k1, k2, k3, oe, vs, T, oT, ts', he, hz, hd, h1, hr⟩ := id fl3
        unfold PySem.passOn
        refine wpAny_bind (wpAny_field he hd h1 ?_)
        rw [if_neg (show ¬ ((Value.ref T == Value.none) = true) from by simp)]
        have fin : wpAny (model X.prog X.w) X.A (setFlight (.ref a) X.env.frame) (fun _ s4 => wpAny (model X.prog X.w) X.A (throw (.ref a) : Sem Flow) (SP X pins D) X.xe s4) X.xe { s' with heap := h3 } := by
          rw [hf]
          refine HandSPX.setFlight_upZ fl3 fun h4 hh4 up4 => wpAny_throw (tk _ _ ?_)
          exact ⟨a, B, sI, pins, σ', H', cls, d, rfl, J, nb, (up.trans up3).trans up4, .inr (.inr (by rw [hs]; exact hh4)), na, os, ag, w⟩
        first
          | exact wpAny_bind (wpAny_pure (wpAny_bind fin))
          | exact wpAny_bind fin
      | @cons x c ts b₀ suite np pos' hds2 l2 hc hsu r ih =>
        intro w
        obtain ⟨b, hb1, hyes, hno⟩ := w
        refine wpAny_handleBy_cons (codeAny_handlers_test ?_) (by intro q; cases q)
        have LT : PySem.W.Looks (model X.prog X.w) h3 (typeOf (.ref a)) cls := fun A Q E s k q => wpAny_typeOf_ref (k _ _ he3) (by rw [hz3.1]; exact q)
        have LM := PySem.W.exm_one (M := model X.prog X.w) (J3.kIn) LT hb1
        have test : ∀ {Q : Value → Shared → Prop} {E : Value → Shared → Prop}, Q c { s' with heap := h3 } → wpAny (model X.prog X.w) (X.A.mark (some (.ref a))) (eval (.Name x np) X.env) Q E { s' with heap := h3 } := fun {Q E} q => by
          obtain ⟨hg, hdbg, hm | ⟨hm, hv, hnn⟩⟩ := hc
          · exact ld_glob (X := X.suite a ((a, oe3) :: (X.pn ++ pins))) S3 hg hm q hdbg
          · exact ld_blt (X := X.suite a ((a, oe3) :: (X.pn ++ pins))) S3 hg hm hv q hnn hdbg
        refine test (LM.here ?_)
        cases b with
        | true =>
          refine codeAny_handlers_suite_as ?_
          refine HandSPX.lands_againZ fl3 fun h4 fl4 up4 => ?_
          have J4 : Inv X pins σ' H' { s' with heap := h4 } := J.landed nb fl4.1 ((up.trans up3).trans up4) os ag
          obtain ⟨oe4, vs4, he4, hz4, hd4⟩ := fl4.there
          have S4 := J4.suite he4 hd4 na nL nF
          refine store_ok (X := X.suite a ((a, oe4) :: (X.pn ++ pins))) (v := .ref a) S4 hN hi hloc rfl (fun s5 S5 => ?_) (.inr hln)
          refine wpAny_mono ((hsu a oe4 cls d (X.pn ++ pins) hz4 ⟨_, hd4⟩).run [] s5 _ H' _ S5 (hyes rfl hlen a na)) (fun f s6 hsp => ?_) (fun _ _ z => False.elim z)
          have end_ : ∀ {σ6 : L2.St} {H6 : Hp} {Q : Shared → Prop}, Inv (X.suite a ((a, oe4) :: (X.pn ++ pins))) [] σ6 H6 s6 → (∀ s7, Inv X pins (σ6.set i none) H6 s7 → Q s7) →
              wpAny (model X.prog X.w) X.A (do bindName X.env n .none; unbindBehindTheSuite X.env n pos') (fun _ s7 => Q s7) X.xe s6 := fun {σ6 H6 Q} S6 hq => gone_ok (S6.unsuite ok) hN hi hln hq
          cases f with
          | next =>
            obtain ⟨σ6, H6, S6, q6⟩ := hsp
            exact end_ S6 fun s7 J7 => ⟨_, _, J7, q6⟩
          | brk =>
            obtain ⟨σ6, H6, S6, q6⟩ := hsp
            exact end_ S6 fun s7 J7 => ⟨_, _, J7, q6⟩
          | cont =>
            obtain ⟨σ6, H6, S6, q6⟩ := hsp
            exact end_ S6 fun s7 J7 => ⟨_, _, J7, q6⟩
          | ret u =>
            obtain ⟨v6, σ6, H6, S6, r6, q6⟩ := hsp
            exact end_ S6 fun s7 J7 => ⟨_, _, _, J7, r6, q6⟩
        | false =>
          show wpAny _ X.A (handleBy (.ref a) X.env hds2) _ _ _
          exact ih (hno rfl)
    exact go hh w
  · cases f with
    | next =>
      obtain ⟨σ', H', J', q⟩ := hsp
      exact wpAny_execs_nil ⟨σ', H', J'.ofTry ok, q⟩
    | brk =>
      obtain ⟨σ', H', J', q⟩ := hsp
      exact ⟨σ', H', J'.ofTry ok, q⟩
    | cont =>
      obtain ⟨σ', H', J', q⟩ := hsp
      exact ⟨σ', H', J'.ofTry ok, q⟩
    | ret u =>
      obtain ⟨v, σ', H', J', r, q⟩ := hsp
      exact ⟨v, σ', H', J'.ofTry ok, r, q⟩
/-! ### what is made of a call -/
def catchM (e : Ex) : M D := match e.lim, wordO e.nm with
  | none, some w => M.pure (.str w)
  | _, _ => M.bad
def tryM (m : M D) : M D := fun st => match m st with
  | .ok d s => .ok (.tup [.str "told", d]) s
  | .exc e s => catchM e s
  | .bad => .bad
def sTry (F : SE) : SE := fun env => tryM (F env)
def Etry (K : PySem.W.Frag) (T : List (Addr × Str)) (Q : VK) : XK := fun cls dd H' => ∃ nm w r st, wordO nm = some w ∧ cls = .ref (He.ga K nm) ∧ dd = none ∧ RelS K T r H' st ∧ ∀ H2 r2, r.le r2 → RelS K T r2 H2 st → Q (.str w) H2
def TTry (K : PySem.W.Frag) (T : List (Addr × Str)) : (XK → Hp → VK → Prop) → Hp → VK → Prop := fun tl H Q =>
  ∀ Qt : VK, (∀ v H', (∀ p, H' p = none → Q (.ref p) (upd H' p (.tup [.str "told", v]))) → Qt v H') → tl (Etry K T Q) H Qt
/-! ### a lambda handed to a def, called there -/
def lamCxN (X : Cx) (A : Around) (outer : List PySem.Env) (s : Shared) (H : Hp) (E : XK) (scope : Scope) (f c' : Addr) : Cx :=
  { lamCx X A outer s H E scope f c' with xe := fun e s' => wpAny (model X.prog X.w) (A.deeper (lamEnv X scope s.heap.objs.size f c')) (leaving (lamEnv X scope s.heap.objs.size f c') e) (fun _ s'' => L2N.CX X.prog X.w outer H s E e s'') (fun e' s'' => L2N.CX X.prog X.w outer H s E e' s'') s' }
section
variable {X : Cx} {pins : List (Addr × Obj)} {σ : L2.St} {H HZ : Hp} {s s1 : Shared}
theorem pe_actN {CXg : CXT} {Eg : XK} {Ng : List Str} {qg : Str} {sg : Scope} {g f c' : Addr} {cdg pm ctv : Value} {params : Arguments} {body : Expr} {scope : Scope} {k i : Nat} {a : Str} {pn : List (Addr × Obj)} {xe : Value → Shared → Prop} {W : WX} {E : XK} {tb : TE} {p1 p2 : Pos}
    (I : Inv X pins σ H s) (L : LamS X.env.scope scope) (hf : s.heap.get? f = some (PySem.W.kla_obj "<lambda>" (X.env.qual ++ "<lambda>") params body scope (cloFrom X.env.cells scope.names []) pm c' ctv)) (hfn : H f = none) (hfr : f ∉ frs X.stack)
    (hbind : bindArgs (PySem.W.kla_fn "<lambda>" (X.env.qual ++ "<lambda>") params body scope (cloFrom X.env.cells scope.names []) pm (.ref c') ctv) ⟨[], []⟩ = pure [])
    (tk : L2N.Takes ((cxOf CXg X.prog X.w X.K X.mg X.base Ng qg sg g cdg X.A X.stack s H Eg).tr pn xe) W) (hW : ∀ cls d σ' H', E cls d H' → W cls d σ' H') (hr : Room (k + 1) (X.A.deeper (envOfC qg sg s.heap.objs.size g cdg)))
    (hbody : ∀ (A : Around) (outer : List PySem.Env) (s : Shared) (H : Hp), Room k (A.deeper (lamEnv X scope s.heap.objs.size f c')) → PE (lamCxN X A outer s H E scope f c') body tb)
    (hN : Ng[i]? = some a) (hv : Vis sg a) (hd : (a == ("__debug__" : Str)) = false := by decide) (hcd : (a == ("__classdict__" : Str)) = false := by decide) :
    PE ((cxOf CXg X.prog X.w X.K X.mg X.base Ng qg sg g cdg X.A X.stack s H Eg).tr pn xe) (.Call (.Name a p1) [] [] p2)
      (fun σZ HZ Q => σZ[i]? = some (some (.ref f)) ∧ HZ c' = some (CodeO c' (X.env.qual ++ "<lambda>")) ∧ tb σ HZ Q) := by
  refine ⟨fun pinsZ sZ σZ HZ Q IZ h => ?_⟩
  obtain ⟨hs, hc, ht⟩ := h
  refine wpAny_Call_Name_kw (thn ((pe_var (pos := p1) (i := i) hN hv hd hcd).run pinsZ sZ σZ HZ (fun v H1 => v = .ref f ∧ H1 = HZ) IZ ⟨.ref f, hs, rfl, rfl⟩) fun u s1 ⟨v, H1, I1, r1, q1⟩ => ?_)
  obtain ⟨ev, eH⟩ := q1
  subst ev
  rw [eH] at I1
  obtain rfl : u = Value.ref f := r1
  have of1 : s1.heap.get? f = some (PySem.W.kla_obj "<lambda>" (X.env.qual ++ "<lambda>") params body scope (cloFrom X.env.cells scope.names []) pm c' ctv) := I1.base.keep f _ hf hfn hfr (fun z => nomatch (show f ∈ ([] : List Addr) from z))
  refine PySem.W.callWith_F0 ⟨_, _, _, _, of1⟩ ?_
  have un : Un (frs X.stack) [] H HZ s.heap s1.heap := I1.base
  obtain ⟨⟨oc, vs, t, hoc, hdc, hvc⟩, _, _⟩ := I1.hok c' _ hc
  have rc : codeAny (model X.prog X.w) (X.A.deeper (envOfC qg sg s.heap.objs.size g cdg)) (.call (.ref f) ⟨[], []⟩) (CR (L2N.CX X.prog X.w) (envOfC qg sg s.heap.objs.size g cdg :: X.stack) X.prog X.w HZ s1 Q E) s1 := by
    refine PySem.W.kla_callFunE hr.depth of1 rfl L.co L.gen rfl ⟨c', oc, vs, t, rfl, hoc, hdc, hvc⟩ ?_
    rw [hbind]
    refine wpAny_pure (wpAny_newFunctionEnv (fun y hy => (L.own y hy).2) (fun y hy => absurd hy (by simp)) (fun h₁ hns hsb => ⟨I1.nolimit.fresh _ hsb, ?_⟩) L.kind)
    show codeAny _ _ (.expr body (lamEnv X scope s1.heap.objs.size f c')) _ _
    have kp : ∀ b o, s1.heap.get? b = some o → h₁.get? b = some o := fun b o e => hsb.extBut b o (Nat.ne_of_lt (Heap.lt_size e)) (Heap.get?_push_of_some _ e)
    have J0 : Inv (lamCx X (X.A.deeper (envOfC qg sg s.heap.objs.size g cdg)) (envOfC qg sg s.heap.objs.size g cdg :: X.stack) s1 HZ E scope f c') [] σ HZ { s1 with heap := h₁, toks := s1.toks + ([] : List (Str × Value)).length } :=
      lam_start2 I L I1.env0 hr.hd un hns kp
    have J : Inv (lamCxN X (X.A.deeper (envOfC qg sg s.heap.objs.size g cdg)) (envOfC qg sg s.heap.objs.size g cdg :: X.stack) s1 HZ E scope f c') [] σ HZ { s1 with heap := h₁, toks := s1.toks + ([] : List (Str × Value)).length } := J0.wish _
    refine PySem.W.kla_codeExpr (wpAny_mono ((hbody _ _ s1 HZ (hr.deeper _)).run [] _ _ HZ Q J ht) (fun v s' hq => ?_) fun e s' hq => hq)
    obtain ⟨w', H', J', rv, q⟩ := hq
    exact ⟨w', H', J'.os, J'.bare, J'.base, J'.hok, rv, q⟩
  have hx : Passes (L2N.CX X.prog X.w) ((cxOf CXg X.prog X.w X.K X.mg X.base Ng qg sg g cdg X.A X.stack s H Eg).tr pn xe) E := L2N.passes_call tk hW
  refine wpAny_call (codeAny_mono rc fun r s' hq => ?_)
  cases r with
  | error e => exact hx pinsZ σZ HZ s1 e s' I1 hq
  | ok fl =>
    cases fl with
    | ret u => exact I1.after hq
    | next => exact False.elim hq
    | brk => exact False.elim hq
    | cont => exact False.elim hq
end
def GivesN (X : Cx) (Ng : List Str) (x : Str) (sg : Scope) (g : Addr) (cdg : Value) (bg : List Stmt) (a : Str) (q : Str) (TT : (XK → Hp → VK → Prop) → Hp → VK → Prop) : Prop :=
  ∀ (f c' : Addr) (s : Shared) (H : Hp) (Q : VK) (tl : XK → Hp → VK → Prop),
    (∀ (W : WX) (pn : List (Addr × Obj)) (xe : Value → Shared → Prop) (E : XK) (p1 p2 : Pos), L2N.Takes ((cxOf C8.CX0 X.prog X.w X.K X.mg X.base Ng x sg g cdg X.A X.stack s H C8.E0).tr pn xe) W → (∀ cls d σ' H', E cls d H' → W cls d σ' H') →
      PE ((cxOf C8.CX0 X.prog X.w X.K X.mg X.base Ng x sg g cdg X.A X.stack s H C8.E0).tr pn xe) (.Call (.Name a p1) [] [] p2) (fun σZ HZ Q => σZ[0]? = some (some (.ref f)) ∧ HZ c' = some (CodeO c' q) ∧ tl E HZ Q)) →
    H c' = some (CodeO c' q) → TT tl H Q →
    ∃ t, PSs (cxOf C8.CX0 X.prog X.w X.K X.mg X.base Ng x sg g cdg X.A X.stack s H C8.E0).nox bg t ∧ t { nx := fun _ H' => Q .non H', rt := Q } (L2.start Ng [.ref f]) H
/-- x(lambda: body) -/
theorem pe_lamcallN {X : Cx} {T : List (Addr × Str)} {TT : (XK → Hp → VK → Prop) → Hp → VK → Prop} {x a : Str} {g c P : Addr} {k : Nat} {pg : Arguments} {bg : List Stmt} {sg : Scope} {gd : FuncData} {Ng : List Str}
    {params : Arguments} {body : Expr} {scope : Scope} {t : XK → TE} {p lpos pos : Pos} (hg : Gl X x) (hm : X.mg x = some (.ref g)) (G : FunD X.K x x pg bg sg [] [] g gd)
    (hb : L2.Binds X.K gd [a] []) (Sg : FnScope Ng [a] sg) (hNg : Ng[0]? = some a) (hva : Vis sg a)
    (hG : ∀ cdg, GivesN X Ng x sg g cdg bg a (X.env.qual ++ "<lambda>") TT)
    (TB : TabB X.base X.mg c P) (hcode : X.env.code = .ref c) (hmT : (P, X.env.qual ++ "<lambda>") ∈ T) (hu : ∀ p ∈ T, p.1 = P → p.2 = X.env.qual ++ "<lambda>") (hr : Room (k + 2) X.A) (L : LamS X.env.scope scope) (hdef : defaultsOf params X.env = ([], []))
    (hbind : ∀ (q : Str) (cl : List (Str × Addr)) (pm cv ctv : Value), bindArgs (PySem.W.kla_fn "<lambda>" q params body scope cl pm cv ctv) ⟨[], []⟩ = pure [])
    (hbody : ∀ (A : Around) (outer : List PySem.Env) (s : Shared) (H : Hp) (E : XK) (f c' : Addr), Room k (A.deeper (lamEnv X scope s.heap.objs.size f c')) → PE (lamCxN X A outer s H E scope f c') body (t E))
    (hdb : (x == ("__debug__" : Str)) = false := by decide) (hd : (a == ("__debug__" : Str)) = false := by decide) (hcd : (a == ("__classdict__" : Str)) = false := by decide) :
    PE X (.Call (.Name x p) [.Lambda params body scope lpos] [] pos) (tLam T TT t) := by
  obtain ⟨oc, od, dV, kV, doc, pm0, an, cdv, ct, osl, rfl, lk, hcg, _, _⟩ := G.ex
  refine ⟨fun pins s σ H Q I h => ?_⟩
  obtain ⟨hT, h⟩ := h
  refine wpAny_Call_Name_kw (ld_glob I hg hm ?_ hdb)
  refine PySem.W.callWith_K (h₀ := X.base) I.ok.mod.kin G.kp ?_ (by rfl) (by rfl)
  show wpAny _ _ (spliced ((false, eval (.Lambda params body scope lpos) X.env) :: backTo pos (starEach [] X.env))) _ _ s
  refine Calls.spliced_cons (lam_make2 I TB hcode hmT hu hT hdef (L.has I.ok) fun f c' pm' ctv H1 s' I1 eN T1 hf hfn hfr hco => ?_)
  refine Calls.spliced_nil ⟨I1.kIn, ?_⟩
  have rc : codeAny (model X.prog X.w) X.A (.call (.ref g) ⟨[.ref f], []⟩) (CR C8.CX0 X.stack X.prog X.w H1 s' Q C8.E0) s' := by
    refine run_ofS (N := Ng) (ps := [a]) (us := [.ref f]) (vs := [.ref f]) lk hcg Sg hr I1.env0 (hb s' [.ref f] I1.kIn rfl) (.cons rfl .nil) rfl fun hr' => ?_
    obtain ⟨t', ht', hq'⟩ := hG cdv f c' s' H1 Q (fun E H' Q' => t E σ H' Q') (fun W pn xe E p1 p2 tk hW => pe_actN (i := 0) I1 L hf hfn hfr (hbind _ _ _ _ _) tk hW hr' (fun A outer s H hr2 => hbody A outer s H E f c' hr2) hNg hva hd hcd) hco (h H1 eN T1)
    exact ⟨t', ht'.nox, hq'⟩
  refine wpAny_call (codeAny_mono rc fun r s2 hq => ?_)
  cases r with
  | error e => exact (show False from hq).elim
  | ok fl =>
    cases fl with
    | ret u => exact I1.after hq
    | next => exact False.elim hq
    | brk => exact False.elim hq
    | cont => exact False.elim hq
theorem takesN0 {X : Cx} : L2N.Takes X (fun _ _ _ _ => False) := fun _ _ x => by
  obtain ⟨_, _, _, _, _, _, _, _, _, _, _, _, _, _, _, _, z⟩ := x
  exact z.elim
/-! ### _law_try -/
section
variable {X : Cx} {T : List (Addr × Str)} {mg : Str → Option Value}
/-- _law_kin(e) -/
def tKin (K : PySem.W.Frag) (T : List (Addr × Str)) (a : Addr) (cls : Value) (d : Option Addr) : TE := fun σ H Q => σ[2]? = some (some (.ref a)) ∧ ∃ nm w r st, wordO nm = some w ∧ cls = .ref (He.ga K nm) ∧ d = none ∧ RelS K T r H st ∧ ∀ H2 r2, r.le r2 → RelS K T r2 H2 st → Q (.str w) H2
abbrev NT : List Str := ["call_so", "found", "e"]
theorem try_gives {q : Str} {sg : Scope} {g fk : Addr} {fdk : FuncData} {cdg : Value} {k j j2 k8 : Nat} {s1 : Stmt} {p1 p2 p3 p4 p5 p6 p7 p8 p9 p10 p11 p12 p13 p14 p15 p16 p17 p18 p19 p20 p21 : Pos}
    (KF : KinF X.K X.mg) (F : FnP X.prog X.w X.K X.mg X.base k fk fdk ["e"] (spKin X.K T)) (hr : Room (k + 1) X.A) (hmk : X.mg "_law_kin" = some (.ref fk)) (hkk : PySem.W.keepIn X.K (.ref fk) = true) (hbk : Binds X.K fdk ["e"] [])
    (h1 : sg.names.lookup ("call_so" : Str) = some .local) (h2 : sg.names.lookup ("found" : Str) = some .local) (h3 : sg.names.lookup ("e" : Str) = some .local)
    (g1 : sg.names.lookup ("TooMany" : Str) = some .globalImplicit) (g2 : sg.names.lookup ("ThereError" : Str) = some .globalImplicit) (g3 : sg.names.lookup ("_law_kin" : Str) = some .globalImplicit) :
    GivesN X NT "_law_try" sg g cdg [.Assign [.Name "found" p1] (.Constant .none j p2) p3,
      .Try [.Assign [.Name "found" p4] (.Tuple [.Constant (.str "told") j2 p5, .Call (.Name "call_so" p6) [] [] p7] k8 p8) p9]
        [.ExceptHandler (some (.Name "TooMany" p10)) (some "e") [s1] p11,
         .ExceptHandler (some (.Name "ThereError" p12)) (some "e") [.Assign [.Name "found" p13] (.Call (.Name "_law_kin" p14) [.Name "e" p15] [] p16) p17] p18] [] [] p19,
      .Return (some (.Name "found" p20)) p21] "call_so" q (TTry X.K T) := by
  intro f c' s H Q tl act hc h
  have nd : NT.Nodup := by decide +kernel
  refine ⟨_, pss_cons (ps_set (i := 1) nd rfl (.inl h2) pe_non rfl (.inl rfl)) (pss_cons (ps_try_manyA (X := (cxOf C8.CX0 X.prog X.w X.K X.mg X.base NT "_law_try" sg g cdg X.A X.stack s H C8.E0).nox) (i := 2) (n := "e") (Wout := fun _ _ _ _ => False)
      (tb := fun W D σ H' => ∃ Ech : XK, (∀ cls d σ' H', Ech cls d H' → W cls d σ' H') ∧ σ[0]? = some (some (.ref f)) ∧ H' c' = some (CodeO c' q) ∧ tl Ech H' fun v H2 => [V.str "told", v].length ≤ sizeLine ∧ ∀ p, H2 p = none → D.nx (σ.set 1 (some (.ref p))) (upd H2 p (.tup [.str "told", v])))
      (l := [(.ref (He.ga X.K "TooMany"), fun _ _ _ _ _ _ => False), (.ref (He.ga X.K "ThereError"), fun a cls d D σ H' => tKin X.K T a cls d σ H' fun x H1 => D.nx (σ.set 1 (some x)) H1)])
      rfl rfl nd rfl h3 takesN0 (fun W pn xe tk _ => ?_) (.cons ⟨g1, by decide, .inl (KF.g _ (by decide +kernel))⟩ (fun a oe cls d pn _ _ => pss_never) (.cons ⟨g2, by decide, .inl KF.gT⟩ (fun a oe cls d pn hz hf => ?_) .nil)))
      (pss_one (ps_ret (pe_var (i := 1) rfl (.inl h2) (by decide) (by decide))))), ?_⟩
  · refine pss_one ⟨fun pins s' σ H' D I h' => ?_⟩
    obtain ⟨Ech, hW, e1, e2, e3⟩ := h'
    have hp := act W pn xe Ech p6 p7 tk hW
    exact (ps_set (i := 1) nd rfl (.inl h2) (pe_tup (pa_cons pe_str (pa_cons hp pa_nil))) rfl (.inl rfl)).run pins s' σ H' D I ⟨e1, e2, e3⟩
  · obtain ⟨vs, hd⟩ := hf
    have hctx : vs[2]? = some .none := hz.2.2 vs hd
    have r1 : RoomH k (X.A.deeper (envOfC "_law_try" sg s.heap.objs.size g cdg)) := roomH_of (hr.deeper _)
    refine pss_one (psI (ps_set (i := 1) nd rfl (.inl h2) (pe_callP (p := (a, oe)) F ⟨r1.dp, r1.un⟩ ⟨rfl, vs, hd, hctx⟩ List.mem_cons_self g3 hmk hkk hbk (pa_cons (pe_var (i := 2) rfl (.inl h3) (by decide) (by decide)) pa_nil)) rfl (.inl rfl)) fun D σ H' h' => ?_)
    obtain ⟨e1, nm, w, r, st, e2, e3, e4, R, h5⟩ := h'
    subst e3 e4
    exact ⟨.ref a, e1, rfl, nm, w, r, st, e2, ⟨hz.1, hz.2.1⟩, ⟨vs, hd⟩, R, h5⟩
  · refine ⟨Etry X.K T Q, fun cls d σ' H' e => ?_, rfl, hc, ?_⟩
    · obtain ⟨nm, w, r, st, e1, rfl, rfl, R, h5⟩ := e
      refine ⟨false, KF.m nm w e1, (fun z => by cases z), fun _ => ⟨true, KF.t nm w e1, fun _ hl a ha => ?_, (fun z => by cases z)⟩⟩
      have hl' : σ'.length = 3 := hl
      refine ⟨List.getElem?_set_self (by omega), nm, w, r, st, e1, rfl, rfl, R, fun H2 r2 l2 R2 => ⟨.str w, ?_, h5 H2 r2 l2 R2⟩⟩
      show (((σ'.set 2 (some (V.ref a))).set 1 (some (.str w))).set 2 none)[1]? = _
      rw [List.getElem?_set_ne (by decide), List.getElem?_set_self (by simp; omega)]
    · exact h _ fun v H' hv => ⟨(by show 2 ≤ sizeLine; decide), fun p hp => ⟨.ref p, rfl, hv p hp⟩⟩
/-- _law_try(lambda: e) -/
theorem try_read {K : PySem.W.Frag} {E : XK} {F : SE} (KF : KinF K mg) (σ : L2.St) (H : Hp) (Q : VK) (h : rdE K T mg E (sTry F) σ H Q) : tLam T (TTry K T) (fun E' => rdE K T mg E' F) σ H Q := by
  obtain ⟨b, r, env, st, R, h⟩ := h
  refine ⟨R.s.tab, fun H1 eN T1 => fun Qt hQt => ?_⟩
  have S1 : RelS K T r H1 st := ⟨fun a o e => eN a o (R.s.low a o e) (fun ps z => R.s.ntl a ps (by rw [e, z])), fun a o e => eN a o (R.s.frm a o e) (fun ps z => R.s.ntf a ps (by rw [e, z])), R.s.dis, R.s.len, R.s.nd, R.s.ads, fun k a ob e1 e2 => by
    have q := R.s.obs k a ob e1 e2
    cases ob with
    | lst ds =>
      obtain ⟨xs, h1, h2⟩ := q
      exact ⟨xs, eN a _ h1 (fun ps z => by cases z), h2⟩
    | ins C gs =>
      obtain ⟨dx, fs, h1, h2⟩ := q
      exact ⟨dx, fs, eN a _ h1 (fun ps z => by cases z), h2⟩, T1, R.s.ntl, R.s.ntf⟩
  refine ⟨b, r, env, st, ⟨S1, R.bas, R.ln, R.val, R.own, R.uni⟩, ?_⟩
  have h' : Aft (Rep K) K T mg E r (match F env st with
    | .ok d s => .ok (.tup [.str "told", d]) s
    | .exc e s => catchM e s
    | .bad => .bad) Q := h
  cases e : F env st with
  | bad =>
    rw [e] at h'
    exact h'
  | ok d s =>
    rw [e] at h'
    intro v H' r' l S p
    exact hQt v H' fun pp hpp => new_tup S (.cons (.str "told") (.cons p .nil)) (Aft.from l h') pp hpp
  | exc x s =>
    rw [e] at h'
    intro cls dd H' r' l S hx
    obtain ⟨nm, lim⟩ := x
    have h2 : Aft (Rep K) K T mg E r (catchM ⟨nm, lim⟩ s) Q := h'
    unfold catchM at h2
    cases lim with
    | some n => exact False.elim h2
    | none =>
      cases ew : wordO nm with
      | none =>
        simp only [ew] at h2
        exact False.elim h2
      | some w =>
        simp only [ew] at h2
        obtain ⟨hc, hd⟩ := hx
        have hg := KF.gm nm w ew
        rcases hc with hc | ⟨hc, _⟩
        · have ec : cls = .ref (He.ga K nm) := Option.some.inj (hc.symm.trans hg)
          exact ⟨nm, w, r', s, ew, ec, hd, S, fun H2 r2 l2 R2 => h2 _ H2 r2 (l.trans l2) R2 (.str w)⟩
        · have z : (none : Option Value) = some _ := (show mg nm = none from hc).symm.trans hg
          cases z
theorem d_try {E : XK} {F : SE} {g c P : Addr} {gd : FuncData} {k : Nat} {pg : Arguments} {bg : List Stmt} {sg : Scope} {params : Arguments} {body : Expr} {scope : Scope} {p lpos pos : Pos} (KF : KinF X.K X.mg)
    (hG : ∀ cdg, GivesN X NT "_law_try" sg g cdg bg "call_so" (X.env.qual ++ "<lambda>") (TTry X.K T)) (hg : Gl X "_law_try") (hm : X.mg "_law_try" = some (.ref g)) (G : FunD X.K "_law_try" "_law_try" pg bg sg [] [] g gd) (hb : L2.Binds X.K gd ["call_so"] []) (Sg : FnScope NT ["call_so"] sg) (hva : Vis sg "call_so")
    (TB : TabB X.base X.mg c P) (hcode : X.env.code = .ref c) (hmT : (P, X.env.qual ++ "<lambda>") ∈ T) (hu : ∀ p ∈ T, p.1 = P → p.2 = X.env.qual ++ "<lambda>") (hr : Room (k + 2) X.A) (L : LamS X.env.scope scope) (hdef : defaultsOf params X.env = ([], []))
    (hbind : ∀ (q : Str) (cl : List (Str × Addr)) (pm cv ctv : Value), bindArgs (PySem.W.kla_fn "<lambda>" q params body scope cl pm cv ctv) ⟨[], []⟩ = pure [])
    (hbody : ∀ (A : Around) (outer : List PySem.Env) (s : Shared) (H : Hp) (E : XK) (f c' : Addr), Room k (A.deeper (lamEnv X scope s.heap.objs.size f c')) → PE (lamCxN X A outer s H E scope f c') body (rdE X.K T X.mg E F)) :
    PE X (.Call (.Name "_law_try" p) [.Lambda params body scope lpos] [] pos) (rdE X.K T X.mg E (sTry F)) :=
  peI (pe_lamcallN (t := fun E' => rdE X.K T X.mg E' F) hg hm G hb Sg rfl hva hG TB hcode hmT hu hr L hdef hbind hbody) (try_read KF)
end
end Dt

set_option maxHeartbeats 4000000
namespace Dt
open PySem PySem.Spec PyProof.Rows L2 HotX L2H LamX
/-! ### a def that makes lambdas; the law -/
section
variable {P : Program} {w : World} {K : PySem.W.Frag} {T : List (Addr × Str)} {mg : Str → Option Value} {base : Heap} {k : Nat} {x qual : Str} {params : Arguments} {body : List Stmt} {scope : Scope} {fa : Addr} {fd : FuncData} {N ps : List Str} {F : SS}
theorem fn_ofC {m n : Nat} (G : FunD K x qual params body scope [] [] (He.ga K x) fd) (S : FnScope N ps scope) (hm : N.length = m) (hn : ps.length = n) (hnm : ps.length ≤ N.length)
    (hbody : ∀ (cdv : Value) (A : Around) (outer : List PySem.Env) (s : Shared) (H : Hp) (E : XK), cdv = .ref (He.codeOf K (x, none)) → Room k (A.deeper (envOfC qual scope s.heap.objs.size (He.ga K x) cdv)) →
      PSs (cxOf (L2N.CX P w) P w K mg base N qual scope (He.ga K x) cdv A outer s H E) body (rdS K T mg E F)) : FnOk P w K mg base (L2N.CX P w) (k + 1) (He.ga K x) fd ps (spD K T mg n (runD m F)) := by
  subst hm hn
  obtain ⟨oc, od, dV, kV, doc, pm, an, cdv, ct, osl, rfl, lk, hcd, _, _⟩ := G.ex
  obtain ⟨c, rfl⟩ := He.codeIn_ref hcd
  have ec : He.codeOf K (x, none) = c := He.codeOf_eq (p := (x, none)) lk rfl
  refine fn_of lk hcd S (fun vs H Q E h => h.1) fun A outer s H vs Q E hr hsp => ⟨_, hbody _ A outer s H E (by rw [ec]) hr, ?_⟩
  obtain ⟨hl, ds, r, st, R, p, h⟩ := hsp
  exact run_read R p (by rw [← p.length, hl]; exact hnm) h
theorem dfn_ofC {m n : Nat} (G : FunD K x qual params body scope [] [] (He.ga K x) fd) (hmg : mg x = some (.ref (He.ga K x))) (S : FnScope N ps scope) (hb : Binds K fd ps []) (hm : N.length = m) (hn : ps.length = n) (hnm : ps.length ≤ N.length)
    (hbody : ∀ (cdv : Value) (A : Around) (outer : List PySem.Env) (s : Shared) (H : Hp) (E : XK), cdv = .ref (He.codeOf K (x, none)) → Room k (A.deeper (envOfC qual scope s.heap.objs.size (He.ga K x) cdv)) →
      PSs (cxOf (L2N.CX P w) P w K mg base N qual scope (He.ga K x) cdv A outer s H E) body (rdS K T mg E F)) : DFn P w K T mg base (k + 1) x n (runD m F) := by
  have q := fn_ofC (P := P) (w := w) (mg := mg) (base := base) (T := T) (F := F) (n := n) G S hm hn hnm hbody
  exact ⟨He.ga K x, fd, ps, hmg, G.kp, hb, q⟩
/-- _law_kin, where p is handled -/
theorem kin_of {w' : World} {Fk : Addr → Str → SS} {m : Nat} (hm : N.length = m) (G : FunD K "_law_kin" "_law_kin" params body scope [] [] fa fd) (S : FnScope N ["e"] scope) (KF : KinF K mg)
    (hrun : ∀ nm w, wordO nm = some w → ∀ (a : Addr) (st : Sto), runD m (Fk a nm) [.adr a] st = .ok (.str w) st)
    (hbody : ∀ (cdv : Value) (A : Around) (outer : List PySem.Env) (s : Shared) (H : Hp) (E : XK) (a : Addr) (oe : Obj) (nm w : Str), wordO nm = some w → Zc (.ref (He.ga K nm)) none oe → (∃ vs, oe.data = .fields vs) → Hot1 A (a, oe) → RoomH k (A.deeper (envOfC "_law_kin" scope s.heap.objs.size fa cdv)) →
      PSs (cxH C8.CX0 P w' K mg base N "_law_kin" scope fa cdv A outer s H E (a, oe)) body (rdS K T mg EF (Fk a nm))) : FnP P w' K mg base (k + 1) fa fd ["e"] (spKin K T) := by
  subst hm
  obtain ⟨oc, od, dV, kV, doc, pm, an, cdv, ct, osl, rfl, lk, hcd, _, _⟩ := G.ex
  refine fn_ofP lk hcd S (fun p vs H Q E h => by rw [h.1]; rfl) fun A outer s H vs Q E p hot hr hsp => ?_
  obtain ⟨rfl, nm, w, r, st, hw, hz, hf, R, hQ⟩ := hsp
  obtain ⟨a, oe⟩ := p
  refine ⟨_, hbody cdv A outer s H E a oe nm w hw hz hf hot hr, run_read R (.cons (.adr a) .nil) ?_ ?_⟩
  · have q := congrArg List.length S.pre
    rw [List.length_take] at q
    show 1 ≤ N.length
    have q' : min 1 N.length = 1 := q
    omega
  · rw [hrun nm w hw a st]
    intro v H' r' l R' p
    rw [p.s]
    exact hQ H' r' l R'
end
/-! ### objects of the store that a def makes and leaves behind -/
mutual
def noRef : D → Bool
  | .ref _ => false
  | .tup ds => noRefs ds
  | .lst ds => noRefs ds
  | _ => true
def noRefs : List D → Bool
  | [] => true
  | d :: ds => noRef d && noRefs ds
end
def noRefO : Ob → Bool
  | .lst ds => noRefs ds
  | .ins _ _ => false
def cutM (m : M D) : M D := fun st => match m st with
  | .ok d st' => if noRef d = true ∧ (st'.take st.length).all noRefO = true then .ok d (st'.take st.length) else .bad
  | .exc e s => .exc e s
  | .bad => .bad
mutual
theorem rep_cut {K : PySem.W.Frag} {r : Rho} {ad : List Addr} : ∀ {v : V} {d : D}, Rep K r v d → noRef d = true → Rep K { r with ad := ad } v d
  | _, _, .non, _ => .non
  | _, _, .bl b, _ => .bl b
  | _, _, .int i, _ => .int i
  | _, _, .str x, _ => .str x
  | _, _, .tup s q, h => .tup s (reps_cut q h)
  | _, _, .lst s q, h => .lst s (reps_cut q h)
  | _, _, .ref _, h => by cases h
  | _, _, .adr a, _ => .adr a
theorem reps_cut {K : PySem.W.Frag} {r : Rho} {ad : List Addr} : ∀ {vs : List V} {ds : List D}, Reps K r vs ds → noRefs ds = true → Reps K { r with ad := ad } vs ds
  | _, _, .nil, _ => .nil
  | _, _, .cons (d := d) (ds := ds) p q, h => by
    have h' : (noRef d && noRefs ds) = true := h
    rw [Bool.and_eq_true] at h'
    exact .cons (rep_cut p h'.1) (reps_cut q h'.2)
end
theorem cut_read {K : PySem.W.Frag} {T : List (Addr × Str)} {mg : Str → Option Value} {E : XK} {r : Rho} {H : Hp} {st : Sto} {m : M D} {Q : VK} (R : RelS K T r H st) (h : Aft (Rep K) K T mg E r (cutM m st) Q) : Aft (Rep K) K T mg E r (m st) Q := by
  unfold cutM at h
  cases e : m st with
  | bad =>
    rw [e] at h
    exact h
  | exc x s =>
    rw [e] at h
    exact h
  | ok d st' =>
    rw [e] at h
    have h' : Aft (Rep K) K T mg E r (if noRef d = true ∧ (st'.take st.length).all noRefO = true then .ok d (st'.take st.length) else .bad) Q := h
    split at h'
    · rename_i hc
      obtain ⟨hc1, hc2⟩ := hc
      intro v H' r' l S p
      obtain ⟨m', em⟩ := l.2.2
      have et : r'.ad.take st.length = r.ad := by
        rw [em, ← R.len, List.take_left]
      have S2 : RelS K T { r' with ad := r.ad } H' (st'.take st.length) := by
        refine ⟨S.low, S.frm, S.dis, ?_, R.nd, fun a hm => S.ads a (by rw [em]; exact List.mem_append_left _ hm), fun k a ob e1 e2 => ?_, S.tab, S.ntl, S.ntf⟩
        · show r.ad.length = _
          rw [← et, List.length_take, List.length_take, S.len]
        · have e1' : r'.ad[k]? = some a := by
            have e1'' : r.ad[k]? = some a := e1
            rw [em, List.getElem?_append_left (List.getElem?_eq_some_iff.mp e1'').1]
            exact e1''
          have hk : k < st.length := by
            have q := (List.getElem?_eq_some_iff.mp e2).1
            rw [List.length_take] at q
            omega
          have e2' : st'[k]? = some ob := by
            rw [List.getElem?_take_of_lt hk] at e2
            exact e2
          have q := S.obs k a ob e1' e2'
          have hn := List.all_eq_true.mp hc2 ob (List.mem_of_getElem? e2)
          cases ob with
          | lst ds =>
            obtain ⟨xs, q1, q2⟩ := q
            exact ⟨xs, q1, reps_cut q2 hn⟩
          | ins C gs => cases hn
      exact h' v H' { r' with ad := r.ad } ⟨l.1, l.2.1, [], by simp⟩ S2 (rep_cut p hc1)
    · exact h'.elim
theorem DFn.cut {P : Program} {w : World} {K : PySem.W.Frag} {T : List (Addr × Str)} {mg : Str → Option Value} {base : Heap} {k : Nat} {x : Str} {n : Nat} {f : List D → M D} (h : DFn P w K T mg base k x n f) : DFn P w K T mg base k x n (fun ds => cutM (f ds)) := by
  obtain ⟨fa, fd, ps, h1, h2, h3, h4⟩ := h.ex
  refine ⟨fa, fd, ps, h1, h2, h3, h4.imp fun vs H Q E hs => ?_⟩
  obtain ⟨hl, ds, r, st, R, p, h⟩ := hs
  exact ⟨hl, ds, r, st, R, p, cut_read R h⟩
/-- what the law's promise owes to plain Lean -/
theorem law_owes {K : PySem.W.Frag} {T : List (Addr × Str)} {mg : Str → Option Value} {f : List D → M D} {H : Hp} {a : Addr} {ns : List Int} {cs : List (Addr × Addr)} (hT : ∀ p ∈ T, ∃ q ∈ cs, p.1 = q.2) (hH : ∀ p ∈ cs, H p.2 = some (.tbl #[])) (hS : SqL K H a (ns.map V.int))
    (hf : ∃ st, f [.lst (ns.map D.int)] [] = .ok (.bl true) st) : spD K T mg 1 f [.ref a] H (fun v _ => v = .bl true) fun _ _ _ => False := by
  have hints : ∀ (r : Rho) (ns : List Int), Reps K r (ns.map V.int) (ns.map D.int) := fun r ns => by
    induction ns with
    | nil => exact .nil
    | cons n ns ih => exact .cons (.int n) ih
  have hR : ∃ r : Rho, RelS K T r H [] ∧ SqL K r.fl a (ns.map V.int) := by
    have tabs : LamX.Tabs T H := fun p hp => by
      obtain ⟨q, hq, e1⟩ := hT p hp
      rw [e1]
      exact LamX.TabS.nil (hH q hq)
    have mk : ∀ fl : Hp, (∀ c o, fl c = some o → H c = some o) → NoTab fl → RelS K T ⟨fl, fun _ => none, []⟩ H [] := fun fl h1 h2 =>
      ⟨h1, (fun c o e => by cases e), (fun c o e => by cases e), rfl, List.nodup_nil, (fun c m => by cases m), (fun k c ob e => by simp at e), tabs, h2, (fun c ps e => by cases e)⟩
    rcases hS with (h | ⟨o, h⟩) | h
    · exact ⟨_, mk (fun c => if c = a then H a else none) (fun c o e => by
        by_cases q : c = a
        · rw [q] at e ⊢
          exact (if_pos rfl).symm.trans e
        · exact absurd ((if_neg q).symm.trans e) (by simp)) (fun c ps e => by
        by_cases q : c = a
        · have e' := (if_pos q).symm.trans e
          rw [h] at e'
          cases e'
        · exact absurd ((if_neg q).symm.trans e) (by simp)), .inl (.inl ((if_pos rfl).trans h))⟩
    · exact ⟨_, mk (fun c => if c = a then H a else none) (fun c o e => by
        by_cases q : c = a
        · rw [q] at e ⊢
          exact (if_pos rfl).symm.trans e
        · exact absurd ((if_neg q).symm.trans e) (by simp)) (fun c ps e => by
        by_cases q : c = a
        · have e' := (if_pos q).symm.trans e
          rw [h] at e'
          cases e'
        · exact absurd ((if_neg q).symm.trans e) (by simp)), .inl (.inr ⟨o, (if_pos rfl).trans h⟩)⟩
    · exact ⟨_, mk (fun _ => none) (fun c o e => by cases e) (fun c ps e => by cases e), .inr h⟩
  obtain ⟨r, R, hq⟩ := hR
  obtain ⟨st, hf⟩ := hf
  refine ⟨rfl, [.lst (ns.map D.int)], r, [], R, .cons (.lst hq (hints r ns)) .nil, ?_⟩
  rw [hf]
  intro v H' r' l S p
  exact p.b
end Dt

set_option maxHeartbeats 4000000
namespace Dt
open PySem PySem.Spec PyProof.Rows L2 HotX L2H LamX
/-! ### the errors' facts, told by the head -/
def excCB (K : PySem.W.Frag) (D : Addr) : Bool :=
  decide (PySem.W.findIn K (.ref D) "__getattribute__" = some (some (.builtin "BaseException.__getattribute__"))) && (decide (PySem.W.findIn K (.ref D) "__getattr__" = some none) && (decide (PySem.W.subIn K (.ref D) (.type "BaseException") = some true) && (PySem.W.hasDictIn K D &&
    (decide (PySem.W.findIn K (.ref D) "__class__" = some (some (.builtin "object.__class__"))) && (decide (PySem.W.specialIn K (.builtin "object.__class__") "__get__" = some (some (.builtin "getset_descriptor.__get__"))) && (decide (PySem.W.takesIn K (.builtin "object.__class__") = some true) && decide (PySem.W.mroIn K D (.type "object") = some true)))))))
theorem excCB_ok {K : PySem.W.Frag} {D : Addr} (h : excCB K D = true) : ExcC K D := by
  unfold excCB at h
  simp only [Bool.and_eq_true, decide_eq_true_eq] at h
  obtain ⟨h1, h2, h3, h4, h5, h6, h7, h8⟩ := h
  exact ⟨h1, h2, h3, h4, h5, h6, h7, h8⟩
def kinB1 (K : PySem.W.Frag) (nm : Str) : Bool := excCB K (He.ga K nm) && ((kinL.all fun C => decide (PySem.W.kitOne K (.ref (He.ga K nm)) (.ref (He.ga K C)) = some (decide (C = nm)))) && (decide (PySem.W.kitOne K (.ref (He.ga K nm)) (.type "ValueError") = some true) &&
  (decide (PySem.W.exmOne K (.ref (He.ga K nm)) (.ref (He.ga K "TooMany")) = some false) && decide (PySem.W.exmOne K (.ref (He.ga K nm)) (.ref (He.ga K "ThereError")) = some true))))
def kinB (K : PySem.W.Frag) : Bool := (kinL.all fun C => decide (PySem.W.nsIn K mainGlobals C = some (some (.ref (He.ga K C))))) && (decide (PySem.W.nsIn K mainGlobals "ThereError" = some (some (.ref (He.ga K "ThereError")))) && (decide (PySem.W.nsIn K mainGlobals "ValueError" = some none) &&
  raisedL.all fun q => kinB1 K q.1))
theorem wordO_mem {nm w : Str} (h : wordO nm = some w) : (nm, w) ∈ raisedL := PySem.mem_of_lookup h
theorem raised_kin : ∀ q ∈ raisedL, q.1 ∈ kinL := by decide +kernel
theorem kinF_of {K : PySem.W.Frag} {h : Heap} {mg : Str → Option Value} (X : K.In h) (G : h.Ns mainGlobals mg) (c : kinB K = true) : KinF K mg := by
  unfold kinB at c
  simp only [Bool.and_eq_true, decide_eq_true_eq, List.all_eq_true] at c
  obtain ⟨h1, h2, h3, h4⟩ := c
  have k1 : ∀ nm w, wordO nm = some w → kinB1 K nm = true := fun nm w hw => h4 (nm, w) (wordO_mem hw)
  have split : ∀ nm w, wordO nm = some w → ExcC K (He.ga K nm) ∧ (∀ C ∈ kinL, PySem.W.kitOne K (.ref (He.ga K nm)) (.ref (He.ga K C)) = some (decide (C = nm))) ∧ PySem.W.kitOne K (.ref (He.ga K nm)) (.type "ValueError") = some true ∧
      PySem.W.exmOne K (.ref (He.ga K nm)) (.ref (He.ga K "TooMany")) = some false ∧ PySem.W.exmOne K (.ref (He.ga K nm)) (.ref (He.ga K "ThereError")) = some true := fun nm w hw => by
    have q := k1 nm w hw
    unfold kinB1 at q
    simp only [Bool.and_eq_true, decide_eq_true_eq, List.all_eq_true] at q
    exact ⟨excCB_ok q.1, q.2.1, q.2.2.1, q.2.2.2.1, q.2.2.2.2⟩
  refine ⟨fun C hC => PySem.W.mg_of X G (h1 C hC), PySem.W.mg_of X G h2, PySem.W.mg_none_of X G h3, fun nm w hw => (split nm w hw).1, fun nm w hw => (split nm w hw).2.1, fun nm w hw => (split nm w hw).2.2.1, fun nm w hw => (split nm w hw).2.2.2.1, fun nm w hw => (split nm w hw).2.2.2.2, fun nm w hw => ?_⟩
  exact PySem.W.mg_of X G (h1 nm (raised_kin (nm, w) (wordO_mem hw)))
/-- where the defs' lambdas are listed -/
def tabL (K : PySem.W.Frag) (tf : List Str) : List (Addr × Str) := tf.map fun f => ((He.cT K (f, none)).2, f ++ ".<locals>." ++ "<lambda>")
def apartB (K : PySem.W.Frag) (tf : List Str) : Bool := tf.all fun f => tf.all fun g => decide (f = g) || !decide ((He.cT K (f, none)).2 = (He.cT K (g, none)).2)
theorem tabL_mem {K : PySem.W.Frag} {tf : List Str} {f : Str} (h : f ∈ tf) : ((He.cT K (f, none)).2, f ++ ".<locals>." ++ "<lambda>") ∈ tabL K tf := List.mem_map.mpr ⟨f, h, rfl⟩
theorem tabL_one {K : PySem.W.Frag} {tf : List Str} {f : Str} (c : apartB K tf = true) (h : f ∈ tf) : ∀ p ∈ tabL K tf, p.1 = (He.cT K (f, none)).2 → p.2 = f ++ ".<locals>." ++ "<lambda>" := fun p hp e => by
  obtain ⟨g, hg, rfl⟩ := List.mem_map.mp hp
  unfold apartB at c
  simp only [List.all_eq_true, Bool.or_eq_true, decide_eq_true_eq, Bool.not_eq_true', decide_eq_false_iff_not] at c
  rcases c g hg f h with q | q
  · rw [q]
  · exact absurd e q
end Dt

set_option maxHeartbeats 4000000
namespace Dt
open PySem PySem.Spec PyProof.Rows L2
/-! ### isinstance of two classes -/
def bIs2 (c c2 : String) : List D → M D
  | [d] => (match tyN d with
    | some t => M.pure (.bl (isTy c t || isTy c2 t))
    | none => M.bad)
  | _ => M.bad
def sIs2 (c c2 : String) (F : SE) : SE := fun env => F env >>= fun d => bIs2 c c2 [d]
section
variable {X : Cx} {T : List (Addr × Str)} {mg : Str → Option Value} {E : XK} {e : Expr} {F : SE} {cn cn2 : Str} {p p2 p4 p5 pos : Pos}
theorem d_isi2 {c c2 : String} {k} (hk : isKinds c = true) (hk2 : isKinds c2 = true) (hg : Gl X "isinstance") (hm : X.mg "isinstance" = none) (hgc : Gl X cn) (hmc : X.mg cn = none) (hvc : bootBuiltins cn = some (.type c)) (hgc2 : Gl X cn2) (hmc2 : X.mg cn2 = none) (hvc2 : bootBuiltins cn2 = some (.type c2)) (he : PE X e (rdE X.K T mg E F))
    (hn : cn ≠ "__name__" := by decide) (hdb : (cn == ("__debug__" : Str)) = false := by decide) (hn2 : cn2 ≠ "__name__" := by decide) (hdb2 : (cn2 == ("__debug__" : Str)) = false := by decide)
    (hs : starEach [e, .Tuple [.Name cn p2, .Name cn2 p4] k p5] X.env = (false, eval e X.env) :: starEach [.Tuple [.Name cn p2, .Name cn2 p4] k p5] X.env := by rfl)
    (hs2 : starEach [.Tuple [.Name cn p2, .Name cn2 p4] k p5] X.env = (false, eval (.Tuple [.Name cn p2, .Name cn2 p4] k p5) X.env) :: starEach [] X.env := by rfl) (hpl : (backTo pos (starEach [.Tuple [.Name cn p2, .Name cn2 p4] k p5] X.env)).any (·.1) = false := by rfl) :
    PE X (.Call (.Name "isinstance" p) [e, .Tuple [.Name cn p2, .Name cn2 p4] k p5] [] pos) (rdE X.K T mg E (sIs2 c c2 F)) :=
  peI (pe_callB call_isiT hg hm boot_isinstance (pa_cons he (pa_cons (pe_tup (pa_cons (pe_bltn (v := .ty c) hgc hmc hvc rfl hn hdb) (pa_cons (pe_bltn (v := .ty c2) hgc2 hmc2 hvc2 rfl hn2 hdb2) pa_nil))) pa_nil hs2) hs) (by decide) (by decide) hs hpl) fun σ H Q h => rd.bind (G := fun d _ => bIs2 c c2 [d]) h fun b r env st x v H1 R p q => by
    have q' : Aft (Rep X.K) X.K T mg E r ((match tyN x with
      | some t => M.pure (.bl (isTy c t || isTy c2 t))
      | none => M.bad : M D) st) Q := q
    cases et : tyN x with
    | none =>
      rw [et] at q'
      exact False.elim q'
    | some t =>
      rw [et] at q'
      refine ⟨by show 2 ≤ sizeLine; decide, fun a ha => ?_⟩
      have hl := R.s.fresh_fl ha
      have S2 := R.s.add ha (o := .tup [.ty c, .ty c2]) (by intro ps z; cases z)
      have le := Rho.add_le (r := r) (p := a) (o := .tup [.ty c, .ty c2]) hl
      refine ⟨v, a, [.ty c, .ty c2], .type t, [.type c, .type c2], isTy c t || isTy c2 t, rfl, upd_same, .cons (.ty c) (.cons (.ty c2) .nil), tyX_of S2.low (p.mono le) et, ?_, q' _ _ _ le S2 (.bl _)⟩
      refine kitAny_cons (kit_ty (isKinds_at hk et)) (fun e => ?_) (fun e => ?_)
      · rw [e, Bool.false_or]
        exact kitAny_cons (kit_ty (isKinds_at hk2 et)) (fun e2 => by rw [e2]; rfl) (fun e2 => e2)
      · rw [e, Bool.true_or]
end
/-! ### a, b = x, y with a list of its own among them -/
def sParOV (i j : Nat) (Fs : SA) (G : SE) : SS := fun env => Fs env >>= fun ds => G env >>= fun d => if i < env.length then M.pure (.nx, (env.set i (.ow ds)).set j (.va d)) else M.bad
def sParVO (i j : Nat) (G : SE) (Fs : SA) : SS := fun env => G env >>= fun d => Fs env >>= fun ds => if j < env.length then M.pure (.nx, (env.set i (.va d)).set j (.ow ds)) else M.bad
section
variable {X : Cx} {T : List (Addr × Str)} {mg : Str → Option Value} {E : XK} {a c d : Expr} {F G : SE} {Fs : SA} {pos p pt pt2 px py pz : Pos} {x y z : Str} {kt k2}
theorem d_parVO (i j : Nat) (hc : X.calm = true) (hN : X.N.Nodup) (he : PE X a (rdE X.K T mg E G)) (hf : PE X c (rdF X.K T mg E Fs)) (hw : swappedStores [.Tuple [.Name x px, .Name y py] kt pt] (.Tuple [a, c] k2 pt2) X.env = pure (some [x, y]))
    (hi : X.N[i]? = some x := by rfl) (hj : X.N[j]? = some y := by rfl) (hij : i ≠ j := by decide) (hx : X.env.scope.names.lookup x = some .local := by rfl) (hy : X.env.scope.names.lookup y = some .local := by rfl)
    (hs : swapsWithSole [.Tuple [.Name x px, .Name y py] kt pt] (.Tuple [a, c] k2 pt2) pos.line X.env = pure false := by rfl)
    (h1 : starEach [a, c] X.env = (false, eval a X.env) :: starEach [c] X.env := by rfl) (h2 : starEach [c] X.env = (false, eval c X.env) :: starEach [] X.env := by rfl) :
    PS X (.Assign [.Tuple [.Name x px, .Name y py] kt pt] (.Tuple [a, c] k2 pt2) pos) (rdS X.K T mg E (sParVO i j G Fs)) :=
  psI (ps_par hc hN hi hj hij hx hy (pa_cons he (pa_cons hf pa_nil h2) h1) hw hs) fun Dn σ H ⟨b, r, env, st, R, h⟩ => ⟨b, r, env, st, R, AftS.bind (f := fun d => Fs env >>= fun ds => if j < env.length then M.pure (.nx, (env.set i (.va d)).set j (.ow ds)) else M.bad) R.bas h fun dv st1 v H1 r1 l S p q => by
    have R1 := R.go l S
    refine ⟨b, r1, env, st1, R1, AftF.toS (f := fun ds => if j < env.length then M.pure (.nx, (env.set i (.va dv)).set j (.ow ds)) else M.bad) R1.bas q fun ds st2 cc xs H2 r2 l2 S2 p2 n q2 => ?_⟩
    by_cases hl : j < env.length
    · rw [if_pos hl] at q2
      have R2 := (R1.go l2 S2).set (p.mono l2) i
      have R3 : Rel X.K T b (r2.hold cc xs) (σ.set i (some v)) (upd H2 cc (.lst xs)) (env.set i (.va dv)) st2 := R2.holdNew n
      refine ⟨v, .ref cc, rfl, q2 _ _ (r2.hold cc xs) (Rho.hold_les R2.bas (R2.bas_none n)) (R3.setOwn (xs := xs) (by show upd r2.fr cc (.lst xs) cc = _; rw [upd_same]) (R2.bas_none n) (reps_fr p2) (by simpa using hl) fun j es _ e => R2.fresh_own n j es e)⟩
    · rw [if_neg hl] at q2
      exact q2.elim⟩
theorem d_parOV (i j : Nat) (hc : X.calm = true) (hN : X.N.Nodup) (hf : PE X a (rdF X.K T mg E Fs)) (he : PE X c (rdE X.K T mg E G)) (hw : swappedStores [.Tuple [.Name x px, .Name y py] kt pt] (.Tuple [a, c] k2 pt2) X.env = pure (some [x, y]))
    (hi : X.N[i]? = some x := by rfl) (hj : X.N[j]? = some y := by rfl) (hij : i ≠ j := by decide) (hx : X.env.scope.names.lookup x = some .local := by rfl) (hy : X.env.scope.names.lookup y = some .local := by rfl)
    (hs : swapsWithSole [.Tuple [.Name x px, .Name y py] kt pt] (.Tuple [a, c] k2 pt2) pos.line X.env = pure false := by rfl)
    (h1 : starEach [a, c] X.env = (false, eval a X.env) :: starEach [c] X.env := by rfl) (h2 : starEach [c] X.env = (false, eval c X.env) :: starEach [] X.env := by rfl) :
    PS X (.Assign [.Tuple [.Name x px, .Name y py] kt pt] (.Tuple [a, c] k2 pt2) pos) (rdS X.K T mg E (sParOV i j Fs G)) :=
  psI (ps_par hc hN hi hj hij hx hy (pa_cons hf (pa_cons he pa_nil h2) h1) hw hs) fun Dn σ H ⟨b, r, env, st, R, h⟩ => ⟨b, r, env, st, R, AftF.toS (f := fun ds => G env >>= fun d => if i < env.length then M.pure (.nx, (env.set i (.ow ds)).set j (.va d)) else M.bad) R.bas h fun ds st1 cc xs H1 r1 l S p n q => by
    have R1 := R.go l S
    have bn := R1.bas_none n
    have R2 : Rel X.K T b (r1.hold cc xs) σ (upd H1 cc (.lst xs)) env st1 := R1.holdNew n
    have q' := AftS.from (Rho.hold_les (xs := xs) R1.bas bn) q
    refine ⟨b, r1.hold cc xs, env, st1, R2, AftS.bind (f := fun d => if i < env.length then M.pure (.nx, (env.set i (.ow ds)).set j (.va d)) else M.bad) R2.bas q' fun dv st2 v H2 r2 l2 S2 p2 q2 => ?_⟩
    by_cases hl : i < env.length
    · rw [if_pos hl] at q2
      have R3 := R2.go l2 S2
      have hfr : r2.fr cc = some (.lst xs) := by
        rw [l2.2.1]
        show upd r1.fr cc (.lst xs) cc = _
        rw [upd_same]
      have pp : Reps X.K r2 xs ds := (reps_fr p : Reps X.K (r1.hold cc xs) xs ds).mono l2
      have R4 := R3.setOwn hfr bn pp hl fun j es _ e => R1.fresh_own n j es e
      exact ⟨.ref cc, v, rfl, q2 _ _ r2 (.refl R3.bas) (R4.set p2 j)⟩
    · rw [if_neg hl] at q2
      exact q2.elim⟩
end
end Dt

set_option maxHeartbeats 4000000
namespace Dt
open PySem PySem.Spec PyProof.Rows L2 HotX L2H LamX
def F__law_deck : SS :=
 sSeq (sIf (sTst (sOp2 opGe (sVar 0) (sOp2 opPow (sC (.int 10)) (sC (.int 18))))) (sRet (sRef (sLstF (sCons (sOp2 opSub (sVar 0) (sOp2 opPow (sC (.int 10)) (sC (.int 18)))) (sCons (sOp2 opMod (sVar 0) (sC (.int 2147483579))) (sCons (sVar 1) (sNil))))))) (sSkip))
 (sRet (sRef (sLstF (sCons (sC (.int 0)) (sCons (sOp2 opMod (sVar 0) (sC (.int 2147483579))) (sCons (sVar 1) (sNil)))))))
def m__law_deck : List D → M D := runD 2 F__law_deck
def F__law_pick : SS :=
 sSeq (sIf (sTst (sOp2 opGt (sOp2 ixD (sVar 0) (sC (.int 0))) (sC (.int 1)))) (sSeq (sSet 2 (sOp2 opMod (sCb bInt (sCons (sOp2 ixD (sVar 0) (sC (.int 0))) (sNil))) (sVar 1)))
 (sSeq (sPut (sVar 0) (sC (.int 0)) (sOp2 opDiv (sOp2 ixD (sVar 0) (sC (.int 0))) (sVar 1)))
 (sRet (sVar 2)))) (sSkip))
 (sSeq (sPut (sVar 0) (sC (.int 2)) (sOp2 opAdd (sOp2 ixD (sVar 0) (sC (.int 2))) (sC (.int 1))))
 (sSeq (sSet 3 (sOp2 opMod (sOp2 opPow (sOp2 opAdd (sOp2 ixD (sVar 0) (sC (.int 1))) (sOp2 opMul (sC (.int 15485867)) (sOp2 ixD (sVar 0) (sC (.int 2))))) (sC (.int 5))) (sC (.int 2147483647))))
 (sSeq (sSet 2 (sOp2 opDiv (sOp2 opMod (sOp2 opPow (sOp2 opAdd (sVar 3) (sOp2 opMul (sC (.int 7919)) (sOp2 ixD (sVar 0) (sC (.int 2))))) (sC (.int 3))) (sC (.int 2147483629))) (sC (.int 32))))
 (sRet (sOp2 opMod (sCb bInt (sCons (sVar 2) (sNil))) (sVar 1))))))
def m__law_pick : List D → M D := runD 4 F__law_pick
def F__law_one : SS :=
 sRet (sOp2 ixD (sVar 1) (sCall m__law_pick (sCons (sVar 0) (sCons (sCb bLen (sCons (sVar 1) (sNil))) (sNil)))))
def m__law_one : List D → M D := runD 2 F__law_one
def E__law_a_step_0 : SE :=
 sOp2 opSub (sCall m__law_pick (sCons (sVar 0) (sCons (sOp2 opAdd (sOp2 opMul (sC (.int 2)) (sVar 2)) (sC (.int 1))) (sNil)))) (sVar 2)
def L__law_a_step_0 : SS :=
 sApp 3 (sCb bTuple (sCons (sComp (iRange (sCons (sVar 1) (sNil))) (.nm 5) [5] sYes E__law_a_step_0) (sNil)))
def F__law_a_step : SS :=
 sSeq (sNew 3 (sLstF (sNil)))
 (sSeq (sFor (iRange (sCons (sVar 1) (sNil))) (.nm 4) [4] L__law_a_step_0)
 (sSeal 3 (sRet (sTup (sCons (sCall m__law_one (sCons (sVar 0) (sCons (sLst (sCons (sC (.int 1)) (sCons (sC (.int 1)) (sCons (sC (.int 1)) (sCons (sC (.int 1)) (sCons (sC (.int 2)) (sCons (sC (.int 5)) (sNil)))))))) (sNil)))) (sCons (sCb bTuple (sCons (sVar 3) (sNil))) (sNil)))))))
def m__law_a_step : List D → M D := runD 6 F__law_a_step
def C__law_low_0 : SB :=
 sTst (sOp2 opGt (sVar 3) (sC (.int 0)))
def L__law_low_0 : SS :=
 sPar [2, 3] (sCons (sVar 3) (sCons (sOp2 opMod (sVar 2) (sVar 3)) (sNil)))
def F__law_low : SS :=
 sSeq (sPar [2, 3] (sCons (sCb bAbs (sCons (sVar 0) (sNil))) (sCons (sCb bAbs (sCons (sVar 1) (sNil))) (sNil))))
 (sSeq (sWhile (fuelI 3) C__law_low_0 [] L__law_low_0)
 (sSeq (sSet 4 (sIfE (sTst (sOp2 opLt (sVar 1) (sC (.int 0)))) (sOp1 opNeg (sC (.int 1))) (sC (.int 1))))
 (sRet (sTup (sCons (sOp2 opDiv (sOp2 opMul (sVar 4) (sVar 0)) (sVar 2)) (sCons (sOp2 opDiv (sOp2 opMul (sVar 4) (sVar 1)) (sVar 2)) (sNil)))))))
def m__law_low : List D → M D := runD 5 F__law_low
def L__law_a_stand_0 : SS :=
 sSeq (sSet 5 (sOp2 opSub (sCall m__law_pick (sCons (sVar 0) (sCons (sOp2 opAdd (sOp2 opMul (sC (.int 2)) (sVar 2)) (sC (.int 1))) (sNil)))) (sVar 2)))
 (sApp 3 (sCall m__law_low (sCons (sVar 5) (sCons (sCall m__law_one (sCons (sVar 0) (sCons (sLst (sCons (sC (.int 1)) (sCons (sC (.int 1)) (sCons (sC (.int 1)) (sCons (sC (.int 2)) (sCons (sC (.int 3)) (sCons (sC (.int 10)) (sNil)))))))) (sNil)))) (sNil)))))
def F__law_a_stand : SS :=
 sSeq (sNew 3 (sLstF (sNil)))
 (sSeq (sFor (iRange (sCons (sVar 1) (sNil))) (.nm 4) [4, 5] L__law_a_stand_0)
 (sSeal 3 (sRet (sCb bTuple (sCons (sVar 3) (sNil))))))
def m__law_a_stand : List D → M D := runD 6 F__law_a_stand
def L__law_next_0 : SS :=
 sAsg (.tp [4, 5]) (sCall m__law_low (sCons (sOp2 opAdd (sOp2 opMul (sVar 4) (sOp2 ixD (sVar 7) (sC (.int 1)))) (sOp2 opMul (sOp2 opMul (sVar 6) (sOp2 ixD (sVar 7) (sC (.int 0)))) (sVar 5))) (sCons (sOp2 opMul (sVar 5) (sOp2 ixD (sVar 7) (sC (.int 1)))) (sNil))))
def L__law_next_1 : SS :=
 sSeq (sAsg (.tp [4, 5]) (sTup (sCons (sC (.int 0)) (sCons (sC (.int 1)) (sNil)))))
 (sSeq (sFor (iZip (sCons (sVar 3) (sCons (sVar 1) (sNil)))) (.tp [6, 7]) [6, 7] L__law_next_0)
 (sApp 2 (sCall m__law_low (sCons (sVar 4) (sCons (sOp2 opMul (sVar 5) (sOp2 ixD (sVar 0) (sC (.int 0)))) (sNil))))))
def F__law_next : SS :=
 sSeq (sNew 2 (sLstF (sNil)))
 (sSeq (sFor (iSeqS (sOp2 ixD (sVar 0) (sC (.int 1)))) (.nm 3) [3, 4, 5, 6, 7] L__law_next_1)
 (sSeal 2 (sRet (sCb bTuple (sCons (sVar 2) (sNil))))))
def m__law_next : List D → M D := runD 8 F__law_next
def L__law_after_0 : SS :=
 sSet 1 (sCall m__law_next (sCons (sVar 0) (sCons (sVar 1) (sNil))))
def F__law_after : SS :=
 sSeq (sFor (iRange (sCons (sVar 2) (sNil))) (.nm 3) [3] L__law_after_0)
 (sRet (sVar 1))
def m__law_after : List D → M D := runD 4 F__law_after
def I__law_facts_0 : SB :=
 sOr (sTst (sOp2 opGt (sCb bAbs (sCons (sOp2 ixD (sVar 8) (sC (.int 0))) (sNil))) (sOp2 opPow (sC (.int 10)) (sC (.int 30))))) (sTst (sOp2 opGt (sOp2 ixD (sVar 8) (sC (.int 1))) (sC (.int 100))))
def E__law_facts_0 : SE :=
 sC (.int 1)
def L__law_facts_0 : SS :=
 sSeq (sPar [5, 6] (sCons (sCall m__law_a_stand (sCons (sVar 0) (sCons (sVar 3) (sCons (sC (.int 3)) (sNil))))) (sCons (sCall m__law_pick (sCons (sVar 0) (sCons (sC (.int 4)) (sNil)))) (sNil))))
 (sSeq (sSet 7 (sCall m__law_after (sCons (sVar 1) (sCons (sVar 5) (sCons (sVar 6) (sNil))))))
 (sIf (sTst (sOp2 opEq (sComp (iSeqS (sVar 7)) (.nm 8) [8] I__law_facts_0 E__law_facts_0) (sLst (sNil)))) (sSet 2 (sOp2 opAdd (sVar 2) (sTup (sCons (sTup (sCons (sVar 5) (sCons (sVar 6) (sCons (sVar 7) (sNil))))) (sNil))))) (sSkip)))
def F__law_facts : SS :=
 sSeq (sPar [2, 3] (sCons (sTup (sNil)) (sCons (sCb bLen (sCons (sOp2 ixD (sVar 1) (sC (.int 1))) (sNil))) (sNil))))
 (sSeq (sFor (iRange (sCons (sOp2 opAdd (sC (.int 1)) (sCall m__law_pick (sCons (sVar 0) (sCons (sC (.int 3)) (sNil))))) (sNil))) (.nm 4) [4, 5, 6, 7] L__law_facts_0)
 (sRet (sVar 2)))
def m__law_facts : List D → M D := runD 9 F__law_facts
def E__law_other_0 : SE :=
 sRef (sListF (sCons (sVar 5) (sNil)))
def E__law_other_1 : SE :=
 sCb bTuple (sCons (sVar 5) (sNil))
def F__law_other : SS :=
 sSeq (sSet 4 (sComp (iSeqS (sOp2 ixD (sVar 0) (sC (.int 1)))) (.nm 5) [5] sYes E__law_other_0))
 (sSeq (sPut (sOp2 ixD (sVar 4) (sVar 1)) (sVar 2) (sVar 3))
 (sRet (sTup (sCons (sOp2 ixD (sVar 0) (sC (.int 0))) (sCons (sCb bTuple (sCons (sComp (iSeqS (sVar 4)) (.nm 5) [5] sYes E__law_other_1) (sNil))) (sNil))))))
def m__law_other : List D → M D := fun ds => cutM (runD 6 F__law_other ds)
def L__law_goes_0 : SS :=
 sIf (sTst (sOp2 opNe (sCall m__law_after (sCons (sVar 0) (sCons (sVar 2) (sCons (sVar 3) (sNil))))) (sVar 4))) (sRet (sC (.bl false))) (sSkip)
def F__law_goes : SS :=
 sSeq (sFor (iSeqS (sVar 1)) (.tp [2, 3, 4]) [2, 3, 4] L__law_goes_0)
 (sRet (sC (.bl true)))
def m__law_goes : List D → M D := runD 5 F__law_goes
def F__law_sort : SS :=
 sSeq (sIf (sTst (sIs "bool" (sVar 0))) (sRet (sC (.int 1))) (sSkip))
 (sSeq (sIf (sTst (sIs "int" (sVar 0))) (sRet (sC (.int 2))) (sSkip))
 (sSeq (sIf (sTst (sIs "str" (sVar 0))) (sRet (sC (.int 3))) (sSkip))
 (sSeq (sIf (sTst (sIs "list" (sVar 0))) (sRet (sC (.int 4))) (sSkip))
 (sRet (sIfE (sTst (sIs "tuple" (sVar 0))) (sC (.int 5)) (sC (.int 6)))))))
def m__law_sort : List D → M D := runD 1 F__law_sort
def I__law_same_0 (rec : List D → M D) : SB :=
 sNot (sTst (sCall rec (sCons (sVar 3) (sCons (sOp2 ixD (sVar 1) (sVar 2)) (sNil)))))
def E__law_same_0 : SE :=
 sVar 2
def F__law_same (rec : List D → M D) : SS :=
 sSeq (sIf (sTst (sOp2 opNe (sCall m__law_sort (sCons (sVar 0) (sNil))) (sCall m__law_sort (sCons (sVar 1) (sNil))))) (sRet (sC (.bl false))) (sSkip))
 (sSeq (sIf (sAnd (sTst (sOp2 opGt (sCall m__law_sort (sCons (sVar 0) (sNil))) (sC (.int 3)))) (sTst (sOp2 opLt (sCall m__law_sort (sCons (sVar 0) (sNil))) (sC (.int 6))))) (sSeq (sIf (sTst (sOp2 opNe (sCb bLen (sCons (sVar 0) (sNil))) (sCb bLen (sCons (sVar 1) (sNil))))) (sRet (sC (.bl false))) (sSkip))
 (sRet (sOp2 opEq (sComp (iEnum (sCons (sVar 0) (sNil))) (.tp [2, 3]) [2, 3] (I__law_same_0 rec) E__law_same_0) (sLst (sNil))))) (sSkip))
 (sRet (sOp2 opEq (sVar 0) (sVar 1))))
def m__law_same : Nat → List D → M D
  | 0 => fun _ => M.bad
  | n + 1 => runD 4 (F__law_same (m__law_same n))
def F_is_within : SS :=
 sRet (sAndV (sIs "int" (sVar 0)) (sAndV (sNotV (sIs "bool" (sVar 0))) (sChain opLe opLe (sVar 1) (sVar 0) (sVar 2))))
def m_is_within : List D → M D := runD 3 F_is_within
def E_is_row_0 : SE :=
 sCall m_is_within (sCons (sVar 3) (sCons (sOp1 opNeg (sVar 2)) (sCons (sVar 2) (sNil))))
def F_is_row : SS :=
 sRet (sAndV (sIs "tuple" (sVar 0)) (sAndV (sOp2 opEq (sCb bLen (sCons (sVar 0) (sNil))) (sVar 1)) (sCb bAll (sCons (sComp (iSeqS (sVar 0)) (.nm 3) [3] sYes E_is_row_0) (sNil)))))
def m_is_row : List D → M D := runD 4 F_is_row
def E_is_step_value_0 : SE :=
 sCall m_is_row (sCons (sVar 1) (sCons (sCb bLen (sCons (sOp2 ixD (sVar 0) (sC (.int 1))) (sNil))) (sCons (sC (.int 9)) (sNil))))
def F_is_step_value : SS :=
 sSeq (sIf (sOr (sNot (sTst (sIs "tuple" (sVar 0)))) (sOr (sTst (sOp2 opNe (sCb bLen (sCons (sVar 0) (sNil))) (sC (.int 2)))) (sNot (sTst (sCall m_is_within (sCons (sOp2 ixD (sVar 0) (sC (.int 0))) (sCons (sC (.int 1)) (sCons (sC (.int 9)) (sNil))))))))) (sRet (sC (.bl false))) (sSkip))
 (sSeq (sIf (sOr (sNot (sTst (sIs "tuple" (sOp2 ixD (sVar 0) (sC (.int 1)))))) (sNot (sTst (sChain opLe opLe (sC (.int 1)) (sCb bLen (sCons (sOp2 ixD (sVar 0) (sC (.int 1))) (sNil))) (sC (.int 3)))))) (sRet (sC (.bl false))) (sSkip))
 (sRet (sCb bAll (sCons (sComp (iSeqS (sOp2 ixD (sVar 0) (sC (.int 1)))) (.nm 1) [1] sYes E_is_step_value_0) (sNil)))))
def m_is_step_value : List D → M D := runD 2 F_is_step_value
def F_need_step : SS :=
 sIf (sNot (sTst (sCall m_is_step_value (sCons (sVar 0) (sNil))))) (sRaise ⟨"InvalidStep", none⟩) (sSkip)
def m_need_step : List D → M D := runD 1 F_need_step
def C_divisor_0 : SB :=
 sTst (sOp2 opNe (sVar 1) (sC (.int 0)))
def L_divisor_0 : SS :=
 sPar [0, 1] (sCons (sVar 1) (sCons (sOp2 opMod (sVar 0) (sVar 1)) (sNil)))
def F_divisor : SS :=
 sSeq (sWhile (fuelI 1) C_divisor_0 [] L_divisor_0)
 (sRet (sCb bAbs (sCons (sVar 0) (sNil))))
def m_divisor : List D → M D := runD 2 F_divisor
def F_is_fraction : SS :=
 sSeq (sIf (sOr (sNot (sTst (sIs "tuple" (sVar 0)))) (sOr (sTst (sOp2 opNe (sCb bLen (sCons (sVar 0) (sNil))) (sC (.int 2)))) (sNot (sTst (sCall m_is_within (sCons (sOp2 ixD (sVar 0) (sC (.int 0))) (sCons (sOp1 opNeg (sC (.int 1000000000000000000000000000000))) (sCons (sC (.int 1000000000000000000000000000000)) (sNil))))))))) (sRet (sC (.bl false))) (sSkip))
 (sRet (sAndV (sCall m_is_within (sCons (sOp2 ixD (sVar 0) (sC (.int 1))) (sCons (sC (.int 1)) (sCons (sC (.int 100)) (sNil))))) (sOp2 opEq (sCall m_divisor (sCons (sOp2 ixD (sVar 0) (sC (.int 0))) (sCons (sOp2 ixD (sVar 0) (sC (.int 1))) (sNil)))) (sC (.int 1)))))
def m_is_fraction : List D → M D := runD 1 F_is_fraction
def E_is_stand_value_0 : SE :=
 sCall m_is_fraction (sCons (sVar 2) (sNil))
def F_is_stand_value : SS :=
 sRet (sAndV (sIs "tuple" (sVar 0)) (sAndV (sOp2 opEq (sCb bLen (sCons (sVar 0) (sNil))) (sVar 1)) (sCb bAll (sCons (sComp (iSeqS (sVar 0)) (.nm 2) [2] sYes E_is_stand_value_0) (sNil)))))
def m_is_stand_value : List D → M D := runD 3 F_is_stand_value
def L_need_facts_0 : SS :=
 sSeq (sIf (sOr (sNot (sTst (sIs "tuple" (sVar 2)))) (sOr (sTst (sOp2 opNe (sCb bLen (sCons (sVar 2) (sNil))) (sC (.int 3)))) (sNot (sTst (sCall m_is_within (sCons (sOp2 ixD (sVar 2) (sC (.int 1))) (sCons (sC (.int 0)) (sCons (sC (.int 20)) (sNil))))))))) (sRaise ⟨"InvalidFacts", none⟩) (sSkip))
 (sIf (sOr (sNot (sTst (sCall m_is_stand_value (sCons (sOp2 ixD (sVar 2) (sC (.int 0))) (sCons (sCb bLen (sCons (sOp2 ixD (sVar 0) (sC (.int 1))) (sNil))) (sNil)))))) (sNot (sTst (sCall m_is_stand_value (sCons (sOp2 ixD (sVar 2) (sC (.int 2))) (sCons (sCb bLen (sCons (sOp2 ixD (sVar 0) (sC (.int 1))) (sNil))) (sNil))))))) (sRaise ⟨"InvalidFacts", none⟩) (sSkip))
def F_need_facts : SS :=
 sSeq (sIf (sOr (sNot (sTst (sIs "tuple" (sVar 1)))) (sNot (sTst (sChain opLe opLe (sC (.int 1)) (sCb bLen (sCons (sVar 1) (sNil))) (sC (.int 3)))))) (sRaise ⟨"InvalidFacts", none⟩) (sSkip))
 (sFor (iSeqS (sVar 1)) (.nm 2) [2] L_need_facts_0)
def m_need_facts : List D → M D := runD 3 F_need_facts
def F_fraction : SS :=
 sSeq (sSet 2 (sCall m_divisor (sCons (sVar 0) (sCons (sVar 1) (sNil)))))
 (sSeq (sSet 2 (sIfE (sTst (sOp2 opLt (sVar 1) (sC (.int 0)))) (sOp1 opNeg (sVar 2)) (sVar 2)))
 (sRet (sTup (sCons (sOp2 opDiv (sVar 0) (sVar 2)) (sCons (sOp2 opDiv (sVar 1) (sVar 2)) (sNil))))))
def m_fraction : List D → M D := runD 3 F_fraction
def F_plus : SS :=
 sRet (sCall m_fraction (sCons (sOp2 opAdd (sOp2 opMul (sOp2 ixD (sVar 0) (sC (.int 0))) (sOp2 ixD (sVar 1) (sC (.int 1)))) (sOp2 opMul (sOp2 ixD (sVar 1) (sC (.int 0))) (sOp2 ixD (sVar 0) (sC (.int 1))))) (sCons (sOp2 opMul (sOp2 ixD (sVar 0) (sC (.int 1))) (sOp2 ixD (sVar 1) (sC (.int 1)))) (sNil))))
def m_plus : List D → M D := runD 2 F_plus
def L_next_stand_0 : SS :=
 sSet 4 (sCall m_plus (sCons (sVar 4) (sCons (sCall m_fraction (sCons (sOp2 opMul (sVar 5) (sOp2 ixD (sVar 6) (sC (.int 0)))) (sCons (sOp2 ixD (sVar 6) (sC (.int 1))) (sNil)))) (sNil))))
def L_next_stand_1 : SS :=
 sSeq (sSet 4 (sTup (sCons (sC (.int 0)) (sCons (sC (.int 1)) (sNil)))))
 (sSeq (sFor (iZip (sCons (sVar 3) (sCons (sVar 1) (sNil)))) (.tp [5, 6]) [5, 6] L_next_stand_0)
 (sApp 2 (sCall m_fraction (sCons (sOp2 ixD (sVar 4) (sC (.int 0))) (sCons (sOp2 opMul (sOp2 ixD (sVar 4) (sC (.int 1))) (sOp2 ixD (sVar 0) (sC (.int 0)))) (sNil))))))
def F_next_stand : SS :=
 sSeq (sNew 2 (sLstF (sNil)))
 (sSeq (sFor (iSeqS (sOp2 ixD (sVar 0) (sC (.int 1)))) (.nm 3) [3, 4, 5, 6] L_next_stand_1)
 (sSeal 2 (sRet (sCb bTuple (sCons (sVar 2) (sNil))))))
def m_next_stand : List D → M D := runD 7 F_next_stand
def L_stand_after_0 : SS :=
 sSet 1 (sCall m_next_stand (sCons (sVar 0) (sCons (sVar 1) (sNil))))
def F_stand_after : SS :=
 sSeq (sFor (iRange (sCons (sVar 2) (sNil))) (.nm 3) [3] L_stand_after_0)
 (sRet (sVar 1))
def m_stand_after : List D → M D := runD 4 F_stand_after
def E_is_so_0 : SE :=
 sOp2 opEq (sCall m_stand_after (sCons (sVar 0) (sCons (sVar 2) (sCons (sVar 3) (sNil))))) (sVar 4)
def F_is_so : SS :=
 sRet (sCb bAll (sCons (sComp (iSeqS (sVar 1)) (.tp [2, 3, 4]) [2, 3, 4] sYes E_is_so_0) (sNil)))
def m_is_so : List D → M D := runD 5 F_is_so
def F_with_entry : SS :=
 sSeq (sAsg (.tp [4, 5]) (sVar 0))
 (sSeq (sSet 6 (sOp2 opAdd (sOp2 opAdd (sSlice (sOp2 ixD (sVar 5) (sVar 1)) (sNoPart) (sPart (sVar 2))) (sTup (sCons (sVar 3) (sNil)))) (sSlice (sOp2 ixD (sVar 5) (sVar 1)) (sPart (sOp2 opAdd (sVar 2) (sC (.int 1)))) (sNoPart))))
 (sRet (sTup (sCons (sVar 4) (sCons (sOp2 opAdd (sOp2 opAdd (sSlice (sVar 5) (sNoPart) (sPart (sVar 1))) (sTup (sCons (sVar 6) (sNil)))) (sSlice (sVar 5) (sPart (sOp2 opAdd (sVar 1) (sC (.int 1)))) (sNoPart))) (sNil))))))
def m_with_entry : List D → M D := runD 7 F_with_entry
def L_entries_told_0 : SS :=
 sIf (sAnd (sTst (sOp2 opNe (sVar 7) (sVar 6))) (sTst (sCall m_is_so (sCons (sCall m_with_entry (sCons (sVar 0) (sCons (sVar 3) (sCons (sVar 5) (sCons (sVar 7) (sNil)))))) (sCons (sVar 1) (sNil)))))) (sApp 2 (sTup (sCons (sVar 3) (sCons (sVar 5) (sCons (sVar 7) (sNil)))))) (sSkip)
def L_entries_told_1 : SS :=
 sFor (iRange (sCons (sOp1 opNeg (sC (.int 9))) (sCons (sOp2 opAdd (sC (.int 9)) (sC (.int 1))) (sNil)))) (.nm 7) [7] L_entries_told_0
def L_entries_told_2 : SS :=
 sFor (iEnum (sCons (sVar 4) (sNil))) (.tp [5, 6]) [5, 6, 7] L_entries_told_1
def F_entries_told : SS :=
 sSeq (sDrop (sCall m_need_step (sCons (sVar 0) (sNil))))
 (sSeq (sDrop (sCall m_need_facts (sCons (sVar 0) (sCons (sVar 1) (sNil)))))
 (sSeq (sNew 2 (sLstF (sNil)))
 (sSeq (sFor (iEnum (sCons (sOp2 ixD (sVar 0) (sC (.int 1))) (sNil))) (.tp [3, 4]) [3, 4, 5, 6, 7] L_entries_told_2)
 (sSeal 2 (sRet (sVar 2))))))
def m_entries_told : List D → M D := runD 8 F_entries_told
def F_goes_with : SS :=
 sSeq (sDrop (sCall m_need_step (sCons (sVar 0) (sNil))))
 (sSeq (sDrop (sCall m_need_facts (sCons (sVar 0) (sCons (sVar 1) (sNil)))))
 (sRet (sCall m_is_so (sCons (sVar 0) (sCons (sVar 1) (sNil))))))
def m_goes_with : List D → M D := runD 2 F_goes_with
def F__law_kin (a : Addr) (nm : Str) : SS :=
 sSeq (sNew 1 (sLstF (sCons (sIsP 0 a (decide (("InvalidStep" : Str) = nm))) (sCons (sIsP 0 a (decide (("InvalidStand" : Str) = nm))) (sCons (sIsP 0 a (decide (("InvalidNumber" : Str) = nm))) (sNil))))))
 (sSeal 1 (sSeq (sNew 1 (sCatF (sVar 1) (sLst (sCons (sIsP 0 a (decide (("InvalidPlane" : Str) = nm))) (sCons (sIsP 0 a (decide (("InvalidFacts" : Str) = nm))) (sNil))))))
 (sSeq (sApp 1 (sIsP 0 a (decide (("InvalidText" : Str) = nm))))
 (sSeal 1 (sSeq (sNew 1 (sCatF (sVar 1) (sLst (sCons (sIsP 0 a (decide (("Unlike" : Str) = nm))) (sCons (sIsP 0 a (decide (("NoWay" : Str) = nm))) (sCons (sIsP 0 a (decide (("Beyond" : Str) = nm))) (sNil)))))))
 (sSeal 1 (sSeq (sNew 1 (sCatF (sVar 1) (sLst (sCons (sIsP 0 a (decide (("NothingToUndo" : Str) = nm))) (sCons (sIsP 0 a (decide (("TooMany" : Str) = nm))) (sCons (sIsP 0 a true) (sNil)))))))
 (sSeq (sSet 2 (sC (.str "step stand number plane facts text unlike noway beyond undo many +")))
 (sSeal 1 (sRet (sStr2 bJoin (sC (.str " ")) (sComp (iZipLs (sCons (sStr2 bSplit (sVar 2) (sC (.str " "))) (sCons (sVar 1) (sNil)))) (.tp [3, 4]) [3, 4] (sTst (sVar 4)) (sVar 3)))))))))))))
def F__law_known : SS :=
 sSeq (sAsg (.tp [0, 1, 2]) (sTup (sCons (sTup (sCons (sC (.int 1)) (sCons (sTup (sCons (sTup (sCons (sC (.int 1)) (sCons (sC (.int 1)) (sNil)))) (sCons (sTup (sCons (sC (.int 0)) (sCons (sC (.int 1)) (sNil)))) (sNil)))) (sNil)))) (sCons (sTup (sCons (sC (.int 1)) (sCons (sTup (sCons (sTup (sCons (sC (.int 0)) (sCons (sC (.int 1)) (sNil)))) (sCons (sTup (sCons (sC (.int 1)) (sCons (sC (.int 1)) (sNil)))) (sNil)))) (sNil)))) (sCons (sTup (sCons (sC (.int 1)) (sCons (sTup (sCons (sTup (sCons (sC (.int 0)) (sCons (sOp1 opNeg (sC (.int 1))) (sNil)))) (sCons (sTup (sCons (sC (.int 1)) (sCons (sC (.int 0)) (sNil)))) (sNil)))) (sNil)))) (sNil))))))
 (sSeq (sAsg (.tp [3, 4, 5]) (sTup (sCons (sTup (sCons (sC (.int 5)) (sCons (sTup (sCons (sTup (sCons (sC (.int 3)) (sCons (sOp1 opNeg (sC (.int 4))) (sNil)))) (sCons (sTup (sCons (sC (.int 4)) (sCons (sC (.int 3)) (sNil)))) (sNil)))) (sNil)))) (sCons (sTup (sCons (sC (.int 1)) (sCons (sTup (sCons (sTup (sCons (sC (.int 2)) (sCons (sC (.int 0)) (sNil)))) (sCons (sTup (sCons (sC (.int 0)) (sCons (sC (.int 3)) (sNil)))) (sNil)))) (sNil)))) (sCons (sTup (sCons (sC (.int 1)) (sCons (sTup (sCons (sTup (sCons (sC (.int 0)) (sCons (sC (.int 1)) (sNil)))) (sCons (sTup (sCons (sC (.int 0)) (sCons (sC (.int 0)) (sNil)))) (sNil)))) (sNil)))) (sNil))))))
 (sRet (sTup (sCons (sVar 0) (sCons (sVar 1) (sCons (sVar 2) (sCons (sVar 3) (sCons (sVar 4) (sCons (sVar 5) (sNil))))))))))
def m__law_known : List D → M D := runD 6 F__law_known
def F__law_stands : SS :=
 sRet (sTup (sCons (sTup (sCons (sTup (sCons (sC (.int 0)) (sCons (sC (.int 1)) (sNil)))) (sCons (sTup (sCons (sC (.int 1)) (sCons (sC (.int 1)) (sNil)))) (sNil)))) (sCons (sTup (sCons (sTup (sCons (sC (.int 1)) (sCons (sC (.int 1)) (sNil)))) (sCons (sTup (sCons (sC (.int 0)) (sCons (sC (.int 1)) (sNil)))) (sNil)))) (sCons (sTup (sCons (sTup (sCons (sC (.int 1)) (sCons (sC (.int 1)) (sNil)))) (sCons (sTup (sCons (sC (.int 1)) (sCons (sC (.int 1)) (sNil)))) (sNil)))) (sCons (sTup (sCons (sTup (sCons (sC (.int 0)) (sCons (sC (.int 1)) (sNil)))) (sCons (sTup (sCons (sC (.int 0)) (sCons (sC (.int 1)) (sNil)))) (sNil)))) (sNil))))))
def m__law_stands : List D → M D := runD 0 F__law_stands
def F__law_even_step : SS :=
 sSeq (sIf (sTst (sOp2 opEq (sVar 1) (sC (.int 1)))) (sRet (sTup (sCons (sC (.int 1)) (sCons (sTup (sCons (sTup (sCons (sCall m__law_one (sCons (sVar 0) (sCons (sLst (sCons (sC (.int 1)) (sCons (sC (.int 1)) (sCons (sOp1 opNeg (sC (.int 1))) (sCons (sC (.int 0)) (sNil)))))) (sNil)))) (sNil))) (sNil))) (sNil))))) (sSkip))
 (sSeq (sSet 2 (sOp2 opSub (sCall m__law_pick (sCons (sVar 0) (sCons (sC (.int 7)) (sNil)))) (sC (.int 3))))
 (sSeq (sIf (sTst (sOp2 opEq (sVar 1) (sC (.int 2)))) (sSeq (sSet 3 (sLst (sCons (sTup (sCons (sTup (sCons (sC (.int 1)) (sCons (sVar 2) (sNil)))) (sCons (sTup (sCons (sC (.int 0)) (sCons (sC (.int 1)) (sNil)))) (sNil)))) (sCons (sTup (sCons (sTup (sCons (sC (.int 1)) (sCons (sC (.int 0)) (sNil)))) (sCons (sTup (sCons (sVar 2) (sCons (sC (.int 1)) (sNil)))) (sNil)))) (sCons (sTup (sCons (sTup (sCons (sC (.int 0)) (sCons (sOp1 opNeg (sC (.int 1))) (sNil)))) (sCons (sTup (sCons (sC (.int 1)) (sCons (sC (.int 0)) (sNil)))) (sNil)))) (sCons (sTup (sCons (sTup (sCons (sC (.int 0)) (sCons (sOp1 opNeg (sC (.int 1))) (sNil)))) (sCons (sTup (sCons (sC (.int 1)) (sCons (sOp1 opNeg (sC (.int 1))) (sNil)))) (sNil)))) (sNil)))))))
 (sSeq (sSet 3 (sOp2 opAdd (sVar 3) (sLst (sCons (sTup (sCons (sTup (sCons (sOp1 opNeg (sC (.int 1))) (sCons (sVar 2) (sNil)))) (sCons (sTup (sCons (sC (.int 0)) (sCons (sOp1 opNeg (sC (.int 1))) (sNil)))) (sNil)))) (sCons (sTup (sCons (sTup (sCons (sC (.int 0)) (sCons (sC (.int 1)) (sNil)))) (sCons (sTup (sCons (sC (.int 1)) (sCons (sC (.int 0)) (sNil)))) (sNil)))) (sCons (sTup (sCons (sTup (sCons (sC (.int 0)) (sCons (sVar 2) (sNil)))) (sCons (sTup (sCons (sC (.int 0)) (sCons (sC (.int 0)) (sNil)))) (sNil)))) (sCons (sTup (sCons (sTup (sCons (sC (.int 1)) (sCons (sVar 2) (sNil)))) (sCons (sTup (sCons (sC (.int 0)) (sCons (sC (.int 0)) (sNil)))) (sNil)))) (sNil))))))))
 (sRet (sTup (sCons (sC (.int 1)) (sCons (sCall m__law_one (sCons (sVar 0) (sCons (sOp2 opAdd (sVar 3) (sLst (sCons (sTup (sCons (sTup (sCons (sC (.int 1)) (sCons (sC (.int 0)) (sNil)))) (sCons (sTup (sCons (sC (.int 0)) (sCons (sOp1 opNeg (sC (.int 1))) (sNil)))) (sNil)))) (sNil)))) (sNil)))) (sNil))))))) (sSkip))
 (sSeq (sSet 4 (sOp2 opSub (sCall m__law_pick (sCons (sVar 0) (sCons (sC (.int 5)) (sNil)))) (sC (.int 2))))
 (sSeq (sSet 3 (sLst (sCons (sTup (sCons (sTup (sCons (sC (.int 1)) (sCons (sVar 2) (sCons (sVar 4) (sNil))))) (sCons (sTup (sCons (sC (.int 0)) (sCons (sC (.int 1)) (sCons (sVar 2) (sNil))))) (sCons (sTup (sCons (sC (.int 0)) (sCons (sC (.int 0)) (sCons (sC (.int 1)) (sNil))))) (sNil))))) (sCons (sTup (sCons (sTup (sCons (sC (.int 0)) (sCons (sC (.int 1)) (sCons (sC (.int 0)) (sNil))))) (sCons (sTup (sCons (sC (.int 0)) (sCons (sC (.int 0)) (sCons (sC (.int 1)) (sNil))))) (sCons (sTup (sCons (sC (.int 1)) (sCons (sC (.int 0)) (sCons (sC (.int 0)) (sNil))))) (sNil))))) (sNil)))))
 (sSeq (sSet 3 (sOp2 opAdd (sVar 3) (sLst (sCons (sTup (sCons (sTup (sCons (sC (.int 1)) (sCons (sVar 2) (sCons (sC (.int 0)) (sNil))))) (sCons (sTup (sCons (sC (.int 0)) (sCons (sC (.int 1)) (sCons (sC (.int 0)) (sNil))))) (sCons (sTup (sCons (sC (.int 0)) (sCons (sC (.int 0)) (sCons (sOp1 opNeg (sC (.int 1))) (sNil))))) (sNil))))) (sCons (sTup (sCons (sTup (sCons (sC (.int 0)) (sCons (sOp1 opNeg (sC (.int 1))) (sCons (sC (.int 0)) (sNil))))) (sCons (sTup (sCons (sC (.int 1)) (sCons (sC (.int 0)) (sCons (sC (.int 0)) (sNil))))) (sCons (sTup (sCons (sC (.int 0)) (sCons (sC (.int 0)) (sCons (sC (.int 1)) (sNil))))) (sNil))))) (sNil))))))
 (sSeq (sSet 3 (sOp2 opAdd (sVar 3) (sLst (sCons (sTup (sCons (sTup (sCons (sC (.int 1)) (sCons (sVar 2) (sCons (sVar 4) (sNil))))) (sCons (sTup (sCons (sC (.int 0)) (sCons (sC (.int 1)) (sCons (sC (.int 1)) (sNil))))) (sCons (sTup (sCons (sC (.int 0)) (sCons (sC (.int 0)) (sCons (sC (.int 0)) (sNil))))) (sNil))))) (sCons (sTup (sCons (sTup (sCons (sC (.int 0)) (sCons (sC (.int 1)) (sCons (sVar 2) (sNil))))) (sCons (sTup (sCons (sC (.int 0)) (sCons (sC (.int 0)) (sCons (sC (.int 1)) (sNil))))) (sCons (sTup (sCons (sC (.int 0)) (sCons (sC (.int 0)) (sCons (sC (.int 0)) (sNil))))) (sNil))))) (sNil))))))
 (sRet (sTup (sCons (sC (.int 1)) (sCons (sCall m__law_one (sCons (sVar 0) (sCons (sOp2 opAdd (sVar 3) (sLst (sCons (sTup (sCons (sTup (sCons (sC (.int 1)) (sCons (sC (.int 0)) (sCons (sVar 2) (sNil))))) (sCons (sTup (sCons (sC (.int 0)) (sCons (sC (.int 0)) (sCons (sOp1 opNeg (sC (.int 1))) (sNil))))) (sCons (sTup (sCons (sC (.int 0)) (sCons (sC (.int 1)) (sCons (sOp1 opNeg (sC (.int 1))) (sNil))))) (sNil))))) (sNil)))) (sNil)))) (sNil)))))))))))
def m__law_even_step : List D → M D := runD 5 F__law_even_step
def E__law_a_plane_0 : SE :=
 sOp2 opSub (sCall m__law_pick (sCons (sVar 0) (sCons (sC (.int 7)) (sNil)))) (sC (.int 3))
def L__law_a_plane_0 : SS :=
 sAsg (.tp [7, 8]) (sCall m__law_low (sCons (sOp2 opAdd (sOp2 opMul (sVar 7) (sOp2 ixD (sVar 10) (sC (.int 1)))) (sOp2 opMul (sOp2 opMul (sVar 9) (sOp2 ixD (sVar 10) (sC (.int 0)))) (sVar 8))) (sCons (sOp2 opMul (sVar 8) (sOp2 ixD (sVar 10) (sC (.int 1)))) (sNil))))
def E__law_a_plane_1 : SE :=
 sOp2 opMul (sVar 9) (sVar 8)
def F__law_a_plane : SS :=
 sSeq (sSet 3 (sCb bLen (sCons (sVar 2) (sNil))))
 (sSeq (sSet 4 (sCb bTuple (sCons (sComp (iRange (sCons (sVar 3) (sNil))) (.nm 5) [5] sYes E__law_a_plane_0) (sNil))))
 (sSeq (sIf (sTst (sOp2 opEq (sCall m__law_pick (sCons (sVar 0) (sCons (sC (.int 4)) (sNil)))) (sC (.int 0)))) (sRet (sOp2 opAdd (sOp2 opMul (sTup (sCons (sC (.int 0)) (sNil))) (sVar 3)) (sTup (sCons (sCall m__law_pick (sCons (sVar 0) (sCons (sC (.int 2)) (sNil)))) (sNil))))) (sSkip))
 (sSeq (sSet 6 (sCall m__law_after (sCons (sVar 1) (sCons (sVar 2) (sCons (sCall m__law_pick (sCons (sVar 0) (sCons (sC (.int 6)) (sNil)))) (sNil))))))
 (sSeq (sAsg (.tp [7, 8]) (sTup (sCons (sC (.int 0)) (sCons (sC (.int 1)) (sNil)))))
 (sSeq (sFor (iZip (sCons (sVar 4) (sCons (sVar 6) (sNil)))) (.tp [9, 10]) [9, 10] L__law_a_plane_0)
 (sSeq (sIf (sOr (sTst (sOp2 opGt (sCb bAbs (sCons (sVar 7) (sNil))) (sOp2 opPow (sC (.int 10)) (sC (.int 6))))) (sTst (sOp2 opGt (sVar 8) (sOp2 opPow (sC (.int 10)) (sC (.int 5)))))) (sRet (sOp2 opAdd (sVar 4) (sTup (sCons (sC (.int 0)) (sNil))))) (sSkip))
 (sRet (sOp2 opAdd (sCb bTuple (sCons (sComp (iSeqS (sVar 4)) (.nm 9) [9] sYes E__law_a_plane_1) (sNil))) (sTup (sCons (sVar 7) (sNil)))))))))))
def m__law_a_plane : List D → M D := runD 11 F__law_a_plane
def L__law_is_on_0 : SS :=
 sPar [2, 3] (sCons (sOp2 opAdd (sOp2 opMul (sVar 2) (sOp2 ixD (sVar 5) (sC (.int 1)))) (sOp2 opMul (sOp2 opMul (sVar 4) (sOp2 ixD (sVar 5) (sC (.int 0)))) (sVar 3))) (sCons (sOp2 opMul (sVar 3) (sOp2 ixD (sVar 5) (sC (.int 1)))) (sNil)))
def F__law_is_on : SS :=
 sSeq (sPar [2, 3] (sCons (sOp1 opNeg (sOp2 ixD (sVar 1) (sOp1 opNeg (sC (.int 1))))) (sCons (sC (.int 1)) (sNil))))
 (sSeq (sFor (iZip (sCons (sVar 1) (sCons (sVar 0) (sNil)))) (.tp [4, 5]) [4, 5] L__law_is_on_0)
 (sRet (sOp2 opEq (sVar 2) (sC (.int 0)))))
def m__law_is_on : List D → M D := runD 6 F__law_is_on
def F_need_stand : SS :=
 sIf (sNot (sTst (sCall m_is_stand_value (sCons (sVar 1) (sCons (sCb bLen (sCons (sOp2 ixD (sVar 0) (sC (.int 1))) (sNil))) (sNil)))))) (sRaise ⟨"InvalidStand", none⟩) (sSkip)
def m_need_stand : List D → M D := runD 2 F_need_stand
def F_need_plane : SS :=
 sIf (sNot (sTst (sCall m_is_row (sCons (sVar 1) (sCons (sOp2 opAdd (sCb bLen (sCons (sOp2 ixD (sVar 0) (sC (.int 1))) (sNil))) (sC (.int 1))) (sCons (sOp2 opPow (sC (.int 10)) (sC (.int 6))) (sNil))))))) (sRaise ⟨"InvalidPlane", none⟩) (sSkip)
def m_need_plane : List D → M D := runD 2 F_need_plane
def F_need_number : SS :=
 sIf (sNot (sTst (sCall m_is_within (sCons (sVar 0) (sCons (sVar 1) (sCons (sVar 2) (sNil))))))) (sRaise ⟨"InvalidNumber", none⟩) (sSkip)
def m_need_number : List D → M D := runD 3 F_need_number
def F_need_all : SS :=
 sSeq (sDrop (sCall m_need_step (sCons (sVar 0) (sNil))))
 (sSeq (sDrop (sCall m_need_stand (sCons (sVar 0) (sCons (sVar 1) (sNil)))))
 (sSeq (sDrop (sCall m_need_plane (sCons (sVar 0) (sCons (sVar 2) (sNil)))))
 (sDrop (sCall m_need_number (sCons (sVar 3) (sCons (sC (.int 0)) (sCons (sC (.int 200)) (sNil))))))))
def m_need_all : List D → M D := runD 4 F_need_all
def L_is_on_0 : SS :=
 sSet 2 (sCall m_plus (sCons (sVar 2) (sCons (sCall m_fraction (sCons (sOp2 opMul (sVar 3) (sOp2 ixD (sVar 4) (sC (.int 0)))) (sCons (sOp2 ixD (sVar 4) (sC (.int 1))) (sNil)))) (sNil))))
def F_is_on : SS :=
 sSeq (sSet 2 (sTup (sCons (sOp1 opNeg (sOp2 ixD (sVar 1) (sOp1 opNeg (sC (.int 1))))) (sCons (sC (.int 1)) (sNil)))))
 (sSeq (sFor (iZip (sCons (sVar 1) (sCons (sVar 0) (sNil)))) (.tp [3, 4]) [3, 4] L_is_on_0)
 (sRet (sOp2 opEq (sOp2 ixD (sVar 2) (sC (.int 0))) (sC (.int 0)))))
def m_is_on : List D → M D := runD 5 F_is_on
def L_rounds_on_0 : SS :=
 sSeq (sIf (sTst (sCall m_is_on (sCons (sVar 5) (sCons (sVar 2) (sNil))))) (sApp 4 (sVar 6)) (sSkip))
 (sSet 5 (sCall m_next_stand (sCons (sVar 0) (sCons (sVar 5) (sNil)))))
def F_rounds_on : SS :=
 sSeq (sParOV 4 5 (sLstF (sNil)) (sVar 1))
 (sSeq (sFor (iRange (sCons (sOp2 opAdd (sVar 3) (sC (.int 1))) (sNil))) (.nm 6) [6] L_rounds_on_0)
 (sSeal 4 (sRet (sVar 4))))
def m_rounds_on : List D → M D := runD 7 F_rounds_on
def F_all_on : SS :=
 sSeq (sDrop (sCall m_need_all (sCons (sVar 0) (sCons (sVar 1) (sCons (sVar 2) (sCons (sVar 3) (sNil)))))))
 (sRet (sCall m_rounds_on (sCons (sVar 0) (sCons (sVar 1) (sCons (sVar 2) (sCons (sVar 3) (sNil)))))))
def m_all_on : List D → M D := runD 4 F_all_on
def F_first_on : SS :=
 sSeq (sDrop (sCall m_need_all (sCons (sVar 0) (sCons (sVar 1) (sCons (sVar 2) (sCons (sVar 3) (sNil)))))))
 (sSeq (sSet 4 (sCall m_rounds_on (sCons (sVar 0) (sCons (sVar 1) (sCons (sVar 2) (sCons (sVar 3) (sNil)))))))
 (sRet (sIfE (sTst (sOp2 opNe (sVar 4) (sLst (sNil)))) (sOp2 ixD (sVar 4) (sC (.int 0))) (sC .non))))
def m_first_on : List D → M D := runD 5 F_first_on
def F_stays_on : SS :=
 sSeq (sDrop (sCall m_need_all (sCons (sVar 0) (sCons (sVar 1) (sCons (sVar 2) (sCons (sC (.int 0)) (sNil)))))))
 (sRet (sOp2 opEq (sCall m_rounds_on (sCons (sVar 0) (sCons (sVar 1) (sCons (sVar 2) (sCons (sC (.int 4)) (sNil)))))) (sLst (sCons (sC (.int 0)) (sCons (sC (.int 1)) (sCons (sC (.int 2)) (sCons (sC (.int 3)) (sCons (sC (.int 4)) (sNil)))))))))
def m_stays_on : List D → M D := runD 3 F_stays_on
end Dt

set_option maxHeartbeats 4000000
namespace Dt
open PySem PySem.Spec PyProof.Rows L2
theorem kr_bindM {α β : Type} (a : α) (f : α → M β) : (M.pure a >>= f) = f a := rfl
theorem sIsP_at (a : Addr) (k : Bool) (env : Env) : sIsP 0 a k (.va (.adr a) :: env) = M.pure (.bl k) := by
  show (if a = a then M.pure (.bl k) else M.bad : M D) = _
  rw [if_pos rfl]
theorem wordO_cases {nm w : Str} (h : wordO nm = some w) : (nm, w) ∈ raisedL := by
  unfold wordO at h
  exact PySem.mem_of_lookup h
theorem kin_run : ∀ nm w, wordO nm = some w → ∀ (a : Addr) (st : Sto), runD 5 (F__law_kin a nm) [.adr a] st = .ok (.str w) st := by
  intro nm w h a st
  have key : ∀ q ∈ raisedL, ∀ (a : Addr) (st : Sto), runD 5 (F__law_kin a q.1) [.adr a] st = .ok (.str q.2) st := by
    intro q hq a st
    unfold F__law_kin runD startE
    simp [sSeq, sNew, sLstF, sCons, sNil, sIsP_at, kr_bindM, capL, sSeal, sealE, sCatF, sVar, sLst, mkL1, catL, sApp, ownD, appL, sSet, sC, sRet]
    simp only [raisedL, List.mem_cons, List.not_mem_nil, or_false] at hq
    rcases hq with rfl | rfl | rfl | rfl | rfl | rfl | rfl | rfl | rfl | rfl <;> kernel_rfl
  exact key _ (wordO_cases h) a st
end Dt

set_option maxHeartbeats 4000000
namespace Dt
open PySem PySem.Spec PyProof.Rows L2 HotX L2H LamX
def L_law_k07_0 : SS :=
 sSeq (sIf (sTst (sCall m__law_is_on (sCons (sVar 10) (sCons (sVar 7) (sNil))))) (sApp 9 (sVar 11)) (sSkip))
 (sSet 10 (sCall m__law_next (sCons (sVar 5) (sCons (sVar 10) (sNil)))))
def I_law_k07_0 : SB :=
 sTst (sOp2 opLe (sVar 11) (sVar 8))
def E_law_k07_0 : SE :=
 sVar 11
def L_law_k07_1 : SS :=
 sSeq (sSet 4 (sOp2 opAdd (sC (.int 1)) (sCall m__law_pick (sCons (sVar 2) (sCons (sC (.int 3)) (sNil))))))
 (sSeq (sSet 5 (sCall m__law_one (sCons (sVar 2) (sCons (sLst (sCons (sCall m__law_a_step (sCons (sVar 2) (sCons (sVar 4) (sCons (sC (.int 2)) (sNil))))) (sCons (sCall m__law_even_step (sCons (sVar 2) (sCons (sVar 4) (sNil)))) (sNil)))) (sNil)))))
 (sSeq (sSet 6 (sCall m__law_a_stand (sCons (sVar 2) (sCons (sVar 4) (sCons (sC (.int 6)) (sNil))))))
 (sSeq (sAsg (.tp [7, 8]) (sTup (sCons (sCall m__law_a_plane (sCons (sVar 2) (sCons (sVar 5) (sCons (sVar 6) (sNil))))) (sCons (sCall m__law_pick (sCons (sVar 2) (sCons (sC (.int 30)) (sNil)))) (sNil)))))
 (sSeq (sParOV 9 10 (sLstF (sNil)) (sVar 6))
 (sSeq (sFor (iRange (sCons (sC (.int 41)) (sNil))) (.nm 11) [11] L_law_k07_0)
 (sSeal 9 (sSeq (sSet 12 (sComp (iSeqS (sVar 9)) (.nm 11) [11] I_law_k07_0 E_law_k07_0))
 (sSeq (sIf (sNot (sTst (sCall (m__law_same 9) (sCons (sCall m_all_on (sCons (sVar 5) (sCons (sVar 6) (sCons (sVar 7) (sCons (sVar 8) (sNil)))))) (sCons (sVar 12) (sNil)))))) (sRet (sC (.bl false))) (sSkip))
 (sSeq (sSet 13 (sIfE (sTst (sOp2 opNe (sVar 12) (sLst (sNil)))) (sOp2 ixD (sVar 12) (sC (.int 0))) (sC .non)))
 (sSeq (sIf (sNot (sTst (sCall (m__law_same 9) (sCons (sCall m_first_on (sCons (sVar 5) (sCons (sVar 6) (sCons (sVar 7) (sCons (sVar 8) (sNil)))))) (sCons (sVar 13) (sNil)))))) (sRet (sC (.bl false))) (sSkip))
 (sIf (sNot (sTst (sCall (m__law_same 9) (sCons (sCall m_stays_on (sCons (sVar 5) (sCons (sVar 6) (sCons (sVar 7) (sNil))))) (sCons (sOp2 opEq (sCb bLen (sCons (sVar 9) (sNil))) (sC (.int 41))) (sNil)))))) (sRet (sC (.bl false))) (sSkip))))))))))))
def L_law_k07_2 : SS :=
 sSeq (sIf (sTst (sOp2 opNe (sTry (sCall m_first_on (sCons (sVar 5) (sCons (sVar 6) (sCons (sVar 14) (sCons (sC .non) (sNil))))))) (sC (.str "plane +")))) (sRet (sC (.bl false))) (sSkip))
 (sIf (sTst (sOp2 opNe (sTry (sCall m_stays_on (sCons (sVar 5) (sCons (sVar 6) (sCons (sVar 14) (sNil)))))) (sC (.str "plane +")))) (sRet (sC (.bl false))) (sSkip))
def L_law_k07_3 : SS :=
 sIf (sTst (sOp2 opNe (sTry (sCall m_all_on (sCons (sVar 5) (sCons (sVar 6) (sCons (sVar 7) (sCons (sVar 14) (sNil))))))) (sC (.str "number +")))) (sRet (sC (.bl false))) (sSkip)
def L_law_k07_4 : SS :=
 sSeq (sSet 2 (sCall m__law_deck (sCons (sVar 1) (sCons (sC (.int 7)) (sNil)))))
 (sSeq (sFor (iRange (sCons (sC (.int 6)) (sNil))) (.nm 3) [3, 8, 9, 10, 11, 12, 13] L_law_k07_1)
 (sSeq (sSet 12 (sLst (sCons (sOp2 opMul (sTup (sCons (sOp2 opAdd (sOp2 opPow (sC (.int 10)) (sC (.int 6))) (sC (.int 1))) (sNil))) (sOp2 opAdd (sVar 4) (sC (.int 1)))) (sCons (sOp2 opMul (sTup (sCons (sC (.bl true)) (sNil))) (sOp2 opAdd (sVar 4) (sC (.int 1)))) (sCons (sOp2 opMul (sLst (sCons (sC (.int 0)) (sNil))) (sOp2 opAdd (sVar 4) (sC (.int 1)))) (sNil))))))
 (sSeq (sFor (iSeqS (sOp2 opAdd (sVar 12) (sLst (sCons (sC .non) (sCons (sOp2 opMul (sTup (sCons (sC (.int 0)) (sNil))) (sVar 4)) (sCons (sOp2 opMul (sTup (sCons (sC (.int 0)) (sNil))) (sOp2 opAdd (sVar 4) (sC (.int 2)))) (sNil))))))) (.nm 14) [14] L_law_k07_2)
 (sSeq (sFor (iSeqS (sLst (sCons (sC .non) (sCons (sOp1 opNeg (sC (.int 1))) (sCons (sC (.int 201)) (sCons (sC (.bl true)) (sNil))))))) (.nm 14) [14] L_law_k07_3)
 (sSeq (sIf (sTst (sOp2 opNe (sTry (sCall m_first_on (sCons (sVar 5) (sCons (sC .non) (sCons (sC .non) (sCons (sC .non) (sNil))))))) (sC (.str "stand +")))) (sRet (sC (.bl false))) (sSkip))
 (sIf (sTst (sOp2 opNe (sTry (sCall m_all_on (sCons (sC .non) (sCons (sC .non) (sCons (sC .non) (sCons (sC .non) (sNil))))))) (sC (.str "step +")))) (sRet (sC (.bl false))) (sSkip)))))))
def G_law_k07_0 : SS :=
 sSeq (sAsg (.tp [15, 16, 17, 18, 19, 20]) (sCall m__law_known sNil))
 (sSeq (sAsg (.tp [21, 22, 23, 24]) (sCall m__law_stands sNil))
 (sSeq (sIf (sOr (sTst (sOp2 opNe (sCall m_first_on (sCons (sVar 16) (sCons (sVar 21) (sCons (sTup (sCons (sC (.int 1)) (sCons (sC (.int 0)) (sCons (sC (.int 8)) (sNil))))) (sCons (sC (.int 50)) (sNil)))))) (sC (.int 6)))) (sTst (sOp2 opNotN (sCall m_first_on (sCons (sVar 15) (sCons (sVar 21) (sCons (sTup (sCons (sC (.int 2)) (sCons (sOp1 opNeg (sC (.int 1))) (sCons (sC (.int 0)) (sNil))))) (sCons (sC (.int 50)) (sNil)))))) (sC .non)))) (sRet (sC (.bl false))) (sSkip))
 (sSeq (sIf (sTst (sOp2 opNe (sCall m_all_on (sCons (sVar 17) (sCons (sVar 22) (sCons (sTup (sCons (sC (.int 1)) (sCons (sC (.int 0)) (sCons (sC (.int 0)) (sNil))))) (sCons (sC (.int 6)) (sNil)))))) (sLst (sCons (sC (.int 1)) (sCons (sC (.int 3)) (sCons (sC (.int 5)) (sNil))))))) (sRet (sC (.bl false))) (sSkip))
 (sSeq (sIf (sTst (sOp2 opNe (sCall m_all_on (sCons (sVar 16) (sCons (sVar 21) (sCons (sTup (sCons (sC (.int 1)) (sCons (sC (.int 0)) (sCons (sC (.int 8)) (sNil))))) (sCons (sC (.int 6)) (sNil)))))) (sLst (sCons (sC (.int 6)) (sNil))))) (sRet (sC (.bl false))) (sSkip))
 (sSeq (sIf (sTst (sOp2 opNe (sCall m_all_on (sCons (sVar 16) (sCons (sVar 21) (sCons (sTup (sCons (sC (.int 1)) (sCons (sC (.int 0)) (sCons (sC (.int 8)) (sNil))))) (sCons (sC (.int 5)) (sNil)))))) (sLst (sNil)))) (sRet (sC (.bl false))) (sSkip))
 (sSeq (sIf (sOr (sNot (sTst (sCall m_stays_on (sCons (sVar 15) (sCons (sVar 21) (sCons (sTup (sCons (sC (.int 0)) (sCons (sC (.int 1)) (sCons (sC (.int 1)) (sNil))))) (sNil))))))) (sOr (sTst (sCall m_stays_on (sCons (sVar 17) (sCons (sVar 22) (sCons (sTup (sCons (sC (.int 1)) (sCons (sC (.int 1)) (sCons (sC (.int 1)) (sNil))))) (sNil)))))) (sNot (sTst (sCall m_stays_on (sCons (sVar 20) (sCons (sVar 21) (sCons (sTup (sCons (sC (.int 0)) (sCons (sC (.int 0)) (sCons (sC (.int 0)) (sNil))))) (sNil))))))))) (sRet (sC (.bl false))) (sSkip))
 (sSeq (sSet 25 (sTup (sCons (sC (.int 1)) (sCons (sTup (sCons (sTup (sCons (sC (.int 0)) (sCons (sC (.int 1)) (sCons (sC (.int 0)) (sNil))))) (sCons (sTup (sCons (sC (.int 0)) (sCons (sC (.int 0)) (sCons (sC (.int 1)) (sNil))))) (sCons (sTup (sCons (sC (.int 1)) (sCons (sC (.int 0)) (sCons (sC (.int 0)) (sNil))))) (sNil))))) (sNil)))))
 (sSeq (sIf (sTst (sCall m_stays_on (sCons (sTup (sCons (sC (.int 1)) (sCons (sTup (sCons (sTup (sCons (sC (.int 0)) (sCons (sC (.int 1)) (sCons (sC (.int 0)) (sNil))))) (sCons (sTup (sCons (sC (.int 0)) (sCons (sC (.int 0)) (sCons (sC (.int 1)) (sNil))))) (sCons (sTup (sCons (sC (.int 0)) (sCons (sC (.int 0)) (sCons (sC (.int 0)) (sNil))))) (sNil))))) (sNil)))) (sCons (sTup (sCons (sTup (sCons (sC (.int 1)) (sCons (sC (.int 1)) (sNil)))) (sCons (sTup (sCons (sC (.int 1)) (sCons (sC (.int 1)) (sNil)))) (sCons (sTup (sCons (sC (.int 1)) (sCons (sC (.int 1)) (sNil)))) (sNil))))) (sCons (sTup (sCons (sC (.int 1)) (sCons (sC (.int 0)) (sCons (sC (.int 0)) (sCons (sC (.int 1)) (sNil)))))) (sNil)))))) (sRet (sC (.bl false))) (sSkip))
 (sSeq (sIf (sNot (sTst (sCall m_stays_on (sCons (sVar 19) (sCons (sVar 24) (sCons (sTup (sCons (sC (.int 5)) (sCons (sC (.int 5)) (sCons (sC (.int 0)) (sNil))))) (sNil))))))) (sRet (sC (.bl false))) (sSkip))
 (sRet (sOp2 opEq (sCall m_all_on (sCons (sVar 25) (sCons (sTup (sCons (sTup (sCons (sC (.int 1)) (sCons (sC (.int 1)) (sNil)))) (sCons (sTup (sCons (sC (.int 0)) (sCons (sC (.int 1)) (sNil)))) (sCons (sTup (sCons (sC (.int 0)) (sCons (sC (.int 1)) (sNil)))) (sNil))))) (sCons (sTup (sCons (sC (.int 1)) (sCons (sC (.int 0)) (sCons (sC (.int 0)) (sCons (sC (.int 1)) (sNil)))))) (sCons (sC (.int 7)) (sNil)))))) (sLst (sCons (sC (.int 0)) (sCons (sC (.int 3)) (sCons (sC (.int 6)) (sNil))))))))))))))))
def F_law_k07 : SS :=
 sSeq (sFor (iSeqS (sSlice (sOp2 opAdd (sLst (sCons (sC (.int 0)) (sNil))) (sVar 0)) (sNoPart) (sPart (sC (.int 10))))) (.nm 1) [1, 2, 3, 8, 9, 10, 11, 12, 13, 14] L_law_k07_4)
 (G_law_k07_0)
def m_law_k07 : List D → M D := runD 26 F_law_k07
end Dt

set_option maxHeartbeats 4000000
namespace Dt
open PySem PySem.Spec PyProof.Rows L2
/-! ### computing -/
theorem pure_bindM {α β : Type} (a : α) (f : α → M β) : (M.pure a >>= f) = f a := rfl
theorem bad_bindM {α β : Type} (f : α → M β) : (M.bad >>= f) = M.bad := rfl
def M.exc {α : Type} (e : Ex) : M α := fun s => .exc e s
theorem exc_bindM {α β : Type} (e : Ex) (f : α → M β) : (M.exc e >>= f) = M.exc e := rfl
theorem sRaise_exc (e : Ex) (env : Env) : sRaise e env = M.exc e := rfl
theorem pureD {α : Type} (a : α) : (Pure.pure a : M α) = M.pure a := rfl
theorem bind_assocM {α β γ : Type} (m : M α) (f : α → M β) (g : β → M γ) : ((m >>= f) >>= g) = (m >>= fun a => f a >>= g) := by
  funext s
  simp only [bind_def]
  cases m s <;> rfl
theorem bind_pureM {α : Type} (m : M α) : (m >>= M.pure) = m := by
  funext s
  simp only [bind_def]
  cases m s <;> rfl
theorem opNe_int (a b : Int) : opNe (.int a) (.int b) = M.pure (.bl (!(a == b))) := rfl
theorem opAdd_int (a b : Int) : opAdd (.int a) (.int b) = M.pure (.int (a + b)) := rfl
theorem opEq_int (a b : Int) : opEq (.int a) (.int b) = M.pure (.bl (a == b)) := rfl
theorem atI_0 {α : Type} (a : α) (l : List α) : atI (a :: l) 0 = some a := by
  unfold atI ixN
  simp
theorem ixN_lt {n : Nat} {j : Nat} (h : j < n) : ixN n (j : Int) = some j := by
  unfold ixN
  rw [if_pos (by omega), if_pos (by omega)]
  simp
theorem atI_nat {α : Type} {l : List α} {j : Nat} (h : j < l.length) : atI l (j : Int) = some l[j] := by
  unfold atI
  rw [ixN_lt h]
  exact List.getElem?_eq_getElem h
theorem atI_1 {α : Type} (a b : α) (l : List α) : atI (a :: b :: l) 1 = some b := atI_nat (j := 1) (l := a :: b :: l) (by simp)
theorem atI_2 {α : Type} (a b c : α) (l : List α) : atI (a :: b :: c :: l) 2 = some c := atI_nat (j := 2) (l := a :: b :: c :: l) (by simp)
/-- numbers of not too many bits -/
def Sm (n : Nat) (i : Int) : Prop := i.natAbs < 2 ^ n
theorem Sm.log {n : Nat} {i : Int} (h : Sm n i) (hn : 0 < n) : i.natAbs.log2 < n := by
  by_cases e : i.natAbs = 0
  · rw [e]
    simpa using hn
  · exact (Nat.log2_lt e).mpr h
theorem Sm.mono {n m : Nat} {i : Int} (h : Sm n i) (l : n ≤ m) : Sm m i := Nat.lt_of_lt_of_le h (Nat.pow_le_pow_right (by decide) l)
theorem Sm.mul {n m : Nat} {i j : Int} (h : Sm n i) (g : Sm m j) : Sm (n + m) (i * j) := by
  unfold Sm at *
  rw [Int.natAbs_mul, Nat.pow_add]
  exact Nat.mul_lt_mul'' h g
theorem Sm.add {n : Nat} {i j : Int} (h : Sm n i) (g : Sm n j) : Sm (n + 1) (i + j) := by
  unfold Sm at *
  have := Int.natAbs_add_le i j
  rw [Nat.pow_succ]
  omega
theorem Sm.neg {n : Nat} {i : Int} (h : Sm n i) : Sm n (-i) := by
  unfold Sm at *
  rwa [Int.natAbs_neg]
theorem opMul_int {n m : Nat} {i j : Int} (h : Sm n i) (g : Sm m j) (l : n + m ≤ 900000) : opMul (.int i) (.int j) = M.pure (.int (i * j)) := by
  show (if i.natAbs.log2 + j.natAbs.log2 < 1000000 then M.pure (.int (i * j)) else M.bad : M D) = _
  have h1 := (h.mono (Nat.le_add_right n 1)).log (Nat.succ_pos _)
  have h2 := (g.mono (Nat.le_add_right m 1)).log (Nat.succ_pos _)
  rw [if_pos (by omega)]
theorem opDiv_int {n : Nat} {i j : Int} (h : j ≠ 0) (g : Sm n j) (l : n ≤ 8999) : opDiv (.int i) (.int j) = M.pure (.int (i.fdiv j)) := by
  show (if j ≠ 0 ∧ j.natAbs.log2 < 9000 then M.pure (.int (i.fdiv j)) else M.bad : M D) = _
  have h1 := (g.mono (Nat.le_add_right n 1)).log (Nat.succ_pos _)
  rw [if_pos ⟨h, by omega⟩]
theorem opMod_int {i j : Int} (h : j ≠ 0) : opMod (.int i) (.int j) = M.pure (.int (i.fmod j)) := by
  show (if j ≠ 0 then M.pure (.int (i.fmod j)) else M.bad : M D) = _
  rw [if_pos h]
theorem bAbs_int (i : Int) : bAbs [.int i] = M.pure (.int i.natAbs) := by
  show M.pure (D.int (if i < 0 then -i else i)) = _
  by_cases h : i < 0
  · rw [if_pos h, show ((i.natAbs : Nat) : Int) = -i by omega]
  · rw [if_neg h, show ((i.natAbs : Nat) : Int) = i by omega]
/-! ### the greatest common divisor -/
theorem fmod_lt (a : Int) {b : Int} (h : b ≠ 0) : (a.fmod b).natAbs < b.natAbs := by
  by_cases p : 0 < b
  · have h1 := Int.fmod_lt_of_pos a p
    have h2 := Int.fmod_nonneg_of_pos a p
    omega
  · have h0 : 0 < -b := by omega
    have h1 := Int.fmod_lt_of_pos (-a) h0
    have h2 := Int.fmod_nonneg_of_pos (-a) h0
    rw [Int.neg_fmod_neg] at h1 h2
    omega
theorem gcd_fmod (a b : Int) : Int.gcd b (a.fmod b) = Int.gcd a b := by
  rw [Int.fmod_def, Int.gcd_sub_mul_left_right, Int.gcd_comm]
theorem divisor_loop : ∀ (n : Nat) (a b : Int), b.natAbs < n → ∃ g : Int, whL C_divisor_0 [] L_divisor_0 n [.va (.int a), .va (.int b)] = M.pure (.nx, [.va (.int g), .va (.int 0)]) ∧ g.natAbs = Int.gcd a b
  | 0, a, b, h => by omega
  | n + 1, a, b, h => by
    by_cases hb : b = 0
    · subst hb
      refine ⟨a, ?_, by simp⟩
      simp only [whL, C_divisor_0, sSeq, sSkip, sBreak, sCont, sSet, sDrop, sRet, sRetN, sIf, iteS, sPar, setAll, sAsg, Tg.bind, gotE, sNew, sApp, appL, ownD, sSeal, sealE, sVar, sC, sCons, sNil, sOp2, sOp1, sCall, sCb, sTup, mkT, sLst, mkL1, sLstF, capL, sTst, truD, sAnd, sOr, iteB, kB, sNot, sIfE, iteE, sAndV, andV, sOrV, orV, sNotV, notD, sIs, sFor, sWhile, iSeqS, itemsD, iRange, iZip, zipD, zip2D, iEnum, enumD, sComp, sVal, sCatF, catL, sListF, listL, sRef, sChain, chV, sSlice, sPart, sNoPart, intO, slD, sOwnIx, sOwnLen, sOwnPut, sTry, sPut, putD, pure_bindM, bad_bindM, exc_bindM, pureD, runD, startE, endD, fuelI, List.map_cons, List.map_nil, List.length_cons, List.length_nil, List.length_append, List.replicate, List.cons_append, List.nil_append, List.append_nil, List.set_cons_zero, List.set_cons_succ, List.getElem?_cons_zero, List.getElem?_cons_succ, wipeE, List.foldr, Nat.reduceAdd, Nat.reduceSub, Nat.reduceLeDiff, Nat.zero_add, Nat.add_zero, Nat.reduceLT, if_true, if_false, ite_true, ite_false, reduceIte, Bool.false_eq_true, eq_self, opNe_int, opEq_int, opLt, opLe, opGt, opGe, opCmp, opSub, opNeg, opAdd_int, ixD, atI_0, atI_1, atI_2, bTuple, bList, opIsN, opNotN, tyN, isTy, String.reduceBEq, Bool.true_or, Bool.and_false, Bool.or_false, Bool.false_or, Bool.true_and, Bool.false_and, Bool.and_true, Bool.not_true, Bool.not_false, bIs, forL, stepS, Sl.va.injEq, decide_eq_true_eq]
      rfl
    · obtain ⟨g, h1, h2⟩ := divisor_loop n b (a.fmod b) (by have := fmod_lt a hb; omega)
      refine ⟨g, ?_, by rw [h2, gcd_fmod]⟩
      have hc : (!(b == 0)) = true := by simpa using hb
      simp only [whL, C_divisor_0, L_divisor_0, sSeq, sSkip, sBreak, sCont, sSet, sDrop, sRet, sRetN, sIf, iteS, sPar, setAll, sAsg, Tg.bind, gotE, sNew, sApp, appL, ownD, sSeal, sealE, sVar, sC, sCons, sNil, sOp2, sOp1, sCall, sCb, sTup, mkT, sLst, mkL1, sLstF, capL, sTst, truD, sAnd, sOr, iteB, kB, sNot, sIfE, iteE, sAndV, andV, sOrV, orV, sNotV, notD, sIs, sFor, sWhile, iSeqS, itemsD, iRange, iZip, zipD, zip2D, iEnum, enumD, sComp, sVal, sCatF, catL, sListF, listL, sRef, sChain, chV, sSlice, sPart, sNoPart, intO, slD, sOwnIx, sOwnLen, sOwnPut, sTry, sPut, putD, pure_bindM, bad_bindM, exc_bindM, pureD, runD, startE, endD, fuelI, List.map_cons, List.map_nil, List.length_cons, List.length_nil, List.length_append, List.replicate, List.cons_append, List.nil_append, List.append_nil, List.set_cons_zero, List.set_cons_succ, List.getElem?_cons_zero, List.getElem?_cons_succ, wipeE, List.foldr, Nat.reduceAdd, Nat.reduceSub, Nat.reduceLeDiff, Nat.zero_add, Nat.add_zero, Nat.reduceLT, if_true, if_false, ite_true, ite_false, reduceIte, Bool.false_eq_true, eq_self, opNe_int, opEq_int, opLt, opLe, opGt, opGe, opCmp, opSub, opNeg, opAdd_int, ixD, atI_0, atI_1, atI_2, bTuple, bList, opIsN, opNotN, tyN, isTy, String.reduceBEq, Bool.true_or, Bool.and_false, Bool.or_false, Bool.false_or, Bool.true_and, Bool.false_and, Bool.and_true, Bool.not_true, Bool.not_false, bIs, forL, stepS, Sl.va.injEq, decide_eq_true_eq, hc, opMod_int hb]
      exact h1
theorem e_divisor (a b : Int) : m_divisor [.int a, .int b] = M.pure (.int (Int.gcd a b)) := by
  obtain ⟨g, h1, h2⟩ := divisor_loop (b.natAbs + 2) a b (by omega)
  simp only [m_divisor, F_divisor, sSeq, sSkip, sBreak, sCont, sSet, sDrop, sRet, sRetN, sIf, iteS, sPar, setAll, sAsg, Tg.bind, gotE, sNew, sApp, appL, ownD, sSeal, sealE, sVar, sC, sCons, sNil, sOp2, sOp1, sCall, sCb, sTup, mkT, sLst, mkL1, sLstF, capL, sTst, truD, sAnd, sOr, iteB, kB, sNot, sIfE, iteE, sAndV, andV, sOrV, orV, sNotV, notD, sIs, sFor, sWhile, iSeqS, itemsD, iRange, iZip, zipD, zip2D, iEnum, enumD, sComp, sVal, sCatF, catL, sListF, listL, sRef, sChain, chV, sSlice, sPart, sNoPart, intO, slD, sOwnIx, sOwnLen, sOwnPut, sTry, sPut, putD, pure_bindM, bad_bindM, exc_bindM, pureD, runD, startE, endD, fuelI, List.map_cons, List.map_nil, List.length_cons, List.length_nil, List.length_append, List.replicate, List.cons_append, List.nil_append, List.append_nil, List.set_cons_zero, List.set_cons_succ, List.getElem?_cons_zero, List.getElem?_cons_succ, wipeE, List.foldr, Nat.reduceAdd, Nat.reduceSub, Nat.reduceLeDiff, Nat.zero_add, Nat.add_zero, Nat.reduceLT, if_true, if_false, ite_true, ite_false, reduceIte, Bool.false_eq_true, eq_self, opNe_int, opEq_int, opLt, opLe, opGt, opGe, opCmp, opSub, opNeg, opAdd_int, ixD, atI_0, atI_1, atI_2, bTuple, bList, opIsN, opNotN, tyN, isTy, String.reduceBEq, Bool.true_or, Bool.and_false, Bool.or_false, Bool.false_or, Bool.true_and, Bool.false_and, Bool.and_true, Bool.not_true, Bool.not_false, bIs, forL, stepS, Sl.va.injEq, decide_eq_true_eq]
  rw [h1]
  simp only [sSeq, sSkip, sBreak, sCont, sSet, sDrop, sRet, sRetN, sIf, iteS, sPar, setAll, sAsg, Tg.bind, gotE, sNew, sApp, appL, ownD, sSeal, sealE, sVar, sC, sCons, sNil, sOp2, sOp1, sCall, sCb, sTup, mkT, sLst, mkL1, sLstF, capL, sTst, truD, sAnd, sOr, iteB, kB, sNot, sIfE, iteE, sAndV, andV, sOrV, orV, sNotV, notD, sIs, sFor, sWhile, iSeqS, itemsD, iRange, iZip, zipD, zip2D, iEnum, enumD, sComp, sVal, sCatF, catL, sListF, listL, sRef, sChain, chV, sSlice, sPart, sNoPart, intO, slD, sOwnIx, sOwnLen, sOwnPut, sTry, sPut, putD, pure_bindM, bad_bindM, exc_bindM, pureD, runD, startE, endD, fuelI, List.map_cons, List.map_nil, List.length_cons, List.length_nil, List.length_append, List.replicate, List.cons_append, List.nil_append, List.append_nil, List.set_cons_zero, List.set_cons_succ, List.getElem?_cons_zero, List.getElem?_cons_succ, wipeE, List.foldr, Nat.reduceAdd, Nat.reduceSub, Nat.reduceLeDiff, Nat.zero_add, Nat.add_zero, Nat.reduceLT, if_true, if_false, ite_true, ite_false, reduceIte, Bool.false_eq_true, eq_self, opNe_int, opEq_int, opLt, opLe, opGt, opGe, opCmp, opSub, opNeg, opAdd_int, ixD, atI_0, atI_1, atI_2, bTuple, bList, opIsN, opNotN, tyN, isTy, String.reduceBEq, Bool.true_or, Bool.and_false, Bool.or_false, Bool.false_or, Bool.true_and, Bool.false_and, Bool.and_true, Bool.not_true, Bool.not_false, bIs, forL, stepS, Sl.va.injEq, decide_eq_true_eq, bAbs_int, h2]
end Dt

set_option maxHeartbeats 4000000
namespace Dt
open PySem PySem.Spec PyProof.Rows L2
/-! ### fractions -/
/-- a fraction as a pair -/
def eQ (q : Rat) : D := .tup [.int q.num, .int q.den]
theorem divInt_parts (t : Int) {b : Int} (hb : b ≠ 0) : ∃ t' b' : Int, t = t' * (Int.gcd t b : Int) ∧ b = b' * (Int.gcd t b : Int) ∧ b' ≠ 0 ∧ (Int.gcd t b : Int) ≠ 0 ∧ (Rat.divInt t b).num = b.sign * t' ∧ ((Rat.divInt t b).den : Int) = b.sign * b' := by
  have hg : (Int.gcd t b : Int) ≠ 0 := by
    have := Int.gcd_pos_of_ne_zero_right t hb
    omega
  obtain ⟨t', ht⟩ := Int.gcd_dvd_left t b
  obtain ⟨b', hb'⟩ := Int.gcd_dvd_right t b
  have hb0 : b' ≠ 0 := by
    intro e
    rw [e] at hb'
    simp at hb'
    exact hb hb'
  refine ⟨t', b', by rw [Int.mul_comm]; exact ht, by rw [Int.mul_comm]; exact hb', hb0, hg, ?_, ?_⟩
  · rw [Rat.num_divInt, Int.gcd_comm b t]
    conv => lhs; lhs; rhs; rw [ht]
    rw [← Int.mul_assoc, Int.mul_comm b.sign, Int.mul_assoc, Int.mul_ediv_cancel_left _ hg]
  · rw [Rat.den_divInt, if_neg hb, Int.gcd_comm b t]
    have h1 : b.natAbs = b'.natAbs * Int.gcd t b := by
      conv => lhs; rw [hb']
      rw [Int.natAbs_mul, Nat.mul_comm]
      rfl
    have hp : 0 < Int.gcd t b := by omega
    have h2 : b.sign = b'.sign := by
      conv => lhs; rw [hb']
      rw [Int.sign_mul, Int.sign_natCast_of_ne_zero (by omega), Int.one_mul]
    rw [h1, Nat.mul_div_cancel _ hp, h2]
    rcases Int.lt_trichotomy b' 0 with h | h | h
    · rw [Int.sign_eq_neg_one_of_neg h]; omega
    · exact absurd h hb0
    · rw [Int.sign_eq_one_of_pos h]; omega
theorem eQ_divInt (t : Int) {b : Int} (hb : b ≠ 0) : eQ (Rat.divInt t b) = .tup [.int (t.fdiv (b.sign * (Int.gcd t b : Int))), .int (b.fdiv (b.sign * (Int.gcd t b : Int)))] := by
  obtain ⟨t', b', h1, h2, h3, h4, h5, h6⟩ := divInt_parts t hb
  have hs : b.sign * b.sign = 1 := by
    rcases Int.lt_trichotomy b 0 with h | h | h
    · rw [Int.sign_eq_neg_one_of_neg h]; rfl
    · exact absurd h hb
    · rw [Int.sign_eq_one_of_pos h]; rfl
  have hn : b.sign * (Int.gcd t b : Int) ≠ 0 := by
    intro e
    rcases Int.mul_eq_zero.mp e with e | e
    · rw [e] at hs
      simp at hs
    · exact h4 e
  have e1 : t = (b.sign * t') * (b.sign * (Int.gcd t b : Int)) := by
    conv => lhs; rw [h1]
    grind
  have e2 : b = (b.sign * b') * (b.sign * (Int.gcd t b : Int)) := by
    conv => lhs; rw [h2]
    grind
  unfold eQ
  rw [h5, h6]
  congr 3
  · congr 1
    rw [Int.eq_fdiv_of_mul_eq_left hn e1.symm]
  · congr 3
    rw [Int.eq_fdiv_of_mul_eq_left hn e2.symm]
theorem Sm.gcd {n : Nat} {t b : Int} (h : Sm n b) (hb : b ≠ 0) : Sm n (Int.gcd t b : Int) := by
  unfold Sm at *
  have : Int.gcd t b ∣ b.natAbs := by
    have := Int.gcd_dvd_right t b
    exact Int.ofNat_dvd_left.mp this
  have := Nat.le_of_dvd (by omega) this
  omega
theorem Sm.nat {n k : Nat} (h : k < 2 ^ n) : Sm n (k : Int) := h
theorem e_fraction {t b : Int} {n : Nat} (hb : b ≠ 0) (h : Sm n b) (l : n ≤ 8999) : m_fraction [.int t, .int b] = M.pure (eQ (Rat.divInt t b)) := by
  have hg : (Int.gcd t b : Int) ≠ 0 := by
    have := Int.gcd_pos_of_ne_zero_right t hb
    omega
  have hsg := h.gcd (t := t) hb
  rw [eQ_divInt t hb]
  simp only [m_fraction, F_fraction, sSeq, sSkip, sBreak, sCont, sSet, sDrop, sRet, sRetN, sIf, iteS, sPar, setAll, sAsg, Tg.bind, gotE, sNew, sApp, appL, ownD, sSeal, sealE, sVar, sC, sCons, sNil, sOp2, sOp1, sCall, sCb, sTup, mkT, sLst, mkL1, sLstF, capL, sTst, truD, sAnd, sOr, iteB, kB, sNot, sIfE, iteE, sAndV, andV, sOrV, orV, sNotV, notD, sIs, sFor, sWhile, iSeqS, itemsD, iRange, iZip, zipD, zip2D, iEnum, enumD, sComp, sVal, sCatF, catL, sListF, listL, sRef, sChain, chV, sSlice, sPart, sNoPart, intO, slD, sOwnIx, sOwnLen, sOwnPut, sTry, sPut, putD, pure_bindM, bad_bindM, exc_bindM, pureD, runD, startE, endD, fuelI, List.map_cons, List.map_nil, List.length_cons, List.length_nil, List.length_append, List.replicate, List.cons_append, List.nil_append, List.append_nil, List.set_cons_zero, List.set_cons_succ, List.getElem?_cons_zero, List.getElem?_cons_succ, wipeE, List.foldr, Nat.reduceAdd, Nat.reduceSub, Nat.reduceLeDiff, Nat.zero_add, Nat.add_zero, Nat.reduceLT, if_true, if_false, ite_true, ite_false, reduceIte, Bool.false_eq_true, eq_self, opNe_int, opEq_int, opLt, opLe, opGt, opGe, opCmp, opSub, opNeg, opAdd_int, ixD, atI_0, atI_1, atI_2, bTuple, bList, opIsN, opNotN, tyN, isTy, String.reduceBEq, Bool.true_or, Bool.and_false, Bool.or_false, Bool.false_or, Bool.true_and, Bool.false_and, Bool.and_true, Bool.not_true, Bool.not_false, bIs, forL, stepS, Sl.va.injEq, decide_eq_true_eq, e_divisor]
  by_cases hn : b < 0
  · have hng : -(Int.gcd t b : Int) ≠ 0 := by omega
    simp only [hn, sSeq, sSkip, sBreak, sCont, sSet, sDrop, sRet, sRetN, sIf, iteS, sPar, setAll, sAsg, Tg.bind, gotE, sNew, sApp, appL, ownD, sSeal, sealE, sVar, sC, sCons, sNil, sOp2, sOp1, sCall, sCb, sTup, mkT, sLst, mkL1, sLstF, capL, sTst, truD, sAnd, sOr, iteB, kB, sNot, sIfE, iteE, sAndV, andV, sOrV, orV, sNotV, notD, sIs, sFor, sWhile, iSeqS, itemsD, iRange, iZip, zipD, zip2D, iEnum, enumD, sComp, sVal, sCatF, catL, sListF, listL, sRef, sChain, chV, sSlice, sPart, sNoPart, intO, slD, sOwnIx, sOwnLen, sOwnPut, sTry, sPut, putD, pure_bindM, bad_bindM, exc_bindM, pureD, runD, startE, endD, fuelI, List.map_cons, List.map_nil, List.length_cons, List.length_nil, List.length_append, List.replicate, List.cons_append, List.nil_append, List.append_nil, List.set_cons_zero, List.set_cons_succ, List.getElem?_cons_zero, List.getElem?_cons_succ, wipeE, List.foldr, Nat.reduceAdd, Nat.reduceSub, Nat.reduceLeDiff, Nat.zero_add, Nat.add_zero, Nat.reduceLT, if_true, if_false, ite_true, ite_false, reduceIte, Bool.false_eq_true, eq_self, opNe_int, opEq_int, opLt, opLe, opGt, opGe, opCmp, opSub, opNeg, opAdd_int, ixD, atI_0, atI_1, atI_2, bTuple, bList, opIsN, opNotN, tyN, isTy, String.reduceBEq, Bool.true_or, Bool.and_false, Bool.or_false, Bool.false_or, Bool.true_and, Bool.false_and, Bool.and_true, Bool.not_true, Bool.not_false, bIs, forL, stepS, Sl.va.injEq, decide_eq_true_eq, decide_true, opDiv_int hng hsg.neg l, mkT, Int.sign_eq_neg_one_of_neg hn]
    simp only [sSeq, sSkip, sBreak, sCont, sSet, sDrop, sRet, sRetN, sIf, iteS, sPar, setAll, sAsg, Tg.bind, gotE, sNew, sApp, appL, ownD, sSeal, sealE, sVar, sC, sCons, sNil, sOp2, sOp1, sCall, sCb, sTup, mkT, sLst, mkL1, sLstF, capL, sTst, truD, sAnd, sOr, iteB, kB, sNot, sIfE, iteE, sAndV, andV, sOrV, orV, sNotV, notD, sIs, sFor, sWhile, iSeqS, itemsD, iRange, iZip, zipD, zip2D, iEnum, enumD, sComp, sVal, sCatF, catL, sListF, listL, sRef, sChain, chV, sSlice, sPart, sNoPart, intO, slD, sOwnIx, sOwnLen, sOwnPut, sTry, sPut, putD, pure_bindM, bad_bindM, exc_bindM, pureD, runD, startE, endD, fuelI, List.map_cons, List.map_nil, List.length_cons, List.length_nil, List.length_append, List.replicate, List.cons_append, List.nil_append, List.append_nil, List.set_cons_zero, List.set_cons_succ, List.getElem?_cons_zero, List.getElem?_cons_succ, wipeE, List.foldr, Nat.reduceAdd, Nat.reduceSub, Nat.reduceLeDiff, Nat.zero_add, Nat.add_zero, Nat.reduceLT, if_true, if_false, ite_true, ite_false, reduceIte, Bool.false_eq_true, eq_self, opNe_int, opEq_int, opLt, opLe, opGt, opGe, opCmp, opSub, opNeg, opAdd_int, ixD, atI_0, atI_1, atI_2, bTuple, bList, opIsN, opNotN, tyN, isTy, String.reduceBEq, Bool.true_or, Bool.and_false, Bool.or_false, Bool.false_or, Bool.true_and, Bool.false_and, Bool.and_true, Bool.not_true, Bool.not_false, bIs, forL, stepS, Sl.va.injEq, decide_eq_true_eq, Int.neg_mul, Int.one_mul]
  · have h1 : b.sign = 1 := Int.sign_eq_one_of_pos (by omega)
    simp only [hn, sSeq, sSkip, sBreak, sCont, sSet, sDrop, sRet, sRetN, sIf, iteS, sPar, setAll, sAsg, Tg.bind, gotE, sNew, sApp, appL, ownD, sSeal, sealE, sVar, sC, sCons, sNil, sOp2, sOp1, sCall, sCb, sTup, mkT, sLst, mkL1, sLstF, capL, sTst, truD, sAnd, sOr, iteB, kB, sNot, sIfE, iteE, sAndV, andV, sOrV, orV, sNotV, notD, sIs, sFor, sWhile, iSeqS, itemsD, iRange, iZip, zipD, zip2D, iEnum, enumD, sComp, sVal, sCatF, catL, sListF, listL, sRef, sChain, chV, sSlice, sPart, sNoPart, intO, slD, sOwnIx, sOwnLen, sOwnPut, sTry, sPut, putD, pure_bindM, bad_bindM, exc_bindM, pureD, runD, startE, endD, fuelI, List.map_cons, List.map_nil, List.length_cons, List.length_nil, List.length_append, List.replicate, List.cons_append, List.nil_append, List.append_nil, List.set_cons_zero, List.set_cons_succ, List.getElem?_cons_zero, List.getElem?_cons_succ, wipeE, List.foldr, Nat.reduceAdd, Nat.reduceSub, Nat.reduceLeDiff, Nat.zero_add, Nat.add_zero, Nat.reduceLT, if_true, if_false, ite_true, ite_false, reduceIte, Bool.false_eq_true, eq_self, opNe_int, opEq_int, opLt, opLe, opGt, opGe, opCmp, opSub, opNeg, opAdd_int, ixD, atI_0, atI_1, atI_2, bTuple, bList, opIsN, opNotN, tyN, isTy, String.reduceBEq, Bool.true_or, Bool.and_false, Bool.or_false, Bool.false_or, Bool.true_and, Bool.false_and, Bool.and_true, Bool.not_true, Bool.not_false, bIs, forL, stepS, Sl.va.injEq, decide_eq_true_eq, decide_false, opDiv_int hg hsg l, mkT, h1]
    simp only [sSeq, sSkip, sBreak, sCont, sSet, sDrop, sRet, sRetN, sIf, iteS, sPar, setAll, sAsg, Tg.bind, gotE, sNew, sApp, appL, ownD, sSeal, sealE, sVar, sC, sCons, sNil, sOp2, sOp1, sCall, sCb, sTup, mkT, sLst, mkL1, sLstF, capL, sTst, truD, sAnd, sOr, iteB, kB, sNot, sIfE, iteE, sAndV, andV, sOrV, orV, sNotV, notD, sIs, sFor, sWhile, iSeqS, itemsD, iRange, iZip, zipD, zip2D, iEnum, enumD, sComp, sVal, sCatF, catL, sListF, listL, sRef, sChain, chV, sSlice, sPart, sNoPart, intO, slD, sOwnIx, sOwnLen, sOwnPut, sTry, sPut, putD, pure_bindM, bad_bindM, exc_bindM, pureD, runD, startE, endD, fuelI, List.map_cons, List.map_nil, List.length_cons, List.length_nil, List.length_append, List.replicate, List.cons_append, List.nil_append, List.append_nil, List.set_cons_zero, List.set_cons_succ, List.getElem?_cons_zero, List.getElem?_cons_succ, wipeE, List.foldr, Nat.reduceAdd, Nat.reduceSub, Nat.reduceLeDiff, Nat.zero_add, Nat.add_zero, Nat.reduceLT, if_true, if_false, ite_true, ite_false, reduceIte, Bool.false_eq_true, eq_self, opNe_int, opEq_int, opLt, opLe, opGt, opGe, opCmp, opSub, opNeg, opAdd_int, ixD, atI_0, atI_1, atI_2, bTuple, bList, opIsN, opNotN, tyN, isTy, String.reduceBEq, Bool.true_or, Bool.and_false, Bool.or_false, Bool.false_or, Bool.true_and, Bool.false_and, Bool.and_true, Bool.not_true, Bool.not_false, bIs, forL, stepS, Sl.va.injEq, decide_eq_true_eq, Int.one_mul]
/-- a fraction with few bits -/
def Qn (n : Nat) (q : Rat) : Prop := Sm n q.num ∧ Sm n (q.den : Int)
theorem Qn.mono {n m : Nat} {q : Rat} (h : Qn n q) (l : n ≤ m) : Qn m q := ⟨h.1.mono l, h.2.mono l⟩
theorem den_ne (q : Rat) : (q.den : Int) ≠ 0 := by
  have := q.den_pos
  omega
theorem add_divInt (x y : Rat) : Rat.divInt (x.num * y.den + y.num * x.den) (x.den * y.den) = x + y := by
  rw [← Rat.divInt_add_divInt _ _ (den_ne x) (den_ne y), Rat.num_divInt_den, Rat.num_divInt_den]
theorem mul_divInt (x y : Rat) : Rat.divInt (x.num * y.num) (x.den * y.den) = x * y := by
  rw [← Rat.divInt_mul_divInt, Rat.num_divInt_den, Rat.num_divInt_den]
theorem e_plus {x y : Rat} {n : Nat} (hx : Qn n x) (hy : Qn n y) (l : n ≤ 4000) : m_plus [eQ x, eQ y] = M.pure (eQ (x + y)) := by
  have hd : Sm (n + n) ((x.den : Int) * y.den) := hx.2.mul hy.2
  have hd0 : (x.den : Int) * y.den ≠ 0 := Int.mul_ne_zero (den_ne x) (den_ne y)
  have p : n + n ≤ 900000 := by omega
  simp only [m_plus, F_plus, sSeq, sSkip, sBreak, sCont, sSet, sDrop, sRet, sRetN, sIf, iteS, sPar, setAll, sAsg, Tg.bind, gotE, sNew, sApp, appL, ownD, sSeal, sealE, sVar, sC, sCons, sNil, sOp2, sOp1, sCall, sCb, sTup, mkT, sLst, mkL1, sLstF, capL, sTst, truD, sAnd, sOr, iteB, kB, sNot, sIfE, iteE, sAndV, andV, sOrV, orV, sNotV, notD, sIs, sFor, sWhile, iSeqS, itemsD, iRange, iZip, zipD, zip2D, iEnum, enumD, sComp, sVal, sCatF, catL, sListF, listL, sRef, sChain, chV, sSlice, sPart, sNoPart, intO, slD, sOwnIx, sOwnLen, sOwnPut, sTry, sPut, putD, pure_bindM, bad_bindM, exc_bindM, pureD, runD, startE, endD, fuelI, List.map_cons, List.map_nil, List.length_cons, List.length_nil, List.length_append, List.replicate, List.cons_append, List.nil_append, List.append_nil, List.set_cons_zero, List.set_cons_succ, List.getElem?_cons_zero, List.getElem?_cons_succ, wipeE, List.foldr, Nat.reduceAdd, Nat.reduceSub, Nat.reduceLeDiff, Nat.zero_add, Nat.add_zero, Nat.reduceLT, if_true, if_false, ite_true, ite_false, reduceIte, Bool.false_eq_true, eq_self, opNe_int, opEq_int, opLt, opLe, opGt, opGe, opCmp, opSub, opNeg, opAdd_int, ixD, atI_0, atI_1, atI_2, bTuple, bList, opIsN, opNotN, tyN, isTy, String.reduceBEq, Bool.true_or, Bool.and_false, Bool.or_false, Bool.false_or, Bool.true_and, Bool.false_and, Bool.and_true, Bool.not_true, Bool.not_false, bIs, forL, stepS, Sl.va.injEq, decide_eq_true_eq, eQ, opMul_int hx.1 hy.2 p, opMul_int hy.1 hx.2 p, opMul_int hx.2 hy.2 p, e_fraction hd0 hd (by omega), add_divInt]
theorem low_loop : ∀ (n : Nat) (x y : D) (w : Sl) (a b : Nat), b < n → whL C__law_low_0 [] L__law_low_0 n [.va x, .va y, .va (.int a), .va (.int b), w] = M.pure (.nx, [.va x, .va y, .va (.int (Nat.gcd a b : Nat)), .va (.int 0), w])
  | 0, x, y, w, a, b, h => by omega
  | n + 1, x, y, w, a, b, h => by
    by_cases hb : b = 0
    · subst hb
      simp only [whL, C__law_low_0, sSeq, sSkip, sBreak, sCont, sSet, sDrop, sRet, sRetN, sIf, iteS, sPar, setAll, sAsg, Tg.bind, gotE, sNew, sApp, appL, ownD, sSeal, sealE, sVar, sC, sCons, sNil, sOp2, sOp1, sCall, sCb, sTup, mkT, sLst, mkL1, sLstF, capL, sTst, truD, sAnd, sOr, iteB, kB, sNot, sIfE, iteE, sAndV, andV, sOrV, orV, sNotV, notD, sIs, sFor, sWhile, iSeqS, itemsD, iRange, iZip, zipD, zip2D, iEnum, enumD, sComp, sVal, sCatF, catL, sListF, listL, sRef, sChain, chV, sSlice, sPart, sNoPart, intO, slD, sOwnIx, sOwnLen, sOwnPut, sTry, sPut, putD, pure_bindM, bad_bindM, exc_bindM, pureD, runD, startE, endD, fuelI, List.map_cons, List.map_nil, List.length_cons, List.length_nil, List.length_append, List.replicate, List.cons_append, List.nil_append, List.append_nil, List.set_cons_zero, List.set_cons_succ, List.getElem?_cons_zero, List.getElem?_cons_succ, wipeE, List.foldr, Nat.reduceAdd, Nat.reduceSub, Nat.reduceLeDiff, Nat.zero_add, Nat.add_zero, Nat.reduceLT, if_true, if_false, ite_true, ite_false, reduceIte, Bool.false_eq_true, eq_self, opNe_int, opEq_int, opLt, opLe, opGt, opGe, opCmp, opSub, opNeg, opAdd_int, ixD, atI_0, atI_1, atI_2, bTuple, bList, opIsN, opNotN, tyN, isTy, String.reduceBEq, Bool.true_or, Bool.and_false, Bool.or_false, Bool.false_or, Bool.true_and, Bool.false_and, Bool.and_true, Bool.not_true, Bool.not_false, bIs, forL, stepS, Sl.va.injEq, decide_eq_true_eq, Int.cast_ofNat_Int, Int.lt_irrefl, decide_false, Nat.gcd_zero_right]
    · have h1 := low_loop n x y w b (a % b) (by have := Nat.mod_lt a (Nat.pos_of_ne_zero hb); omega)
      have hc : (0 : Int) < (b : Int) := by omega
      have hn : (b : Int) ≠ 0 := by omega
      have hm : ((a : Int).fmod (b : Int)) = ((a % b : Nat) : Int) := by
        rw [Int.fmod_eq_emod_of_nonneg _ (by omega)]
        rfl
      simp only [whL, C__law_low_0, L__law_low_0, sSeq, sSkip, sBreak, sCont, sSet, sDrop, sRet, sRetN, sIf, iteS, sPar, setAll, sAsg, Tg.bind, gotE, sNew, sApp, appL, ownD, sSeal, sealE, sVar, sC, sCons, sNil, sOp2, sOp1, sCall, sCb, sTup, mkT, sLst, mkL1, sLstF, capL, sTst, truD, sAnd, sOr, iteB, kB, sNot, sIfE, iteE, sAndV, andV, sOrV, orV, sNotV, notD, sIs, sFor, sWhile, iSeqS, itemsD, iRange, iZip, zipD, zip2D, iEnum, enumD, sComp, sVal, sCatF, catL, sListF, listL, sRef, sChain, chV, sSlice, sPart, sNoPart, intO, slD, sOwnIx, sOwnLen, sOwnPut, sTry, sPut, putD, pure_bindM, bad_bindM, exc_bindM, pureD, runD, startE, endD, fuelI, List.map_cons, List.map_nil, List.length_cons, List.length_nil, List.length_append, List.replicate, List.cons_append, List.nil_append, List.append_nil, List.set_cons_zero, List.set_cons_succ, List.getElem?_cons_zero, List.getElem?_cons_succ, wipeE, List.foldr, Nat.reduceAdd, Nat.reduceSub, Nat.reduceLeDiff, Nat.zero_add, Nat.add_zero, Nat.reduceLT, if_true, if_false, ite_true, ite_false, reduceIte, Bool.false_eq_true, eq_self, opNe_int, opEq_int, opLt, opLe, opGt, opGe, opCmp, opSub, opNeg, opAdd_int, ixD, atI_0, atI_1, atI_2, bTuple, bList, opIsN, opNotN, tyN, isTy, String.reduceBEq, Bool.true_or, Bool.and_false, Bool.or_false, Bool.false_or, Bool.true_and, Bool.false_and, Bool.and_true, Bool.not_true, Bool.not_false, bIs, forL, stepS, Sl.va.injEq, decide_eq_true_eq, hc, decide_true, opMod_int hn, hm]
      rw [Nat.gcd_comm a b, Nat.gcd_rec b a, Nat.gcd_comm (a % b) b]
      exact h1
theorem e__law_low {t b : Int} {n m : Nat} (hb : b ≠ 0) (h : Sm n b) (l : n ≤ 8999) (ht : Sm m t) (lm : m ≤ 800000) : m__law_low [.int t, .int b] = M.pure (eQ (Rat.divInt t b)) := by
  have hg : (Int.gcd t b : Int) ≠ 0 := by
    have := Int.gcd_pos_of_ne_zero_right t hb
    omega
  have hsg := h.gcd (t := t) hb
  have s1 : Sm 1 1 := by unfold Sm; decide
  have s2 : Sm 1 (-1) := by unfold Sm; decide
  obtain ⟨t', b', h1, h2, h3, h4, h5, h6⟩ := divInt_parts t hb
  have hq : eQ (Rat.divInt t b) = .tup [.int ((b.sign * t).fdiv (Int.gcd t b : Int)), .int ((b.sign * b).fdiv (Int.gcd t b : Int))] := by
    unfold eQ
    rw [h5, h6]
    congr 3
    · congr 1
      refine Int.eq_fdiv_of_mul_eq_left hg ?_
      conv => rhs; rw [h1]
      rw [Int.mul_assoc]
    · congr 2
      refine Int.eq_fdiv_of_mul_eq_left hg ?_
      conv => rhs; rhs; rw [h2]
      rw [Int.mul_assoc]
  rw [hq]
  simp only [m__law_low, F__law_low, sSeq, sSkip, sBreak, sCont, sSet, sDrop, sRet, sRetN, sIf, iteS, sPar, setAll, sAsg, Tg.bind, gotE, sNew, sApp, appL, ownD, sSeal, sealE, sVar, sC, sCons, sNil, sOp2, sOp1, sCall, sCb, sTup, mkT, sLst, mkL1, sLstF, capL, sTst, truD, sAnd, sOr, iteB, kB, sNot, sIfE, iteE, sAndV, andV, sOrV, orV, sNotV, notD, sIs, sFor, sWhile, iSeqS, itemsD, iRange, iZip, zipD, zip2D, iEnum, enumD, sComp, sVal, sCatF, catL, sListF, listL, sRef, sChain, chV, sSlice, sPart, sNoPart, intO, slD, sOwnIx, sOwnLen, sOwnPut, sTry, sPut, putD, pure_bindM, bad_bindM, exc_bindM, pureD, runD, startE, endD, fuelI, List.map_cons, List.map_nil, List.length_cons, List.length_nil, List.length_append, List.replicate, List.cons_append, List.nil_append, List.append_nil, List.set_cons_zero, List.set_cons_succ, List.getElem?_cons_zero, List.getElem?_cons_succ, wipeE, List.foldr, Nat.reduceAdd, Nat.reduceSub, Nat.reduceLeDiff, Nat.zero_add, Nat.add_zero, Nat.reduceLT, if_true, if_false, ite_true, ite_false, reduceIte, Bool.false_eq_true, eq_self, opNe_int, opEq_int, opLt, opLe, opGt, opGe, opCmp, opSub, opNeg, opAdd_int, ixD, atI_0, atI_1, atI_2, bTuple, bList, opIsN, opNotN, tyN, isTy, String.reduceBEq, Bool.true_or, Bool.and_false, Bool.or_false, Bool.false_or, Bool.true_and, Bool.false_and, Bool.and_true, Bool.not_true, Bool.not_false, bIs, forL, stepS, Sl.va.injEq, decide_eq_true_eq, bAbs_int]
  rw [low_loop _ _ _ _ _ _ (by omega)]
  have hgg : Nat.gcd t.natAbs b.natAbs = Int.gcd t b := rfl
  rw [hgg]
  by_cases hn : b < 0
  · simp only [hn, sSeq, sSkip, sBreak, sCont, sSet, sDrop, sRet, sRetN, sIf, iteS, sPar, setAll, sAsg, Tg.bind, gotE, sNew, sApp, appL, ownD, sSeal, sealE, sVar, sC, sCons, sNil, sOp2, sOp1, sCall, sCb, sTup, mkT, sLst, mkL1, sLstF, capL, sTst, truD, sAnd, sOr, iteB, kB, sNot, sIfE, iteE, sAndV, andV, sOrV, orV, sNotV, notD, sIs, sFor, sWhile, iSeqS, itemsD, iRange, iZip, zipD, zip2D, iEnum, enumD, sComp, sVal, sCatF, catL, sListF, listL, sRef, sChain, chV, sSlice, sPart, sNoPart, intO, slD, sOwnIx, sOwnLen, sOwnPut, sTry, sPut, putD, pure_bindM, bad_bindM, exc_bindM, pureD, runD, startE, endD, fuelI, List.map_cons, List.map_nil, List.length_cons, List.length_nil, List.length_append, List.replicate, List.cons_append, List.nil_append, List.append_nil, List.set_cons_zero, List.set_cons_succ, List.getElem?_cons_zero, List.getElem?_cons_succ, wipeE, List.foldr, Nat.reduceAdd, Nat.reduceSub, Nat.reduceLeDiff, Nat.zero_add, Nat.add_zero, Nat.reduceLT, if_true, if_false, ite_true, ite_false, reduceIte, Bool.false_eq_true, eq_self, opNe_int, opEq_int, opLt, opLe, opGt, opGe, opCmp, opSub, opNeg, opAdd_int, ixD, atI_0, atI_1, atI_2, bTuple, bList, opIsN, opNotN, tyN, isTy, String.reduceBEq, Bool.true_or, Bool.and_false, Bool.or_false, Bool.false_or, Bool.true_and, Bool.false_and, Bool.and_true, Bool.not_true, Bool.not_false, bIs, forL, stepS, Sl.va.injEq, decide_eq_true_eq, decide_true, opMul_int s2 ht (by omega), opMul_int s2 h (by omega), opDiv_int hg hsg l, mkT, Int.sign_eq_neg_one_of_neg hn]
  · have h1 : b.sign = 1 := Int.sign_eq_one_of_pos (by omega)
    simp only [hn, sSeq, sSkip, sBreak, sCont, sSet, sDrop, sRet, sRetN, sIf, iteS, sPar, setAll, sAsg, Tg.bind, gotE, sNew, sApp, appL, ownD, sSeal, sealE, sVar, sC, sCons, sNil, sOp2, sOp1, sCall, sCb, sTup, mkT, sLst, mkL1, sLstF, capL, sTst, truD, sAnd, sOr, iteB, kB, sNot, sIfE, iteE, sAndV, andV, sOrV, orV, sNotV, notD, sIs, sFor, sWhile, iSeqS, itemsD, iRange, iZip, zipD, zip2D, iEnum, enumD, sComp, sVal, sCatF, catL, sListF, listL, sRef, sChain, chV, sSlice, sPart, sNoPart, intO, slD, sOwnIx, sOwnLen, sOwnPut, sTry, sPut, putD, pure_bindM, bad_bindM, exc_bindM, pureD, runD, startE, endD, fuelI, List.map_cons, List.map_nil, List.length_cons, List.length_nil, List.length_append, List.replicate, List.cons_append, List.nil_append, List.append_nil, List.set_cons_zero, List.set_cons_succ, List.getElem?_cons_zero, List.getElem?_cons_succ, wipeE, List.foldr, Nat.reduceAdd, Nat.reduceSub, Nat.reduceLeDiff, Nat.zero_add, Nat.add_zero, Nat.reduceLT, if_true, if_false, ite_true, ite_false, reduceIte, Bool.false_eq_true, eq_self, opNe_int, opEq_int, opLt, opLe, opGt, opGe, opCmp, opSub, opNeg, opAdd_int, ixD, atI_0, atI_1, atI_2, bTuple, bList, opIsN, opNotN, tyN, isTy, String.reduceBEq, Bool.true_or, Bool.and_false, Bool.or_false, Bool.false_or, Bool.true_and, Bool.false_and, Bool.and_true, Bool.not_true, Bool.not_false, bIs, forL, stepS, Sl.va.injEq, decide_eq_true_eq, decide_false, opMul_int s1 ht (by omega), opMul_int s1 h (by omega), opDiv_int hg hsg l, mkT, h1]
end Dt

set_option maxHeartbeats 4000000
namespace Dt
open PySem PySem.Spec PyProof.Rows L2
/-! ### rounds -/
theorem int_divInt (e : Int) : (e : Rat) = Rat.divInt e 1 := by
  have := (Rat.num_divInt_den (e : Rat)).symm
  rwa [Rat.num_intCast, Rat.den_intCast] at this
def eS (s : List Rat) : D := .tup (s.map eQ)
def eR (r : List Int) : D := .tup (r.map .int)
structure Stp where
  b : Int
  rows : List (List Int)
def eT (T : Stp) : D := .tup [.int T.b, .tup (T.rows.map eR)]
def dotQ : Rat → List Int → List Rat → Rat
  | a, e :: es, q :: qs => dotQ (a + (e : Rat) * q) es qs
  | a, _, _ => a
def nextQ (T : Stp) (s : List Rat) : List Rat := T.rows.map fun r => dotQ 0 r s / (T.b : Rat)
/-- fractions over one number, up to another -/
def Gd (L B : Nat) (q : Rat) : Prop := q.den ∣ L ∧ q.num.natAbs ≤ B * q.den
theorem Gd.qn {L B n m : Nat} {q : Rat} (h : Gd L B q) (h0 : 0 < L) (hL : L < 2 ^ n) (hB : B < 2 ^ m) : Qn (n + m) q := by
  have h1 := Nat.le_of_dvd h0 h.1
  have h2 : q.den < 2 ^ n := by omega
  constructor
  · show q.num.natAbs < 2 ^ (n + m)
    have h3 : B * q.den ≤ 2 ^ m * q.den := Nat.mul_le_mul_right _ (by omega)
    have h4 : 2 ^ m * q.den < 2 ^ m * 2 ^ n := Nat.mul_lt_mul_of_pos_left h2 (Nat.two_pow_pos m)
    rw [Nat.pow_add, Nat.mul_comm (2 ^ n)]
    have := h.2
    omega
  · exact (Sm.nat (n := n) h2).mono (by omega)
theorem Gd.mono {L B C : Nat} {q : Rat} (h : Gd L B q) (l : B ≤ C) : Gd L C q := ⟨h.1, Nat.le_trans h.2 (Nat.mul_le_mul_right _ l)⟩
/-- what a fraction over L is: a whole number over L -/
theorem Gd.of {L B : Nat} {q : Rat} {t : Int} (h0 : 0 < L) (e : q = Rat.divInt t L) (hb : t.natAbs ≤ B * L) : Gd L B q := by
  have hL : (L : Int) ≠ 0 := by omega
  obtain ⟨t', b', h1, h2, h3, h4, h5, h6⟩ := divInt_parts t hL
  rw [Int.sign_eq_one_of_pos (by omega), Int.one_mul] at h5 h6
  rw [← e] at h5 h6
  generalize hg : Int.gcd t (L : Int) = g at *
  have hLd : L = q.den * g := by
    have : (L : Int) = (q.den : Int) * (g : Int) := by rw [h6]; exact h2
    exact_mod_cast this
  refine ⟨⟨g, hLd⟩, ?_⟩
  have hg0 : 0 < g := by omega
  rw [h5]
  have e1 : t.natAbs = t'.natAbs * g := by rw [h1, Int.natAbs_mul]; rfl
  rw [e1, hLd, ← Nat.mul_assoc] at hb
  exact Nat.le_of_mul_le_mul_right hb hg0
theorem Gd.top {L B : Nat} {q : Rat} (h : Gd L B q) (h0 : 0 < L) : ∃ t : Int, q = Rat.divInt t L ∧ t.natAbs ≤ B * L := by
  obtain ⟨⟨c, hc⟩, h2⟩ := h
  refine ⟨q.num * c, ?_, ?_⟩
  · have hc0 : (c : Int) ≠ 0 := by
      intro e
      have : c = 0 := by omega
      subst this
      omega
    rw [hc, Int.natCast_mul, Rat.divInt_mul_right hc0, Rat.num_divInt_den]
  · rw [hc, Int.natAbs_mul, ← Nat.mul_assoc]
    exact Nat.mul_le_mul_right _ h2
theorem Gd.add {L B C : Nat} {x y : Rat} (h0 : 0 < L) (h : Gd L B x) (g : Gd L C y) : Gd L (B + C) (x + y) := by
  obtain ⟨t, e1, l1⟩ := h.top h0
  obtain ⟨u, e2, l2⟩ := g.top h0
  have hL : (L : Int) ≠ 0 := by omega
  refine Gd.of (t := t + u) h0 ?_ ?_
  · rw [e1, e2, Rat.divInt_add_divInt _ _ hL hL, ← Int.add_mul, Rat.divInt_mul_right hL]
  · have := Int.natAbs_add_le t u
    rw [Nat.add_mul]
    omega
theorem Gd.smul {L B m : Nat} {e : Int} {x : Rat} (h0 : 0 < L) (h : Gd L B x) (l : e.natAbs ≤ m) : Gd L (m * B) ((e : Rat) * x) := by
  obtain ⟨t, e1, l1⟩ := h.top h0
  refine Gd.of (t := e * t) h0 ?_ ?_
  · rw [e1, int_divInt, Rat.divInt_mul_divInt, Int.one_mul]
  · rw [Int.natAbs_mul, Nat.mul_assoc]
    exact Nat.mul_le_mul l l1
theorem Gd.div {L B : Nat} {x : Rat} {b : Nat} (h0 : 0 < L) (h : Gd L B x) (hb : 0 < b) : Gd (L * b) B (x / (b : Int)) := by
  obtain ⟨t, e1, l1⟩ := h.top h0
  refine Gd.of (t := t) (Nat.mul_pos h0 hb) ?_ (Nat.le_trans l1 (by rw [← Nat.mul_assoc]; exact Nat.le_mul_of_pos_right _ hb))
  rw [e1, Rat.div_def, int_divInt, Rat.inv_divInt, Rat.divInt_mul_divInt, Int.mul_one, Int.natCast_mul]
theorem e_int_q (e : Int) (q : Rat) : Rat.divInt (e * q.num) q.den = (e : Rat) * q := by
  conv => rhs; rw [← Rat.num_divInt_den q]
  rw [int_divInt, Rat.divInt_mul_divInt, Int.one_mul]
theorem e_q_div (q : Rat) {b : Int} (hb : b ≠ 0) : Rat.divInt q.num (q.den * b) = q / (b : Rat) := by
  conv => rhs; rw [← Rat.num_divInt_den q]
  rw [Rat.div_def, int_divInt, Rat.inv_divInt, Rat.divInt_mul_divInt, Int.mul_one]
/-- a sum and its parts stay few bits -/
theorem dot_gd {L B m A : Nat} (h0 : 0 < L) : ∀ {r : List Int} {s : List Rat} {a : Rat}, Gd L A a → (∀ e ∈ r, e.natAbs ≤ m) → (∀ q ∈ s, Gd L B q) → Gd L (A + r.length * (m * B)) (dotQ a r s)
  | [], s, a, h, h1, h2 => by
    cases s <;> exact h.mono (by omega)
  | e :: r, [], a, h, h1, h2 => h.mono (by omega)
  | e :: r, q :: s, a, h, h1, h2 => by
    have := dot_gd h0 (A := A + m * B) (r := r) (s := s) (Gd.add h0 h ((h2 q (by simp)).smul h0 (h1 e (by simp)))) (fun e he => h1 e (by simp [he])) (fun q hq => h2 q (by simp [hq]))
    refine Gd.mono this ?_
    simp only [List.length_cons, Nat.add_mul, Nat.one_mul]
    omega
theorem dot_loop {L B n A : Nat} (h0 : 0 < L) (hL : L < 2 ^ n) {v0 v1 v2 v3 : Sl} : ∀ {r : List Int} {s : List Rat} {a : Rat}, Gd L A a → (∀ e ∈ r, e.natAbs ≤ 9) → (∀ q ∈ s, Gd L B q) → (A + r.length * (9 * B)) + 9 * B < 2 ^ n → n ≤ 1999 → forL (.tp [5, 6]) [5, 6] L_next_stand_0 (zipL (r.map .int) (s.map eQ)) [v0, v1, v2, v3, .va (eQ a), .no, .no] = M.pure (.nx, [v0, v1, v2, v3, .va (eQ (dotQ a r s)), .no, .no])
  | [], s, a, h, h1, h2, h3, l => by
    cases s <;> rfl
  | e :: r, [], a, h, h1, h2, h3, l => rfl
  | e :: r, q :: s, a, h, h1, h2, h3, l => by
    have g2 := h2 q (by simp)
    have g1 := h1 e (by simp)
    have g3 := g2.smul h0 g1
    simp only [List.length_cons, Nat.add_mul, Nat.one_mul] at h3
    have q1 : Qn (n + n) a := h.qn h0 hL (by omega)
    have q2 : Qn (n + n) q := g2.qn h0 hL (by omega)
    have q3 : Qn (n + n) ((e : Rat) * q) := g3.qn h0 hL (by omega)
    have s9 : Sm 4 e := by
      unfold Sm
      omega
    have ih := dot_loop (v0 := v0) (v1 := v1) (v2 := v2) (v3 := v3) (B := B) h0 hL (A := A + 9 * B) (r := r) (s := s) (Gd.add h0 h g3) (fun e he => h1 e (by simp [he])) (fun q hq => h2 q (by simp [hq])) (by omega) l
    have fr := e_fraction (t := e * q.num) (den_ne q) q2.2 (by omega)
    have pl := e_plus q1 q3 (by omega)
    have mu := opMul_int s9 q2.1 (by omega)
    simp only [List.map_cons, zipL, forL, Tg.bind, sSeq, sSkip, sBreak, sCont, sSet, sDrop, sRet, sRetN, sIf, iteS, sPar, setAll, sAsg, Tg.bind, gotE, sNew, sApp, appL, ownD, sSeal, sealE, sVar, sC, sCons, sNil, sOp2, sOp1, sCall, sCb, sTup, mkT, sLst, mkL1, sLstF, capL, sTst, truD, sAnd, sOr, iteB, kB, sNot, sIfE, iteE, sAndV, andV, sOrV, orV, sNotV, notD, sIs, sFor, sWhile, iSeqS, itemsD, iRange, iZip, zipD, zip2D, iEnum, enumD, sComp, sVal, sCatF, catL, sListF, listL, sRef, sChain, chV, sSlice, sPart, sNoPart, intO, slD, sOwnIx, sOwnLen, sOwnPut, sTry, sPut, putD, pure_bindM, bad_bindM, exc_bindM, pureD, runD, startE, endD, fuelI, List.map_cons, List.map_nil, List.length_cons, List.length_nil, List.length_append, List.replicate, List.cons_append, List.nil_append, List.append_nil, List.set_cons_zero, List.set_cons_succ, List.getElem?_cons_zero, List.getElem?_cons_succ, wipeE, List.foldr, Nat.reduceAdd, Nat.reduceSub, Nat.reduceLeDiff, Nat.zero_add, Nat.add_zero, Nat.reduceLT, if_true, if_false, ite_true, ite_false, reduceIte, Bool.false_eq_true, eq_self, opNe_int, opEq_int, opLt, opLe, opGt, opGe, opCmp, opSub, opNeg, opAdd_int, ixD, atI_0, atI_1, atI_2, bTuple, bList, opIsN, opNotN, tyN, isTy, String.reduceBEq, Bool.true_or, Bool.and_false, Bool.or_false, Bool.false_or, Bool.true_and, Bool.false_and, Bool.and_true, Bool.not_true, Bool.not_false, bIs, forL, stepS, Sl.va.injEq, decide_eq_true_eq, L_next_stand_0]
    rw [show eQ q = .tup [.int q.num, .int q.den] from rfl]
    simp only [sSeq, sSkip, sBreak, sCont, sSet, sDrop, sRet, sRetN, sIf, iteS, sPar, setAll, sAsg, Tg.bind, gotE, sNew, sApp, appL, ownD, sSeal, sealE, sVar, sC, sCons, sNil, sOp2, sOp1, sCall, sCb, sTup, mkT, sLst, mkL1, sLstF, capL, sTst, truD, sAnd, sOr, iteB, kB, sNot, sIfE, iteE, sAndV, andV, sOrV, orV, sNotV, notD, sIs, sFor, sWhile, iSeqS, itemsD, iRange, iZip, zipD, zip2D, iEnum, enumD, sComp, sVal, sCatF, catL, sListF, listL, sRef, sChain, chV, sSlice, sPart, sNoPart, intO, slD, sOwnIx, sOwnLen, sOwnPut, sTry, sPut, putD, pure_bindM, bad_bindM, exc_bindM, pureD, runD, startE, endD, fuelI, List.map_cons, List.map_nil, List.length_cons, List.length_nil, List.length_append, List.replicate, List.cons_append, List.nil_append, List.append_nil, List.set_cons_zero, List.set_cons_succ, List.getElem?_cons_zero, List.getElem?_cons_succ, wipeE, List.foldr, Nat.reduceAdd, Nat.reduceSub, Nat.reduceLeDiff, Nat.zero_add, Nat.add_zero, Nat.reduceLT, if_true, if_false, ite_true, ite_false, reduceIte, Bool.false_eq_true, eq_self, opNe_int, opEq_int, opLt, opLe, opGt, opGe, opCmp, opSub, opNeg, opAdd_int, ixD, atI_0, atI_1, atI_2, bTuple, bList, opIsN, opNotN, tyN, isTy, String.reduceBEq, Bool.true_or, Bool.and_false, Bool.or_false, Bool.false_or, Bool.true_and, Bool.false_and, Bool.and_true, Bool.not_true, Bool.not_false, bIs, forL, stepS, Sl.va.injEq, decide_eq_true_eq, mu, fr, e_int_q, pl]
    exact ih
end Dt

set_option maxHeartbeats 4000000
namespace Dt
open PySem PySem.Spec PyProof.Rows L2
structure StpOk (T : Stp) : Prop where
  b1 : 1 ≤ T.b
  b9 : T.b ≤ 9
  n1 : 1 ≤ T.rows.length
  n3 : T.rows.length ≤ 3
  len : ∀ r ∈ T.rows, r.length = T.rows.length
  ent : ∀ r ∈ T.rows, ∀ e ∈ r, e.natAbs ≤ 9
def Good (n : Nat) (s : List Rat) : Prop := ∃ L B, 0 < L ∧ L < 2 ^ n ∧ B < 2 ^ n ∧ ∀ q ∈ s, Gd L B q
theorem eQ_0 : (D.tup [.int 0, .int 1]) = eQ 0 := rfl
theorem gd_0 {L : Nat} : Gd L 0 (0 : Rat) := ⟨⟨L, by rw [show (0 : Rat).den = 1 from rfl, Nat.one_mul]⟩, by show (0 : Rat).num.natAbs ≤ _; rw [show (0 : Rat).num = 0 from rfl]; simp⟩
theorem rows_loop {T : Stp} {s : List Rat} {L B n : Nat} (b1 : 1 ≤ T.b) (b9 : T.b ≤ 9) (h0 : 0 < L) (hL : L < 2 ^ n) (hB : B < 2 ^ n) (l : n ≤ 1990) (hs : ∀ q ∈ s, Gd L B q) : ∀ (rs : List (List Int)) (acc : List D), (∀ r ∈ rs, r.length ≤ 3 ∧ ∀ e ∈ r, e.natAbs ≤ 9) → acc.length + rs.length ≤ 1000000 → forL (.nm 3) [3, 4, 5, 6] L_next_stand_1 (rs.map eR) [.va (eT T), .va (eS s), .ow acc, .no, .no, .no, .no] = M.pure (.nx, [.va (eT T), .va (eS s), .ow (acc ++ (rs.map fun r => eQ (dotQ 0 r s / (T.b : Rat)))), .no, .no, .no, .no])
  | [], acc, h, ha => by simp only [List.map_nil, forL, List.append_nil]
  | r :: rs, acc, h, ha => by
    obtain ⟨h3, he⟩ := h r (by simp)
    have hp : 2 ^ n * 64 = 2 ^ (n + 6) := by rw [Nat.pow_add]
    have hlen : r.length * (9 * B) ≤ 3 * (9 * B) := Nat.mul_le_mul_right _ h3
    have lo := dot_loop (v0 := .va (eT T)) (v1 := .va (eS s)) (v2 := .ow acc) (v3 := .va (eR r)) (r := r) (s := s) (a := 0) (n := n + 6) h0 (by omega) (A := 0) (gd_0 (L := L)) he hs (by omega) (by omega)
    have gd := dot_gd h0 (m := 9) (r := r) (s := s) (a := 0) (gd_0 (L := L)) he hs
    have qd : Qn ((n + 6) + (n + 6)) (dotQ 0 r s) := gd.qn h0 (by omega) (by omega)
    have s4 : Sm 4 T.b := by unfold Sm; omega
    have mu := opMul_int qd.2 s4 (by omega)
    have fr := e_fraction (t := (dotQ 0 r s).num) (Int.mul_ne_zero (den_ne (dotQ 0 r s)) (by omega : T.b ≠ 0)) (qd.2.mul s4) (by omega)
    have ih := rows_loop b1 b9 h0 hL hB l hs rs (acc ++ [eQ (dotQ 0 r s / (T.b : Rat))]) (fun r hr => h r (by simp [hr])) (by simp at *; omega)
    have hal : acc.length < 1000000 := by simp at ha; omega
    simp only [List.map_cons, forL, Tg.bind, sSeq, sSkip, sBreak, sCont, sSet, sDrop, sRet, sRetN, sIf, iteS, sPar, setAll, sAsg, Tg.bind, gotE, sNew, sApp, appL, ownD, sSeal, sealE, sVar, sC, sCons, sNil, sOp2, sOp1, sCall, sCb, sTup, mkT, sLst, mkL1, sLstF, capL, sTst, truD, sAnd, sOr, iteB, kB, sNot, sIfE, iteE, sAndV, andV, sOrV, orV, sNotV, notD, sIs, sFor, sWhile, iSeqS, itemsD, iRange, iZip, zipD, zip2D, iEnum, enumD, sComp, sVal, sCatF, catL, sListF, listL, sRef, sChain, chV, sSlice, sPart, sNoPart, intO, slD, sOwnIx, sOwnLen, sOwnPut, sTry, sPut, putD, pure_bindM, bad_bindM, exc_bindM, pureD, runD, startE, endD, fuelI, List.map_cons, List.map_nil, List.length_cons, List.length_nil, List.length_append, List.replicate, List.cons_append, List.nil_append, List.append_nil, List.set_cons_zero, List.set_cons_succ, List.getElem?_cons_zero, List.getElem?_cons_succ, wipeE, List.foldr, Nat.reduceAdd, Nat.reduceSub, Nat.reduceLeDiff, Nat.zero_add, Nat.add_zero, Nat.reduceLT, if_true, if_false, ite_true, ite_false, reduceIte, Bool.false_eq_true, eq_self, opNe_int, opEq_int, opLt, opLe, opGt, opGe, opCmp, opSub, opNeg, opAdd_int, ixD, atI_0, atI_1, atI_2, bTuple, bList, opIsN, opNotN, tyN, isTy, String.reduceBEq, Bool.true_or, Bool.and_false, Bool.or_false, Bool.false_or, Bool.true_and, Bool.false_and, Bool.and_true, Bool.not_true, Bool.not_false, bIs, forL, stepS, Sl.va.injEq, decide_eq_true_eq, L_next_stand_1, mkT, eQ_0, eR, eS, eT]
    simp only [eR, eS, eT] at lo
    rw [lo]
    rw [show eQ (dotQ 0 r s) = .tup [.int (dotQ 0 r s).num, .int (dotQ 0 r s).den] from rfl]
    simp only [sSeq, sSkip, sBreak, sCont, sSet, sDrop, sRet, sRetN, sIf, iteS, sPar, setAll, sAsg, Tg.bind, gotE, sNew, sApp, appL, ownD, sSeal, sealE, sVar, sC, sCons, sNil, sOp2, sOp1, sCall, sCb, sTup, mkT, sLst, mkL1, sLstF, capL, sTst, truD, sAnd, sOr, iteB, kB, sNot, sIfE, iteE, sAndV, andV, sOrV, orV, sNotV, notD, sIs, sFor, sWhile, iSeqS, itemsD, iRange, iZip, zipD, zip2D, iEnum, enumD, sComp, sVal, sCatF, catL, sListF, listL, sRef, sChain, chV, sSlice, sPart, sNoPart, intO, slD, sOwnIx, sOwnLen, sOwnPut, sTry, sPut, putD, pure_bindM, bad_bindM, exc_bindM, pureD, runD, startE, endD, fuelI, List.map_cons, List.map_nil, List.length_cons, List.length_nil, List.length_append, List.replicate, List.cons_append, List.nil_append, List.append_nil, List.set_cons_zero, List.set_cons_succ, List.getElem?_cons_zero, List.getElem?_cons_succ, wipeE, List.foldr, Nat.reduceAdd, Nat.reduceSub, Nat.reduceLeDiff, Nat.zero_add, Nat.add_zero, Nat.reduceLT, if_true, if_false, ite_true, ite_false, reduceIte, Bool.false_eq_true, eq_self, opNe_int, opEq_int, opLt, opLe, opGt, opGe, opCmp, opSub, opNeg, opAdd_int, ixD, atI_0, atI_1, atI_2, bTuple, bList, opIsN, opNotN, tyN, isTy, String.reduceBEq, Bool.true_or, Bool.and_false, Bool.or_false, Bool.false_or, Bool.true_and, Bool.false_and, Bool.and_true, Bool.not_true, Bool.not_false, bIs, forL, stepS, Sl.va.injEq, decide_eq_true_eq, mu, fr, e_q_div _ (by omega : T.b ≠ 0), hal]
    simp only [List.append_assoc, List.cons_append, List.nil_append, eR, eS, eT] at ih
    exact ih
theorem e_next_stand {T : Stp} {s : List Rat} {n : Nat} (h : StpOk T) (g : Good n s) (l : n ≤ 1990) : m_next_stand [eT T, eS s] = M.pure (eS (nextQ T s)) := by
  obtain ⟨L, B, h0, hL, hB, hs⟩ := g
  have lo := rows_loop h.b1 h.b9 h0 hL hB l hs T.rows [] (fun r hr => ⟨by rw [h.len r hr]; exact h.n3, h.ent r hr⟩) (by have := h.n3; simp; omega)
  simp only [eS, eT] at lo
  have hl : (T.rows.map fun r => eQ (dotQ 0 r s / (T.b : Rat))).length ≤ 1000000 := by have := h.n3; simp; omega
  simp only [m_next_stand, F_next_stand, sSeq, sSkip, sBreak, sCont, sSet, sDrop, sRet, sRetN, sIf, iteS, sPar, setAll, sAsg, Tg.bind, gotE, sNew, sApp, appL, ownD, sSeal, sealE, sVar, sC, sCons, sNil, sOp2, sOp1, sCall, sCb, sTup, mkT, sLst, mkL1, sLstF, capL, sTst, truD, sAnd, sOr, iteB, kB, sNot, sIfE, iteE, sAndV, andV, sOrV, orV, sNotV, notD, sIs, sFor, sWhile, iSeqS, itemsD, iRange, iZip, zipD, zip2D, iEnum, enumD, sComp, sVal, sCatF, catL, sListF, listL, sRef, sChain, chV, sSlice, sPart, sNoPart, intO, slD, sOwnIx, sOwnLen, sOwnPut, sTry, sPut, putD, pure_bindM, bad_bindM, exc_bindM, pureD, runD, startE, endD, fuelI, List.map_cons, List.map_nil, List.length_cons, List.length_nil, List.length_append, List.replicate, List.cons_append, List.nil_append, List.append_nil, List.set_cons_zero, List.set_cons_succ, List.getElem?_cons_zero, List.getElem?_cons_succ, wipeE, List.foldr, Nat.reduceAdd, Nat.reduceSub, Nat.reduceLeDiff, Nat.zero_add, Nat.add_zero, Nat.reduceLT, if_true, if_false, ite_true, ite_false, reduceIte, Bool.false_eq_true, eq_self, opNe_int, opEq_int, opLt, opLe, opGt, opGe, opCmp, opSub, opNeg, opAdd_int, ixD, atI_0, atI_1, atI_2, bTuple, bList, opIsN, opNotN, tyN, isTy, String.reduceBEq, Bool.true_or, Bool.and_false, Bool.or_false, Bool.false_or, Bool.true_and, Bool.false_and, Bool.and_true, Bool.not_true, Bool.not_false, bIs, forL, stepS, Sl.va.injEq, decide_eq_true_eq, eT, eS, nextQ, lo]
  simp only [sSeq, sSkip, sBreak, sCont, sSet, sDrop, sRet, sRetN, sIf, iteS, sPar, setAll, sAsg, Tg.bind, gotE, sNew, sApp, appL, ownD, sSeal, sealE, sVar, sC, sCons, sNil, sOp2, sOp1, sCall, sCb, sTup, mkT, sLst, mkL1, sLstF, capL, sTst, truD, sAnd, sOr, iteB, kB, sNot, sIfE, iteE, sAndV, andV, sOrV, orV, sNotV, notD, sIs, sFor, sWhile, iSeqS, itemsD, iRange, iZip, zipD, zip2D, iEnum, enumD, sComp, sVal, sCatF, catL, sListF, listL, sRef, sChain, chV, sSlice, sPart, sNoPart, intO, slD, sOwnIx, sOwnLen, sOwnPut, sTry, sPut, putD, pure_bindM, bad_bindM, exc_bindM, pureD, runD, startE, endD, fuelI, List.map_cons, List.map_nil, List.length_cons, List.length_nil, List.length_append, List.replicate, List.cons_append, List.nil_append, List.append_nil, List.set_cons_zero, List.set_cons_succ, List.getElem?_cons_zero, List.getElem?_cons_succ, wipeE, List.foldr, Nat.reduceAdd, Nat.reduceSub, Nat.reduceLeDiff, Nat.zero_add, Nat.add_zero, Nat.reduceLT, if_true, if_false, ite_true, ite_false, reduceIte, Bool.false_eq_true, eq_self, opNe_int, opEq_int, opLt, opLe, opGt, opGe, opCmp, opSub, opNeg, opAdd_int, ixD, atI_0, atI_1, atI_2, bTuple, bList, opIsN, opNotN, tyN, isTy, String.reduceBEq, Bool.true_or, Bool.and_false, Bool.or_false, Bool.false_or, Bool.true_and, Bool.false_and, Bool.and_true, Bool.not_true, Bool.not_false, bIs, forL, stepS, Sl.va.injEq, decide_eq_true_eq, List.map_map, Function.comp_def]
theorem Good.next {T : Stp} {s : List Rat} {n : Nat} (h : StpOk T) (g : Good n s) : Good (n + 6) (nextQ T s) := by
  obtain ⟨L, B, h0, hL, hB, hs⟩ := g
  have hp : 2 ^ n * 64 = 2 ^ (n + 6) := by rw [Nat.pow_add]
  have hb := h.b1
  have hb9 := h.b9
  refine ⟨L * T.b.natAbs, 27 * B, Nat.mul_pos h0 (by omega), ?_, by omega, ?_⟩
  · have : L * T.b.natAbs ≤ L * 9 := Nat.mul_le_mul_left _ (by omega)
    omega
  · intro q hq
    obtain ⟨r, hr, rfl⟩ := List.mem_map.mp hq
    have gd := dot_gd h0 (m := 9) (r := r) (s := s) (a := 0) (gd_0 (L := L)) (h.ent r hr) hs
    have h3 : r.length ≤ 3 := by rw [h.len r hr]; exact h.n3
    have hlen : r.length * (9 * B) ≤ 3 * (9 * B) := Nat.mul_le_mul_right _ h3
    have := (gd.mono (C := 27 * B) (by omega)).div h0 (b := T.b.natAbs) (by omega)
    rwa [show ((T.b.natAbs : Nat) : Int) = T.b by omega] at this
/-! ### the law's own round -/
theorem law_dot_loop {L B n A : Nat} (h0 : 0 < L) (hL : L < 2 ^ n) {v0 v1 v2 v3 : Sl} : ∀ {r : List Int} {s : List Rat} {a : Rat}, Gd L A a → (∀ e ∈ r, e.natAbs ≤ 9) → (∀ q ∈ s, Gd L B q) → (A + r.length * (9 * B)) + 9 * B < 2 ^ n → n ≤ 1999 → forL (.tp [6, 7]) [6, 7] L__law_next_0 (zipL (r.map .int) (s.map eQ)) [v0, v1, v2, v3, .va (.int a.num), .va (.int a.den), .no, .no] = M.pure (.nx, [v0, v1, v2, v3, .va (.int (dotQ a r s).num), .va (.int (dotQ a r s).den), .no, .no])
  | [], s, a, h, h1, h2, h3, l => by
    cases s <;> rfl
  | e :: r, [], a, h, h1, h2, h3, l => rfl
  | e :: r, q :: s, a, h, h1, h2, h3, l => by
    have g2 := h2 q (by simp)
    have g1 := h1 e (by simp)
    have g3 := g2.smul h0 g1
    simp only [List.length_cons, Nat.add_mul, Nat.one_mul] at h3
    have q1 : Qn (n + n) a := h.qn h0 hL (by omega)
    have q2 : Qn (n + n) q := g2.qn h0 hL (by omega)
    have s9 : Sm 4 e := by
      unfold Sm
      omega
    have ih := law_dot_loop (v0 := v0) (v1 := v1) (v2 := v2) (v3 := v3) (B := B) h0 hL (A := A + 9 * B) (r := r) (s := s) (Gd.add h0 h g3) (fun e he => h1 e (by simp [he])) (fun q hq => h2 q (by simp [hq])) (by omega) l
    have m1 := opMul_int q1.1 q2.2 (by omega)
    have m2 := opMul_int s9 q2.1 (by omega)
    have m3 := opMul_int (s9.mul q2.1) q1.2 (by omega)
    have m4 := opMul_int q1.2 q2.2 (by omega)
    have hd0 : (a.den : Int) * q.den ≠ 0 := Int.mul_ne_zero (den_ne a) (den_ne q)
    have ss : Sm (4 + (n + n) + (n + n) + 1) (a.num * q.den + e * q.num * a.den) := Sm.add ((q1.1.mul q2.2).mono (by omega)) ((s9.mul q2.1).mul q1.2)
    have lw := e__law_low (t := a.num * q.den + e * q.num * a.den) hd0 (q1.2.mul q2.2) (by omega) ss (by omega)
    have hsum : Rat.divInt (a.num * q.den + e * q.num * a.den) (a.den * q.den) = a + (e : Rat) * q := by
      rw [← e_int_q, ← Rat.divInt_add_divInt _ _ (den_ne a) (den_ne q), Rat.num_divInt_den]
    rw [hsum] at lw
    simp only [List.map_cons, zipL, forL, Tg.bind, sSeq, sSkip, sBreak, sCont, sSet, sDrop, sRet, sRetN, sIf, iteS, sPar, setAll, sAsg, Tg.bind, gotE, sNew, sApp, appL, ownD, sSeal, sealE, sVar, sC, sCons, sNil, sOp2, sOp1, sCall, sCb, sTup, mkT, sLst, mkL1, sLstF, capL, sTst, truD, sAnd, sOr, iteB, kB, sNot, sIfE, iteE, sAndV, andV, sOrV, orV, sNotV, notD, sIs, sFor, sWhile, iSeqS, itemsD, iRange, iZip, zipD, zip2D, iEnum, enumD, sComp, sVal, sCatF, catL, sListF, listL, sRef, sChain, chV, sSlice, sPart, sNoPart, intO, slD, sOwnIx, sOwnLen, sOwnPut, sTry, sPut, putD, pure_bindM, bad_bindM, exc_bindM, pureD, runD, startE, endD, fuelI, List.map_cons, List.map_nil, List.length_cons, List.length_nil, List.length_append, List.replicate, List.cons_append, List.nil_append, List.append_nil, List.set_cons_zero, List.set_cons_succ, List.getElem?_cons_zero, List.getElem?_cons_succ, wipeE, List.foldr, Nat.reduceAdd, Nat.reduceSub, Nat.reduceLeDiff, Nat.zero_add, Nat.add_zero, Nat.reduceLT, if_true, if_false, ite_true, ite_false, reduceIte, Bool.false_eq_true, eq_self, opNe_int, opEq_int, opLt, opLe, opGt, opGe, opCmp, opSub, opNeg, opAdd_int, ixD, atI_0, atI_1, atI_2, bTuple, bList, opIsN, opNotN, tyN, isTy, String.reduceBEq, Bool.true_or, Bool.and_false, Bool.or_false, Bool.false_or, Bool.true_and, Bool.false_and, Bool.and_true, Bool.not_true, Bool.not_false, bIs, forL, stepS, Sl.va.injEq, decide_eq_true_eq, L__law_next_0]
    rw [show eQ q = .tup [.int q.num, .int q.den] from rfl]
    simp only [sSeq, sSkip, sBreak, sCont, sSet, sDrop, sRet, sRetN, sIf, iteS, sPar, setAll, sAsg, Tg.bind, gotE, sNew, sApp, appL, ownD, sSeal, sealE, sVar, sC, sCons, sNil, sOp2, sOp1, sCall, sCb, sTup, mkT, sLst, mkL1, sLstF, capL, sTst, truD, sAnd, sOr, iteB, kB, sNot, sIfE, iteE, sAndV, andV, sOrV, orV, sNotV, notD, sIs, sFor, sWhile, iSeqS, itemsD, iRange, iZip, zipD, zip2D, iEnum, enumD, sComp, sVal, sCatF, catL, sListF, listL, sRef, sChain, chV, sSlice, sPart, sNoPart, intO, slD, sOwnIx, sOwnLen, sOwnPut, sTry, sPut, putD, pure_bindM, bad_bindM, exc_bindM, pureD, runD, startE, endD, fuelI, List.map_cons, List.map_nil, List.length_cons, List.length_nil, List.length_append, List.replicate, List.cons_append, List.nil_append, List.append_nil, List.set_cons_zero, List.set_cons_succ, List.getElem?_cons_zero, List.getElem?_cons_succ, wipeE, List.foldr, Nat.reduceAdd, Nat.reduceSub, Nat.reduceLeDiff, Nat.zero_add, Nat.add_zero, Nat.reduceLT, if_true, if_false, ite_true, ite_false, reduceIte, Bool.false_eq_true, eq_self, opNe_int, opEq_int, opLt, opLe, opGt, opGe, opCmp, opSub, opNeg, opAdd_int, ixD, atI_0, atI_1, atI_2, bTuple, bList, opIsN, opNotN, tyN, isTy, String.reduceBEq, Bool.true_or, Bool.and_false, Bool.or_false, Bool.false_or, Bool.true_and, Bool.false_and, Bool.and_true, Bool.not_true, Bool.not_false, bIs, forL, stepS, Sl.va.injEq, decide_eq_true_eq, m1, m2, m3, m4, lw]
    rw [show eQ (a + (e : Rat) * q) = .tup [.int (a + (e : Rat) * q).num, .int (a + (e : Rat) * q).den] from rfl]
    simp only [sSeq, sSkip, sBreak, sCont, sSet, sDrop, sRet, sRetN, sIf, iteS, sPar, setAll, sAsg, Tg.bind, gotE, sNew, sApp, appL, ownD, sSeal, sealE, sVar, sC, sCons, sNil, sOp2, sOp1, sCall, sCb, sTup, mkT, sLst, mkL1, sLstF, capL, sTst, truD, sAnd, sOr, iteB, kB, sNot, sIfE, iteE, sAndV, andV, sOrV, orV, sNotV, notD, sIs, sFor, sWhile, iSeqS, itemsD, iRange, iZip, zipD, zip2D, iEnum, enumD, sComp, sVal, sCatF, catL, sListF, listL, sRef, sChain, chV, sSlice, sPart, sNoPart, intO, slD, sOwnIx, sOwnLen, sOwnPut, sTry, sPut, putD, pure_bindM, bad_bindM, exc_bindM, pureD, runD, startE, endD, fuelI, List.map_cons, List.map_nil, List.length_cons, List.length_nil, List.length_append, List.replicate, List.cons_append, List.nil_append, List.append_nil, List.set_cons_zero, List.set_cons_succ, List.getElem?_cons_zero, List.getElem?_cons_succ, wipeE, List.foldr, Nat.reduceAdd, Nat.reduceSub, Nat.reduceLeDiff, Nat.zero_add, Nat.add_zero, Nat.reduceLT, if_true, if_false, ite_true, ite_false, reduceIte, Bool.false_eq_true, eq_self, opNe_int, opEq_int, opLt, opLe, opGt, opGe, opCmp, opSub, opNeg, opAdd_int, ixD, atI_0, atI_1, atI_2, bTuple, bList, opIsN, opNotN, tyN, isTy, String.reduceBEq, Bool.true_or, Bool.and_false, Bool.or_false, Bool.false_or, Bool.true_and, Bool.false_and, Bool.and_true, Bool.not_true, Bool.not_false, bIs, forL, stepS, Sl.va.injEq, decide_eq_true_eq]
    exact ih
theorem law_rows_loop {T : Stp} {s : List Rat} {L B n : Nat} (b1 : 1 ≤ T.b) (b9 : T.b ≤ 9) (h0 : 0 < L) (hL : L < 2 ^ n) (hB : B < 2 ^ n) (l : n ≤ 1990) (hs : ∀ q ∈ s, Gd L B q) : ∀ (rs : List (List Int)) (acc : List D), (∀ r ∈ rs, r.length ≤ 3 ∧ ∀ e ∈ r, e.natAbs ≤ 9) → acc.length + rs.length ≤ 1000000 → forL (.nm 3) [3, 4, 5, 6, 7] L__law_next_1 (rs.map eR) [.va (eT T), .va (eS s), .ow acc, .no, .no, .no, .no, .no] = M.pure (.nx, [.va (eT T), .va (eS s), .ow (acc ++ (rs.map fun r => eQ (dotQ 0 r s / (T.b : Rat)))), .no, .no, .no, .no, .no])
  | [], acc, h, ha => by simp only [List.map_nil, forL, List.append_nil]
  | r :: rs, acc, h, ha => by
    obtain ⟨h3, he⟩ := h r (by simp)
    have hp : 2 ^ n * 64 = 2 ^ (n + 6) := by rw [Nat.pow_add]
    have hlen : r.length * (9 * B) ≤ 3 * (9 * B) := Nat.mul_le_mul_right _ h3
    have lo := law_dot_loop (v0 := .va (eT T)) (v1 := .va (eS s)) (v2 := .ow acc) (v3 := .va (eR r)) (r := r) (s := s) (a := 0) (n := n + 6) h0 (by omega) (A := 0) (gd_0 (L := L)) he hs (by omega) (by omega)
    have gd := dot_gd h0 (m := 9) (r := r) (s := s) (a := 0) (gd_0 (L := L)) he hs
    have qd : Qn ((n + 6) + (n + 6)) (dotQ 0 r s) := gd.qn h0 (by omega) (by omega)
    have s4 : Sm 4 T.b := by unfold Sm; omega
    have mu := opMul_int qd.2 s4 (by omega)
    have fr := e__law_low (t := (dotQ 0 r s).num) (Int.mul_ne_zero (den_ne (dotQ 0 r s)) (by omega : T.b ≠ 0)) (qd.2.mul s4) (by omega) qd.1 (by omega)
    have ih := law_rows_loop b1 b9 h0 hL hB l hs rs (acc ++ [eQ (dotQ 0 r s / (T.b : Rat))]) (fun r hr => h r (by simp [hr])) (by simp at *; omega)
    have hal : acc.length < 1000000 := by simp at ha; omega
    rw [show (0 : Rat).num = 0 from rfl, show ((0 : Rat).den : Int) = 1 from rfl] at lo
    simp only [List.map_cons, forL, Tg.bind, sSeq, sSkip, sBreak, sCont, sSet, sDrop, sRet, sRetN, sIf, iteS, sPar, setAll, sAsg, Tg.bind, gotE, sNew, sApp, appL, ownD, sSeal, sealE, sVar, sC, sCons, sNil, sOp2, sOp1, sCall, sCb, sTup, mkT, sLst, mkL1, sLstF, capL, sTst, truD, sAnd, sOr, iteB, kB, sNot, sIfE, iteE, sAndV, andV, sOrV, orV, sNotV, notD, sIs, sFor, sWhile, iSeqS, itemsD, iRange, iZip, zipD, zip2D, iEnum, enumD, sComp, sVal, sCatF, catL, sListF, listL, sRef, sChain, chV, sSlice, sPart, sNoPart, intO, slD, sOwnIx, sOwnLen, sOwnPut, sTry, sPut, putD, pure_bindM, bad_bindM, exc_bindM, pureD, runD, startE, endD, fuelI, List.map_cons, List.map_nil, List.length_cons, List.length_nil, List.length_append, List.replicate, List.cons_append, List.nil_append, List.append_nil, List.set_cons_zero, List.set_cons_succ, List.getElem?_cons_zero, List.getElem?_cons_succ, wipeE, List.foldr, Nat.reduceAdd, Nat.reduceSub, Nat.reduceLeDiff, Nat.zero_add, Nat.add_zero, Nat.reduceLT, if_true, if_false, ite_true, ite_false, reduceIte, Bool.false_eq_true, eq_self, opNe_int, opEq_int, opLt, opLe, opGt, opGe, opCmp, opSub, opNeg, opAdd_int, ixD, atI_0, atI_1, atI_2, bTuple, bList, opIsN, opNotN, tyN, isTy, String.reduceBEq, Bool.true_or, Bool.and_false, Bool.or_false, Bool.false_or, Bool.true_and, Bool.false_and, Bool.and_true, Bool.not_true, Bool.not_false, bIs, forL, stepS, Sl.va.injEq, decide_eq_true_eq, L__law_next_1, mkT, eR, eS, eT]
    simp only [eR, eS, eT] at lo
    rw [lo]
    simp only [sSeq, sSkip, sBreak, sCont, sSet, sDrop, sRet, sRetN, sIf, iteS, sPar, setAll, sAsg, Tg.bind, gotE, sNew, sApp, appL, ownD, sSeal, sealE, sVar, sC, sCons, sNil, sOp2, sOp1, sCall, sCb, sTup, mkT, sLst, mkL1, sLstF, capL, sTst, truD, sAnd, sOr, iteB, kB, sNot, sIfE, iteE, sAndV, andV, sOrV, orV, sNotV, notD, sIs, sFor, sWhile, iSeqS, itemsD, iRange, iZip, zipD, zip2D, iEnum, enumD, sComp, sVal, sCatF, catL, sListF, listL, sRef, sChain, chV, sSlice, sPart, sNoPart, intO, slD, sOwnIx, sOwnLen, sOwnPut, sTry, sPut, putD, pure_bindM, bad_bindM, exc_bindM, pureD, runD, startE, endD, fuelI, List.map_cons, List.map_nil, List.length_cons, List.length_nil, List.length_append, List.replicate, List.cons_append, List.nil_append, List.append_nil, List.set_cons_zero, List.set_cons_succ, List.getElem?_cons_zero, List.getElem?_cons_succ, wipeE, List.foldr, Nat.reduceAdd, Nat.reduceSub, Nat.reduceLeDiff, Nat.zero_add, Nat.add_zero, Nat.reduceLT, if_true, if_false, ite_true, ite_false, reduceIte, Bool.false_eq_true, eq_self, opNe_int, opEq_int, opLt, opLe, opGt, opGe, opCmp, opSub, opNeg, opAdd_int, ixD, atI_0, atI_1, atI_2, bTuple, bList, opIsN, opNotN, tyN, isTy, String.reduceBEq, Bool.true_or, Bool.and_false, Bool.or_false, Bool.false_or, Bool.true_and, Bool.false_and, Bool.and_true, Bool.not_true, Bool.not_false, bIs, forL, stepS, Sl.va.injEq, decide_eq_true_eq, mu, fr, e_q_div _ (by omega : T.b ≠ 0), hal]
    simp only [List.append_assoc, List.cons_append, List.nil_append, eR, eS, eT] at ih
    exact ih
theorem e__law_next {T : Stp} {s : List Rat} {n : Nat} (h : StpOk T) (g : Good n s) (l : n ≤ 1990) : m__law_next [eT T, eS s] = M.pure (eS (nextQ T s)) := by
  obtain ⟨L, B, h0, hL, hB, hs⟩ := g
  have lo := law_rows_loop h.b1 h.b9 h0 hL hB l hs T.rows [] (fun r hr => ⟨by rw [h.len r hr]; exact h.n3, h.ent r hr⟩) (by have := h.n3; simp; omega)
  simp only [eS, eT] at lo
  simp only [m__law_next, F__law_next, sSeq, sSkip, sBreak, sCont, sSet, sDrop, sRet, sRetN, sIf, iteS, sPar, setAll, sAsg, Tg.bind, gotE, sNew, sApp, appL, ownD, sSeal, sealE, sVar, sC, sCons, sNil, sOp2, sOp1, sCall, sCb, sTup, mkT, sLst, mkL1, sLstF, capL, sTst, truD, sAnd, sOr, iteB, kB, sNot, sIfE, iteE, sAndV, andV, sOrV, orV, sNotV, notD, sIs, sFor, sWhile, iSeqS, itemsD, iRange, iZip, zipD, zip2D, iEnum, enumD, sComp, sVal, sCatF, catL, sListF, listL, sRef, sChain, chV, sSlice, sPart, sNoPart, intO, slD, sOwnIx, sOwnLen, sOwnPut, sTry, sPut, putD, pure_bindM, bad_bindM, exc_bindM, pureD, runD, startE, endD, fuelI, List.map_cons, List.map_nil, List.length_cons, List.length_nil, List.length_append, List.replicate, List.cons_append, List.nil_append, List.append_nil, List.set_cons_zero, List.set_cons_succ, List.getElem?_cons_zero, List.getElem?_cons_succ, wipeE, List.foldr, Nat.reduceAdd, Nat.reduceSub, Nat.reduceLeDiff, Nat.zero_add, Nat.add_zero, Nat.reduceLT, if_true, if_false, ite_true, ite_false, reduceIte, Bool.false_eq_true, eq_self, opNe_int, opEq_int, opLt, opLe, opGt, opGe, opCmp, opSub, opNeg, opAdd_int, ixD, atI_0, atI_1, atI_2, bTuple, bList, opIsN, opNotN, tyN, isTy, String.reduceBEq, Bool.true_or, Bool.and_false, Bool.or_false, Bool.false_or, Bool.true_and, Bool.false_and, Bool.and_true, Bool.not_true, Bool.not_false, bIs, forL, stepS, Sl.va.injEq, decide_eq_true_eq, eT, eS, nextQ, lo]
  simp only [sSeq, sSkip, sBreak, sCont, sSet, sDrop, sRet, sRetN, sIf, iteS, sPar, setAll, sAsg, Tg.bind, gotE, sNew, sApp, appL, ownD, sSeal, sealE, sVar, sC, sCons, sNil, sOp2, sOp1, sCall, sCb, sTup, mkT, sLst, mkL1, sLstF, capL, sTst, truD, sAnd, sOr, iteB, kB, sNot, sIfE, iteE, sAndV, andV, sOrV, orV, sNotV, notD, sIs, sFor, sWhile, iSeqS, itemsD, iRange, iZip, zipD, zip2D, iEnum, enumD, sComp, sVal, sCatF, catL, sListF, listL, sRef, sChain, chV, sSlice, sPart, sNoPart, intO, slD, sOwnIx, sOwnLen, sOwnPut, sTry, sPut, putD, pure_bindM, bad_bindM, exc_bindM, pureD, runD, startE, endD, fuelI, List.map_cons, List.map_nil, List.length_cons, List.length_nil, List.length_append, List.replicate, List.cons_append, List.nil_append, List.append_nil, List.set_cons_zero, List.set_cons_succ, List.getElem?_cons_zero, List.getElem?_cons_succ, wipeE, List.foldr, Nat.reduceAdd, Nat.reduceSub, Nat.reduceLeDiff, Nat.zero_add, Nat.add_zero, Nat.reduceLT, if_true, if_false, ite_true, ite_false, reduceIte, Bool.false_eq_true, eq_self, opNe_int, opEq_int, opLt, opLe, opGt, opGe, opCmp, opSub, opNeg, opAdd_int, ixD, atI_0, atI_1, atI_2, bTuple, bList, opIsN, opNotN, tyN, isTy, String.reduceBEq, Bool.true_or, Bool.and_false, Bool.or_false, Bool.false_or, Bool.true_and, Bool.false_and, Bool.and_true, Bool.not_true, Bool.not_false, bIs, forL, stepS, Sl.va.injEq, decide_eq_true_eq, List.map_map, Function.comp_def]
end Dt

set_option maxHeartbeats 4000000
namespace Dt
open PySem PySem.Spec PyProof.Rows L2
def afterQ (T : Stp) : List Rat → Nat → List Rat
  | s, 0 => s
  | s, k + 1 => afterQ T (nextQ T s) k
theorem Good.after {T : Stp} (h : StpOk T) : ∀ {n k : Nat} {s : List Rat}, Good n s → Good (n + 6 * k) (afterQ T s k)
  | n, 0, s, g => g
  | n, k + 1, s, g => by
    have := Good.after h (k := k) (Good.next h g)
    rw [show n + 6 * (k + 1) = n + 6 + 6 * k by omega]
    exact this
theorem after_loop {T : Stp} (h : StpOk T) {w : Sl} : ∀ (ds : List D) {n : Nat} {s : List Rat}, Good n s → n + 6 * ds.length ≤ 1990 → forL (.nm 3) [3] L_stand_after_0 ds [.va (eT T), .va (eS s), w, .no] = M.pure (.nx, [.va (eT T), .va (eS (afterQ T s ds.length)), w, .no])
  | [], n, s, g, l => rfl
  | d :: ds, n, s, g, l => by
    have l' : n + 6 * ds.length + 6 ≤ 1990 := by simp at l; omega
    have ih := after_loop h (w := w) ds (Good.next h g) (by omega)
    simp only [forL, Tg.bind, sSeq, sSkip, sBreak, sCont, sSet, sDrop, sRet, sRetN, sIf, iteS, sPar, setAll, sAsg, Tg.bind, gotE, sNew, sApp, appL, ownD, sSeal, sealE, sVar, sC, sCons, sNil, sOp2, sOp1, sCall, sCb, sTup, mkT, sLst, mkL1, sLstF, capL, sTst, truD, sAnd, sOr, iteB, kB, sNot, sIfE, iteE, sAndV, andV, sOrV, orV, sNotV, notD, sIs, sFor, sWhile, iSeqS, itemsD, iRange, iZip, zipD, zip2D, iEnum, enumD, sComp, sVal, sCatF, catL, sListF, listL, sRef, sChain, chV, sSlice, sPart, sNoPart, intO, slD, sOwnIx, sOwnLen, sOwnPut, sTry, sPut, putD, pure_bindM, bad_bindM, exc_bindM, pureD, runD, startE, endD, fuelI, List.map_cons, List.map_nil, List.length_cons, List.length_nil, List.length_append, List.replicate, List.cons_append, List.nil_append, List.append_nil, List.set_cons_zero, List.set_cons_succ, List.getElem?_cons_zero, List.getElem?_cons_succ, wipeE, List.foldr, Nat.reduceAdd, Nat.reduceSub, Nat.reduceLeDiff, Nat.zero_add, Nat.add_zero, Nat.reduceLT, if_true, if_false, ite_true, ite_false, reduceIte, Bool.false_eq_true, eq_self, opNe_int, opEq_int, opLt, opLe, opGt, opGe, opCmp, opSub, opNeg, opAdd_int, ixD, atI_0, atI_1, atI_2, bTuple, bList, opIsN, opNotN, tyN, isTy, String.reduceBEq, Bool.true_or, Bool.and_false, Bool.or_false, Bool.false_or, Bool.true_and, Bool.false_and, Bool.and_true, Bool.not_true, Bool.not_false, bIs, forL, stepS, Sl.va.injEq, decide_eq_true_eq, L_stand_after_0, e_next_stand h g (by omega)]
    exact ih
theorem rangeD_len (lo : Int) (n : Nat) : (rangeD lo n).length = n := by simp [rangeD]
theorem range_nat {k : Nat} (h : k < 1000000000) : rangeS [.int k] = M.pure (rangeD 0 k) := by
  show (if rBd (k : Int) = true then M.pure (rangeD 0 (k : Int).toNat) else M.bad) = _
  have e : rBd (k : Int) = true := Nat.ble_eq_true_of_le (by omega)
  rw [if_pos e, Int.toNat_natCast]
theorem range_for {t : Tg} {wp : List Nat} {body : SS} {Fs : SA} {env : Env} {k : Nat} (h : Fs env = M.pure [.int k]) (l : k < 1000000000) : sFor (iRange Fs) t wp body env = forL t wp body (rangeD 0 k) (wipeE wp env) := by
  show ((Fs env >>= rangeS) >>= _) = _
  rw [h, pure_bindM, range_nat l, pure_bindM]
theorem e_stand_after {T : Stp} {s : List Rat} {n k : Nat} (h : StpOk T) (g : Good n s) (l : n + 6 * k ≤ 1990) : m_stand_after [eT T, eS s, .int k] = M.pure (eS (afterQ T s k)) := by
  have lo := after_loop h (w := .va (.int k)) (rangeD 0 k) g (by rw [rangeD_len]; exact l)
  rw [rangeD_len] at lo
  have lo2 := (range_for (t := .nm 3) (wp := [3]) (body := L_stand_after_0) (Fs := sCons (sVar 2) sNil) (env := [.va (eT T), .va (eS s), .va (.int k), .no]) (k := k) rfl (by omega)).trans lo
  simp only [m_stand_after, F_stand_after, sSeq, sSkip, sBreak, sCont, sSet, sDrop, sRet, sRetN, sIf, iteS, sPar, setAll, sAsg, Tg.bind, gotE, sNew, sApp, appL, ownD, sSeal, sealE, sVar, sC, sCons, sNil, sOp2, sOp1, sCall, sCb, sTup, mkT, sLst, mkL1, sLstF, capL, sTst, truD, sAnd, sOr, iteB, kB, sNot, sIfE, iteE, sAndV, andV, sOrV, orV, sNotV, notD, sIs, sWhile, iSeqS, itemsD, iZip, zipD, zip2D, iEnum, enumD, sComp, sVal, sCatF, catL, sListF, listL, sRef, sChain, chV, sSlice, sPart, sNoPart, intO, slD, sOwnIx, sOwnLen, sOwnPut, sTry, sPut, putD, pure_bindM, bad_bindM, exc_bindM, pureD, runD, startE, endD, fuelI, List.map_cons, List.map_nil, List.length_cons, List.length_nil, List.length_append, List.replicate, List.cons_append, List.nil_append, List.append_nil, List.set_cons_zero, List.set_cons_succ, List.getElem?_cons_zero, List.getElem?_cons_succ, wipeE, List.foldr, Nat.reduceAdd, Nat.reduceSub, Nat.reduceLeDiff, Nat.zero_add, Nat.add_zero, Nat.reduceLT, if_true, if_false, ite_true, ite_false, reduceIte, Bool.false_eq_true, eq_self, opNe_int, opEq_int, opLt, opLe, opGt, opGe, opCmp, opSub, opNeg, opAdd_int, ixD, atI_0, atI_1, atI_2, bTuple, bList, opIsN, opNotN, tyN, isTy, String.reduceBEq, Bool.true_or, Bool.and_false, Bool.or_false, Bool.false_or, Bool.true_and, Bool.false_and, Bool.and_true, Bool.not_true, Bool.not_false, bIs, forL, stepS, Sl.va.injEq, decide_eq_true_eq, lo2]
theorem law_after_loop {T : Stp} (h : StpOk T) {w : Sl} : ∀ (ds : List D) {n : Nat} {s : List Rat}, Good n s → n + 6 * ds.length ≤ 1990 → forL (.nm 3) [3] L__law_after_0 ds [.va (eT T), .va (eS s), w, .no] = M.pure (.nx, [.va (eT T), .va (eS (afterQ T s ds.length)), w, .no])
  | [], n, s, g, l => rfl
  | d :: ds, n, s, g, l => by
    have l' : n + 6 * ds.length + 6 ≤ 1990 := by simp at l; omega
    have ih := law_after_loop h (w := w) ds (Good.next h g) (by omega)
    simp only [forL, Tg.bind, sSeq, sSkip, sBreak, sCont, sSet, sDrop, sRet, sRetN, sIf, iteS, sPar, setAll, sAsg, Tg.bind, gotE, sNew, sApp, appL, ownD, sSeal, sealE, sVar, sC, sCons, sNil, sOp2, sOp1, sCall, sCb, sTup, mkT, sLst, mkL1, sLstF, capL, sTst, truD, sAnd, sOr, iteB, kB, sNot, sIfE, iteE, sAndV, andV, sOrV, orV, sNotV, notD, sIs, sFor, sWhile, iSeqS, itemsD, iRange, iZip, zipD, zip2D, iEnum, enumD, sComp, sVal, sCatF, catL, sListF, listL, sRef, sChain, chV, sSlice, sPart, sNoPart, intO, slD, sOwnIx, sOwnLen, sOwnPut, sTry, sPut, putD, pure_bindM, bad_bindM, exc_bindM, pureD, runD, startE, endD, fuelI, List.map_cons, List.map_nil, List.length_cons, List.length_nil, List.length_append, List.replicate, List.cons_append, List.nil_append, List.append_nil, List.set_cons_zero, List.set_cons_succ, List.getElem?_cons_zero, List.getElem?_cons_succ, wipeE, List.foldr, Nat.reduceAdd, Nat.reduceSub, Nat.reduceLeDiff, Nat.zero_add, Nat.add_zero, Nat.reduceLT, if_true, if_false, ite_true, ite_false, reduceIte, Bool.false_eq_true, eq_self, opNe_int, opEq_int, opLt, opLe, opGt, opGe, opCmp, opSub, opNeg, opAdd_int, ixD, atI_0, atI_1, atI_2, bTuple, bList, opIsN, opNotN, tyN, isTy, String.reduceBEq, Bool.true_or, Bool.and_false, Bool.or_false, Bool.false_or, Bool.true_and, Bool.false_and, Bool.and_true, Bool.not_true, Bool.not_false, bIs, forL, stepS, Sl.va.injEq, decide_eq_true_eq, L__law_after_0, e__law_next h g (by omega)]
    exact ih
theorem e__law_after {T : Stp} {s : List Rat} {n k : Nat} (h : StpOk T) (g : Good n s) (l : n + 6 * k ≤ 1990) : m__law_after [eT T, eS s, .int k] = M.pure (eS (afterQ T s k)) := by
  have lo := law_after_loop h (w := .va (.int k)) (rangeD 0 k) g (by rw [rangeD_len]; exact l)
  rw [rangeD_len] at lo
  have lo2 := (range_for (t := .nm 3) (wp := [3]) (body := L__law_after_0) (Fs := sCons (sVar 2) sNil) (env := [.va (eT T), .va (eS s), .va (.int k), .no]) (k := k) rfl (by omega)).trans lo
  simp only [m__law_after, F__law_after, sSeq, sSkip, sBreak, sCont, sSet, sDrop, sRet, sRetN, sIf, iteS, sPar, setAll, sAsg, Tg.bind, gotE, sNew, sApp, appL, ownD, sSeal, sealE, sVar, sC, sCons, sNil, sOp2, sOp1, sCall, sCb, sTup, mkT, sLst, mkL1, sLstF, capL, sTst, truD, sAnd, sOr, iteB, kB, sNot, sIfE, iteE, sAndV, andV, sOrV, orV, sNotV, notD, sIs, sWhile, iSeqS, itemsD, iZip, zipD, zip2D, iEnum, enumD, sComp, sVal, sCatF, catL, sListF, listL, sRef, sChain, chV, sSlice, sPart, sNoPart, intO, slD, sOwnIx, sOwnLen, sOwnPut, sTry, sPut, putD, pure_bindM, bad_bindM, exc_bindM, pureD, runD, startE, endD, fuelI, List.map_cons, List.map_nil, List.length_cons, List.length_nil, List.length_append, List.replicate, List.cons_append, List.nil_append, List.append_nil, List.set_cons_zero, List.set_cons_succ, List.getElem?_cons_zero, List.getElem?_cons_succ, wipeE, List.foldr, Nat.reduceAdd, Nat.reduceSub, Nat.reduceLeDiff, Nat.zero_add, Nat.add_zero, Nat.reduceLT, if_true, if_false, ite_true, ite_false, reduceIte, Bool.false_eq_true, eq_self, opNe_int, opEq_int, opLt, opLe, opGt, opGe, opCmp, opSub, opNeg, opAdd_int, ixD, atI_0, atI_1, atI_2, bTuple, bList, opIsN, opNotN, tyN, isTy, String.reduceBEq, Bool.true_or, Bool.and_false, Bool.or_false, Bool.false_or, Bool.true_and, Bool.false_and, Bool.and_true, Bool.not_true, Bool.not_false, bIs, forL, stepS, Sl.va.injEq, decide_eq_true_eq, lo2]
/-! ### loops of a comprehension -/
theorem noExc_pure {α : Type} (a : α) : noExc (M.pure a) = M.pure a := rfl
theorem cmpL_map {t : Tg} {G : SE} {env : Env} (g : D → D) : ∀ (ds acc : List D), (∀ d ∈ ds, ∃ e1, t.bind d env = some e1 ∧ G e1 = M.pure (g d)) → cmpL t sYes G env ds acc = M.pure (acc ++ ds.map g)
  | [], acc, h => by simp only [cmpL, List.map_nil, List.append_nil]
  | d :: ds, acc, h => by
    obtain ⟨e1, h1, h2⟩ := h d (by simp)
    have ih := cmpL_map g ds (acc ++ [g d]) (fun d hd => h d (by simp [hd]))
    simp only [cmpL, h1, gotE, sYes, pure_bindM, iteC, h2, ih, List.map_cons, List.append_assoc, List.cons_append, List.nil_append]
theorem cmpT_map {t : Tg} {vs : List Nat} {G : SE} {env : Env} (g : D → D) {ds : List D} (hl : ds.length ≤ 1000000) (h : ∀ d ∈ ds, ∃ e1, t.bind d (wipeE vs env) = some e1 ∧ G e1 = M.pure (g d)) : cmpT t vs sYes G ds env = M.pure (.lst (ds.map g)) := by
  unfold cmpT
  rw [if_pos hl, cmpL_map g ds [] h]
  rfl
theorem cmpL_filt {t : Tg} {I : SB} {G : SE} {env : Env} (p : D → Bool) (g : D → D) : ∀ (ds acc : List D), (∀ d ∈ ds, ∃ e1, t.bind d env = some e1 ∧ I e1 = M.pure (p d) ∧ (p d = true → G e1 = M.pure (g d))) → cmpL t I G env ds acc = M.pure (acc ++ (ds.filter p).map g)
  | [], acc, h => by simp only [cmpL, List.filter_nil, List.map_nil, List.append_nil]
  | d :: ds, acc, h => by
    obtain ⟨e1, h1, h2, h3⟩ := h d (by simp)
    cases hp : p d with
    | true =>
      have ih := cmpL_filt p g ds (acc ++ [g d]) (fun d hd => h d (by simp [hd]))
      simp only [cmpL, h1, gotE, pure_bindM, h2, hp, iteC, h3 hp, ih, List.filter_cons, if_true, List.map_cons, List.append_assoc, List.cons_append, List.nil_append]
    | false =>
      have ih := cmpL_filt p g ds acc (fun d hd => h d (by simp [hd]))
      simp only [cmpL, h1, gotE, pure_bindM, h2, hp, iteC, ih, List.filter_cons, Bool.false_eq_true, if_false]
theorem cmpT_filt {t : Tg} {vs : List Nat} {I : SB} {G : SE} {env : Env} (p : D → Bool) (g : D → D) {ds : List D} (hl : ds.length ≤ 1000000) (h : ∀ d ∈ ds, ∃ e1, t.bind d (wipeE vs env) = some e1 ∧ I e1 = M.pure (p d) ∧ (p d = true → G e1 = M.pure (g d))) : cmpT t vs I G ds env = M.pure (.lst ((ds.filter p).map g)) := by
  unfold cmpT
  rw [if_pos hl, cmpL_filt p g ds [] h]
  rfl
theorem boolsD_map (p : D → Bool) : ∀ ds : List D, boolsD (ds.map fun d => .bl (p d)) = some (ds.map p)
  | [] => rfl
  | d :: ds => by
    show (boolsD (ds.map fun d => .bl (p d))).map (p d :: ·) = _
    rw [boolsD_map p ds]
    rfl
theorem bAll_map (p : D → Bool) (ds : List D) : bAll [.lst (ds.map fun d => .bl (p d))] = M.pure (.bl (ds.all p)) := by
  show onB (·.all id) (boolsD _) = _
  rw [boolsD_map]
  show M.pure (D.bl ((ds.map p).all id)) = _
  rw [List.all_map]
  rfl
theorem bAny_map (p : D → Bool) (ds : List D) : bAny [.lst (ds.map fun d => .bl (p d))] = M.pure (.bl (ds.any p)) := by
  show onB (·.any id) (boolsD _) = _
  rw [boolsD_map]
  show M.pure (D.bl ((ds.map p).any id)) = _
  rw [List.any_map]
  rfl
/-! ### values of the program's kinds -/
mutual
/-- plain data -/
def plD : D → Bool
  | .tup ds => plDs ds
  | .lst ds => plDs ds
  | .ref _ => false
  | .adr _ => false
  | _ => true
def plDs : List D → Bool
  | [] => true
  | d :: ds => plD d && plDs ds
end
def isW (lo hi : Int) : D → Bool
  | .int i => decide (lo ≤ i) && decide (i ≤ hi)
  | _ => false
def isRow (n : Nat) : D → Bool
  | .tup ds => (ds.length == n) && ds.all (isW (-9) 9)
  | _ => false
def isStep : D → Bool
  | .tup [b, .tup rows] => isW 1 9 b && (decide (1 ≤ rows.length) && decide (rows.length ≤ 3) && rows.all (isRow rows.length))
  | _ => false
def isFr : D → Bool
  | .tup [.int a, .int b] => (decide (-(1000000000000000000000000000000) ≤ a) && decide (a ≤ 1000000000000000000000000000000)) && ((decide (1 ≤ b) && decide (b ≤ 100)) && (Int.gcd a b == 1))
  | _ => false
def isStand (n : Nat) : D → Bool
  | .tup ds => (ds.length == n) && ds.all isFr
  | _ => false
theorem e_is_within {d : D} (h : plD d = true) (lo hi : Int) : m_is_within [d, .int lo, .int hi] = M.pure (.bl (isW lo hi d)) := by
  cases d with
  | int i =>
    simp only [m_is_within, F_is_within, sSeq, sSkip, sBreak, sCont, sSet, sDrop, sRet, sRetN, sIf, iteS, sPar, setAll, sAsg, Tg.bind, gotE, sNew, sApp, appL, ownD, sSeal, sealE, sVar, sC, sCons, sNil, sOp2, sOp1, sCall, sCb, sTup, mkT, sLst, mkL1, sLstF, capL, sTst, truD, sAnd, sOr, iteB, kB, sNot, sIfE, iteE, sAndV, andV, sOrV, orV, sNotV, notD, sIs, sFor, sWhile, iSeqS, itemsD, iRange, iZip, zipD, zip2D, iEnum, enumD, sComp, sVal, sCatF, catL, sListF, listL, sRef, sChain, chV, sSlice, sPart, sNoPart, intO, slD, sOwnIx, sOwnLen, sOwnPut, sTry, sPut, putD, pure_bindM, bad_bindM, exc_bindM, pureD, runD, startE, endD, fuelI, List.map_cons, List.map_nil, List.length_cons, List.length_nil, List.length_append, List.replicate, List.cons_append, List.nil_append, List.append_nil, List.set_cons_zero, List.set_cons_succ, List.getElem?_cons_zero, List.getElem?_cons_succ, wipeE, List.foldr, Nat.reduceAdd, Nat.reduceSub, Nat.reduceLeDiff, Nat.zero_add, Nat.add_zero, Nat.reduceLT, if_true, if_false, ite_true, ite_false, reduceIte, Bool.false_eq_true, eq_self, opNe_int, opEq_int, opLt, opLe, opGt, opGe, opCmp, opSub, opNeg, opAdd_int, ixD, atI_0, atI_1, atI_2, bTuple, bList, opIsN, opNotN, tyN, isTy, String.reduceBEq, Bool.true_or, Bool.and_false, Bool.or_false, Bool.false_or, Bool.true_and, Bool.false_and, Bool.and_true, Bool.not_true, Bool.not_false, bIs, forL, stepS, Sl.va.injEq, decide_eq_true_eq, notD, isW]
    by_cases h1 : lo ≤ i
    · simp only [h1, decide_true, sSeq, sSkip, sBreak, sCont, sSet, sDrop, sRet, sRetN, sIf, iteS, sPar, setAll, sAsg, Tg.bind, gotE, sNew, sApp, appL, ownD, sSeal, sealE, sVar, sC, sCons, sNil, sOp2, sOp1, sCall, sCb, sTup, mkT, sLst, mkL1, sLstF, capL, sTst, truD, sAnd, sOr, iteB, kB, sNot, sIfE, iteE, sAndV, andV, sOrV, orV, sNotV, notD, sIs, sFor, sWhile, iSeqS, itemsD, iRange, iZip, zipD, zip2D, iEnum, enumD, sComp, sVal, sCatF, catL, sListF, listL, sRef, sChain, chV, sSlice, sPart, sNoPart, intO, slD, sOwnIx, sOwnLen, sOwnPut, sTry, sPut, putD, pure_bindM, bad_bindM, exc_bindM, pureD, runD, startE, endD, fuelI, List.map_cons, List.map_nil, List.length_cons, List.length_nil, List.length_append, List.replicate, List.cons_append, List.nil_append, List.append_nil, List.set_cons_zero, List.set_cons_succ, List.getElem?_cons_zero, List.getElem?_cons_succ, wipeE, List.foldr, Nat.reduceAdd, Nat.reduceSub, Nat.reduceLeDiff, Nat.zero_add, Nat.add_zero, Nat.reduceLT, if_true, if_false, ite_true, ite_false, reduceIte, Bool.false_eq_true, eq_self, opNe_int, opEq_int, opLt, opLe, opGt, opGe, opCmp, opSub, opNeg, opAdd_int, ixD, atI_0, atI_1, atI_2, bTuple, bList, opIsN, opNotN, tyN, isTy, String.reduceBEq, Bool.true_or, Bool.and_false, Bool.or_false, Bool.false_or, Bool.true_and, Bool.false_and, Bool.and_true, Bool.not_true, Bool.not_false, bIs, forL, stepS, Sl.va.injEq, decide_eq_true_eq]
    · simp only [h1, decide_false, sSeq, sSkip, sBreak, sCont, sSet, sDrop, sRet, sRetN, sIf, iteS, sPar, setAll, sAsg, Tg.bind, gotE, sNew, sApp, appL, ownD, sSeal, sealE, sVar, sC, sCons, sNil, sOp2, sOp1, sCall, sCb, sTup, mkT, sLst, mkL1, sLstF, capL, sTst, truD, sAnd, sOr, iteB, kB, sNot, sIfE, iteE, sAndV, andV, sOrV, orV, sNotV, notD, sIs, sFor, sWhile, iSeqS, itemsD, iRange, iZip, zipD, zip2D, iEnum, enumD, sComp, sVal, sCatF, catL, sListF, listL, sRef, sChain, chV, sSlice, sPart, sNoPart, intO, slD, sOwnIx, sOwnLen, sOwnPut, sTry, sPut, putD, pure_bindM, bad_bindM, exc_bindM, pureD, runD, startE, endD, fuelI, List.map_cons, List.map_nil, List.length_cons, List.length_nil, List.length_append, List.replicate, List.cons_append, List.nil_append, List.append_nil, List.set_cons_zero, List.set_cons_succ, List.getElem?_cons_zero, List.getElem?_cons_succ, wipeE, List.foldr, Nat.reduceAdd, Nat.reduceSub, Nat.reduceLeDiff, Nat.zero_add, Nat.add_zero, Nat.reduceLT, if_true, if_false, ite_true, ite_false, reduceIte, Bool.false_eq_true, eq_self, opNe_int, opEq_int, opLt, opLe, opGt, opGe, opCmp, opSub, opNeg, opAdd_int, ixD, atI_0, atI_1, atI_2, bTuple, bList, opIsN, opNotN, tyN, isTy, String.reduceBEq, Bool.true_or, Bool.and_false, Bool.or_false, Bool.false_or, Bool.true_and, Bool.false_and, Bool.and_true, Bool.not_true, Bool.not_false, bIs, forL, stepS, Sl.va.injEq, decide_eq_true_eq]
  | ref k => exact absurd h Bool.false_ne_true
  | adr k => exact absurd h Bool.false_ne_true
  | _ => rfl
theorem plDs_mem : ∀ {ds : List D} {d : D}, plDs ds = true → d ∈ ds → plD d = true
  | d :: ds, x, h, hm => by
    simp only [plDs, Bool.and_eq_true] at h
    rcases List.mem_cons.mp hm with rfl | hm
    · exact h.1
    · exact plDs_mem h.2 hm
theorem len_int (a b : Nat) : (((a : Nat) : Int) == ((b : Nat) : Int)) = (a == b) := by
  rw [Bool.eq_iff_iff]
  simp
  omega
theorem e_is_row {d : D} (h : plD d = true) {n : Nat} (hn : n ≤ 1000000) : m_is_row [d, .int n, .int 9] = M.pure (.bl (isRow n d)) := by
  cases d with
  | tup ds =>
    simp only [plD] at h
    simp only [m_is_row, F_is_row, sSeq, sSkip, sBreak, sCont, sSet, sDrop, sRet, sRetN, sIf, iteS, sPar, setAll, sAsg, Tg.bind, gotE, sNew, sApp, appL, ownD, sSeal, sealE, sVar, sC, sCons, sNil, sOp2, sOp1, sCall, sCb, sTup, mkT, sLst, mkL1, sLstF, capL, sTst, truD, sAnd, sOr, iteB, kB, sNot, sIfE, iteE, sAndV, andV, sOrV, orV, sNotV, notD, sIs, sFor, sWhile, iSeqS, itemsD, iRange, iZip, zipD, zip2D, iEnum, enumD, sComp, sVal, sCatF, catL, sListF, listL, sRef, sChain, chV, sSlice, sPart, sNoPart, intO, slD, sOwnIx, sOwnLen, sOwnPut, sTry, sPut, putD, pure_bindM, bad_bindM, exc_bindM, pureD, runD, startE, endD, fuelI, List.map_cons, List.map_nil, List.length_cons, List.length_nil, List.length_append, List.replicate, List.cons_append, List.nil_append, List.append_nil, List.set_cons_zero, List.set_cons_succ, List.getElem?_cons_zero, List.getElem?_cons_succ, wipeE, List.foldr, Nat.reduceAdd, Nat.reduceSub, Nat.reduceLeDiff, Nat.zero_add, Nat.add_zero, Nat.reduceLT, if_true, if_false, ite_true, ite_false, reduceIte, Bool.false_eq_true, eq_self, opNe_int, opEq_int, opLt, opLe, opGt, opGe, opCmp, opSub, opNeg, opAdd_int, ixD, atI_0, atI_1, atI_2, bTuple, bList, opIsN, opNotN, tyN, isTy, String.reduceBEq, Bool.true_or, Bool.and_false, Bool.or_false, Bool.false_or, Bool.true_and, Bool.false_and, Bool.and_true, Bool.not_true, Bool.not_false, bIs, forL, stepS, Sl.va.injEq, decide_eq_true_eq, bLen, isTy, beq_self_eq_true, Bool.true_or, len_int, isRow]
    cases hl : ds.length == n with
    | false => rfl
    | true =>
      have hl' : ds.length = n := by simpa using hl
      simp only [sSeq, sSkip, sBreak, sCont, sSet, sDrop, sRet, sRetN, sIf, iteS, sPar, setAll, sAsg, Tg.bind, gotE, sNew, sApp, appL, ownD, sSeal, sealE, sVar, sC, sCons, sNil, sOp2, sOp1, sCall, sCb, sTup, mkT, sLst, mkL1, sLstF, capL, sTst, truD, sAnd, sOr, iteB, kB, sNot, sIfE, iteE, sAndV, andV, sOrV, orV, sNotV, notD, sIs, sFor, sWhile, iSeqS, itemsD, iRange, iZip, zipD, zip2D, iEnum, enumD, sComp, sVal, sCatF, catL, sListF, listL, sRef, sChain, chV, sSlice, sPart, sNoPart, intO, slD, sOwnIx, sOwnLen, sOwnPut, sTry, sPut, putD, pure_bindM, bad_bindM, exc_bindM, pureD, runD, startE, endD, fuelI, List.map_cons, List.map_nil, List.length_cons, List.length_nil, List.length_append, List.replicate, List.cons_append, List.nil_append, List.append_nil, List.set_cons_zero, List.set_cons_succ, List.getElem?_cons_zero, List.getElem?_cons_succ, wipeE, List.foldr, Nat.reduceAdd, Nat.reduceSub, Nat.reduceLeDiff, Nat.zero_add, Nat.add_zero, Nat.reduceLT, if_true, if_false, ite_true, ite_false, reduceIte, Bool.false_eq_true, eq_self, opNe_int, opEq_int, opLt, opLe, opGt, opGe, opCmp, opSub, opNeg, opAdd_int, ixD, atI_0, atI_1, atI_2, bTuple, bList, opIsN, opNotN, tyN, isTy, String.reduceBEq, Bool.true_or, Bool.and_false, Bool.or_false, Bool.false_or, Bool.true_and, Bool.false_and, Bool.and_true, Bool.not_true, Bool.not_false, bIs, forL, stepS, Sl.va.injEq, decide_eq_true_eq, Bool.true_and]
      rw [cmpT_map (fun d => .bl (isW (-9) 9 d)) (by omega) (fun d hd => ⟨_, rfl, by simp only [E_is_row_0, sSeq, sSkip, sBreak, sCont, sSet, sDrop, sRet, sRetN, sIf, iteS, sPar, setAll, sAsg, Tg.bind, gotE, sNew, sApp, appL, ownD, sSeal, sealE, sVar, sC, sCons, sNil, sOp2, sOp1, sCall, sCb, sTup, mkT, sLst, mkL1, sLstF, capL, sTst, truD, sAnd, sOr, iteB, kB, sNot, sIfE, iteE, sAndV, andV, sOrV, orV, sNotV, notD, sIs, sFor, sWhile, iSeqS, itemsD, iRange, iZip, zipD, zip2D, iEnum, enumD, sComp, sVal, sCatF, catL, sListF, listL, sRef, sChain, chV, sSlice, sPart, sNoPart, intO, slD, sOwnIx, sOwnLen, sOwnPut, sTry, sPut, putD, pure_bindM, bad_bindM, exc_bindM, pureD, runD, startE, endD, fuelI, List.map_cons, List.map_nil, List.length_cons, List.length_nil, List.length_append, List.replicate, List.cons_append, List.nil_append, List.append_nil, List.set_cons_zero, List.set_cons_succ, List.getElem?_cons_zero, List.getElem?_cons_succ, wipeE, List.foldr, Nat.reduceAdd, Nat.reduceSub, Nat.reduceLeDiff, Nat.zero_add, Nat.add_zero, Nat.reduceLT, if_true, if_false, ite_true, ite_false, reduceIte, Bool.false_eq_true, eq_self, opNe_int, opEq_int, opLt, opLe, opGt, opGe, opCmp, opSub, opNeg, opAdd_int, ixD, atI_0, atI_1, atI_2, bTuple, bList, opIsN, opNotN, tyN, isTy, String.reduceBEq, Bool.true_or, Bool.and_false, Bool.or_false, Bool.false_or, Bool.true_and, Bool.false_and, Bool.and_true, Bool.not_true, Bool.not_false, bIs, forL, stepS, Sl.va.injEq, decide_eq_true_eq, e_is_within (plDs_mem h hd)]⟩)]
      simp only [sSeq, sSkip, sBreak, sCont, sSet, sDrop, sRet, sRetN, sIf, iteS, sPar, setAll, sAsg, Tg.bind, gotE, sNew, sApp, appL, ownD, sSeal, sealE, sVar, sC, sCons, sNil, sOp2, sOp1, sCall, sCb, sTup, mkT, sLst, mkL1, sLstF, capL, sTst, truD, sAnd, sOr, iteB, kB, sNot, sIfE, iteE, sAndV, andV, sOrV, orV, sNotV, notD, sIs, sFor, sWhile, iSeqS, itemsD, iRange, iZip, zipD, zip2D, iEnum, enumD, sComp, sVal, sCatF, catL, sListF, listL, sRef, sChain, chV, sSlice, sPart, sNoPart, intO, slD, sOwnIx, sOwnLen, sOwnPut, sTry, sPut, putD, pure_bindM, bad_bindM, exc_bindM, pureD, runD, startE, endD, fuelI, List.map_cons, List.map_nil, List.length_cons, List.length_nil, List.length_append, List.replicate, List.cons_append, List.nil_append, List.append_nil, List.set_cons_zero, List.set_cons_succ, List.getElem?_cons_zero, List.getElem?_cons_succ, wipeE, List.foldr, Nat.reduceAdd, Nat.reduceSub, Nat.reduceLeDiff, Nat.zero_add, Nat.add_zero, Nat.reduceLT, if_true, if_false, ite_true, ite_false, reduceIte, Bool.false_eq_true, eq_self, opNe_int, opEq_int, opLt, opLe, opGt, opGe, opCmp, opSub, opNeg, opAdd_int, ixD, atI_0, atI_1, atI_2, bTuple, bList, opIsN, opNotN, tyN, isTy, String.reduceBEq, Bool.true_or, Bool.and_false, Bool.or_false, Bool.false_or, Bool.true_and, Bool.false_and, Bool.and_true, Bool.not_true, Bool.not_false, bIs, forL, stepS, Sl.va.injEq, decide_eq_true_eq, bAll_map]
  | ref k => exact absurd h Bool.false_ne_true
  | adr k => exact absurd h Bool.false_ne_true
  | _ => rfl
end Dt

set_option maxHeartbeats 4000000
namespace Dt
open PySem PySem.Spec PyProof.Rows L2
theorem len_ne (n m : Nat) : (((n : Nat) : Int) == ((m : Nat) : Int)) = (n == m) := len_int n m
theorem e_is_step_value {d : D} (h : plD d = true) : m_is_step_value [d] = M.pure (.bl (isStep d)) := by
  cases d with
  | tup ds =>
    rcases ds with _ | ⟨b, _ | ⟨t, _ | ⟨c, ds⟩⟩⟩
    · rfl
    · rfl
    · simp only [plD, plDs, Bool.and_true, Bool.and_eq_true] at h
      cases hb : isW 1 9 b with
      | false =>
        simp only [m_is_step_value, F_is_step_value, sSeq, sSkip, sBreak, sCont, sSet, sDrop, sRet, sRetN, sIf, iteS, sPar, setAll, sAsg, Tg.bind, gotE, sNew, sApp, appL, ownD, sSeal, sealE, sVar, sC, sCons, sNil, sOp2, sOp1, sCall, sCb, sTup, mkT, sLst, mkL1, sLstF, capL, sTst, truD, sAnd, sOr, iteB, kB, sNot, sIfE, iteE, sAndV, andV, sOrV, orV, sNotV, notD, sIs, sFor, sWhile, iSeqS, itemsD, iRange, iZip, zipD, zip2D, iEnum, enumD, sComp, sVal, sCatF, catL, sListF, listL, sRef, sChain, chV, sSlice, sPart, sNoPart, intO, slD, sOwnIx, sOwnLen, sOwnPut, sTry, sPut, putD, pure_bindM, bad_bindM, exc_bindM, pureD, runD, startE, endD, fuelI, List.map_cons, List.map_nil, List.length_cons, List.length_nil, List.length_append, List.replicate, List.cons_append, List.nil_append, List.append_nil, List.set_cons_zero, List.set_cons_succ, List.getElem?_cons_zero, List.getElem?_cons_succ, wipeE, List.foldr, Nat.reduceAdd, Nat.reduceSub, Nat.reduceLeDiff, Nat.zero_add, Nat.add_zero, Nat.reduceLT, if_true, if_false, ite_true, ite_false, reduceIte, Bool.false_eq_true, eq_self, opNe_int, opEq_int, opLt, opLe, opGt, opGe, opCmp, opSub, opNeg, opAdd_int, ixD, atI_0, atI_1, atI_2, bTuple, bList, opIsN, opNotN, tyN, isTy, String.reduceBEq, Bool.true_or, Bool.and_false, Bool.or_false, Bool.false_or, Bool.true_and, Bool.false_and, Bool.and_true, Bool.not_true, Bool.not_false, bIs, forL, stepS, Sl.va.injEq, decide_eq_true_eq, bLen, e_is_within h.1, hb, isStep, Int.reduceBEq, Int.cast_ofNat_Int]
        cases t <;> simp only [hb, Bool.false_and]
      | true =>
        cases t with
        | tup rows =>
          have h2 := h.2
          simp only [plD] at h2
          by_cases h1 : 1 ≤ rows.length
          · by_cases h3 : rows.length ≤ 3
            · have i1 : (1 : Int) ≤ (rows.length : Int) := by omega
              have i3 : (rows.length : Int) ≤ 3 := by omega
              simp only [m_is_step_value, F_is_step_value, sSeq, sSkip, sBreak, sCont, sSet, sDrop, sRet, sRetN, sIf, iteS, sPar, setAll, sAsg, Tg.bind, gotE, sNew, sApp, appL, ownD, sSeal, sealE, sVar, sC, sCons, sNil, sOp2, sOp1, sCall, sCb, sTup, mkT, sLst, mkL1, sLstF, capL, sTst, truD, sAnd, sOr, iteB, kB, sNot, sIfE, iteE, sAndV, andV, sOrV, orV, sNotV, notD, sIs, sFor, sWhile, iSeqS, itemsD, iRange, iZip, zipD, zip2D, iEnum, enumD, sComp, sVal, sCatF, catL, sListF, listL, sRef, sChain, chV, sSlice, sPart, sNoPart, intO, slD, sOwnIx, sOwnLen, sOwnPut, sTry, sPut, putD, pure_bindM, bad_bindM, exc_bindM, pureD, runD, startE, endD, fuelI, List.map_cons, List.map_nil, List.length_cons, List.length_nil, List.length_append, List.replicate, List.cons_append, List.nil_append, List.append_nil, List.set_cons_zero, List.set_cons_succ, List.getElem?_cons_zero, List.getElem?_cons_succ, wipeE, List.foldr, Nat.reduceAdd, Nat.reduceSub, Nat.reduceLeDiff, Nat.zero_add, Nat.add_zero, Nat.reduceLT, if_true, if_false, ite_true, ite_false, reduceIte, Bool.false_eq_true, eq_self, opNe_int, opEq_int, opLt, opLe, opGt, opGe, opCmp, opSub, opNeg, opAdd_int, ixD, atI_0, atI_1, atI_2, bTuple, bList, opIsN, opNotN, tyN, isTy, String.reduceBEq, Bool.true_or, Bool.and_false, Bool.or_false, Bool.false_or, Bool.true_and, Bool.false_and, Bool.and_true, Bool.not_true, Bool.not_false, bIs, forL, stepS, Sl.va.injEq, decide_eq_true_eq, bLen, e_is_within h.1, hb, isStep, Int.reduceBEq, Int.cast_ofNat_Int, h1, h3, i1, i3, decide_true]
              rw [cmpT_map (fun d => .bl (isRow rows.length d)) (by omega) (fun d hd => ⟨_, rfl, by simp only [E_is_step_value_0, sSeq, sSkip, sBreak, sCont, sSet, sDrop, sRet, sRetN, sIf, iteS, sPar, setAll, sAsg, Tg.bind, gotE, sNew, sApp, appL, ownD, sSeal, sealE, sVar, sC, sCons, sNil, sOp2, sOp1, sCall, sCb, sTup, mkT, sLst, mkL1, sLstF, capL, sTst, truD, sAnd, sOr, iteB, kB, sNot, sIfE, iteE, sAndV, andV, sOrV, orV, sNotV, notD, sIs, sFor, sWhile, iSeqS, itemsD, iRange, iZip, zipD, zip2D, iEnum, enumD, sComp, sVal, sCatF, catL, sListF, listL, sRef, sChain, chV, sSlice, sPart, sNoPart, intO, slD, sOwnIx, sOwnLen, sOwnPut, sTry, sPut, putD, pure_bindM, bad_bindM, exc_bindM, pureD, runD, startE, endD, fuelI, List.map_cons, List.map_nil, List.length_cons, List.length_nil, List.length_append, List.replicate, List.cons_append, List.nil_append, List.append_nil, List.set_cons_zero, List.set_cons_succ, List.getElem?_cons_zero, List.getElem?_cons_succ, wipeE, List.foldr, Nat.reduceAdd, Nat.reduceSub, Nat.reduceLeDiff, Nat.zero_add, Nat.add_zero, Nat.reduceLT, if_true, if_false, ite_true, ite_false, reduceIte, Bool.false_eq_true, eq_self, opNe_int, opEq_int, opLt, opLe, opGt, opGe, opCmp, opSub, opNeg, opAdd_int, ixD, atI_0, atI_1, atI_2, bTuple, bList, opIsN, opNotN, tyN, isTy, String.reduceBEq, Bool.true_or, Bool.and_false, Bool.or_false, Bool.false_or, Bool.true_and, Bool.false_and, Bool.and_true, Bool.not_true, Bool.not_false, bIs, forL, stepS, Sl.va.injEq, decide_eq_true_eq, bLen, e_is_row (plDs_mem h2 hd) (by omega : rows.length ≤ 1000000)]⟩)]
              simp only [sSeq, sSkip, sBreak, sCont, sSet, sDrop, sRet, sRetN, sIf, iteS, sPar, setAll, sAsg, Tg.bind, gotE, sNew, sApp, appL, ownD, sSeal, sealE, sVar, sC, sCons, sNil, sOp2, sOp1, sCall, sCb, sTup, mkT, sLst, mkL1, sLstF, capL, sTst, truD, sAnd, sOr, iteB, kB, sNot, sIfE, iteE, sAndV, andV, sOrV, orV, sNotV, notD, sIs, sFor, sWhile, iSeqS, itemsD, iRange, iZip, zipD, zip2D, iEnum, enumD, sComp, sVal, sCatF, catL, sListF, listL, sRef, sChain, chV, sSlice, sPart, sNoPart, intO, slD, sOwnIx, sOwnLen, sOwnPut, sTry, sPut, putD, pure_bindM, bad_bindM, exc_bindM, pureD, runD, startE, endD, fuelI, List.map_cons, List.map_nil, List.length_cons, List.length_nil, List.length_append, List.replicate, List.cons_append, List.nil_append, List.append_nil, List.set_cons_zero, List.set_cons_succ, List.getElem?_cons_zero, List.getElem?_cons_succ, wipeE, List.foldr, Nat.reduceAdd, Nat.reduceSub, Nat.reduceLeDiff, Nat.zero_add, Nat.add_zero, Nat.reduceLT, if_true, if_false, ite_true, ite_false, reduceIte, Bool.false_eq_true, eq_self, opNe_int, opEq_int, opLt, opLe, opGt, opGe, opCmp, opSub, opNeg, opAdd_int, ixD, atI_0, atI_1, atI_2, bTuple, bList, opIsN, opNotN, tyN, isTy, String.reduceBEq, Bool.true_or, Bool.and_false, Bool.or_false, Bool.false_or, Bool.true_and, Bool.false_and, Bool.and_true, Bool.not_true, Bool.not_false, bIs, forL, stepS, Sl.va.injEq, decide_eq_true_eq, bAll_map]
            · have i1 : (1 : Int) ≤ (rows.length : Int) := by omega
              have i3 : ¬ (rows.length : Int) ≤ 3 := by omega
              simp only [m_is_step_value, F_is_step_value, sSeq, sSkip, sBreak, sCont, sSet, sDrop, sRet, sRetN, sIf, iteS, sPar, setAll, sAsg, Tg.bind, gotE, sNew, sApp, appL, ownD, sSeal, sealE, sVar, sC, sCons, sNil, sOp2, sOp1, sCall, sCb, sTup, mkT, sLst, mkL1, sLstF, capL, sTst, truD, sAnd, sOr, iteB, kB, sNot, sIfE, iteE, sAndV, andV, sOrV, orV, sNotV, notD, sIs, sFor, sWhile, iSeqS, itemsD, iRange, iZip, zipD, zip2D, iEnum, enumD, sComp, sVal, sCatF, catL, sListF, listL, sRef, sChain, chV, sSlice, sPart, sNoPart, intO, slD, sOwnIx, sOwnLen, sOwnPut, sTry, sPut, putD, pure_bindM, bad_bindM, exc_bindM, pureD, runD, startE, endD, fuelI, List.map_cons, List.map_nil, List.length_cons, List.length_nil, List.length_append, List.replicate, List.cons_append, List.nil_append, List.append_nil, List.set_cons_zero, List.set_cons_succ, List.getElem?_cons_zero, List.getElem?_cons_succ, wipeE, List.foldr, Nat.reduceAdd, Nat.reduceSub, Nat.reduceLeDiff, Nat.zero_add, Nat.add_zero, Nat.reduceLT, if_true, if_false, ite_true, ite_false, reduceIte, Bool.false_eq_true, eq_self, opNe_int, opEq_int, opLt, opLe, opGt, opGe, opCmp, opSub, opNeg, opAdd_int, ixD, atI_0, atI_1, atI_2, bTuple, bList, opIsN, opNotN, tyN, isTy, String.reduceBEq, Bool.true_or, Bool.and_false, Bool.or_false, Bool.false_or, Bool.true_and, Bool.false_and, Bool.and_true, Bool.not_true, Bool.not_false, bIs, forL, stepS, Sl.va.injEq, decide_eq_true_eq, bLen, e_is_within h.1, hb, isStep, Int.reduceBEq, Int.cast_ofNat_Int, h1, h3, i1, i3, decide_true, decide_false]
          · have i1 : ¬ (1 : Int) ≤ (rows.length : Int) := by omega
            simp only [m_is_step_value, F_is_step_value, sSeq, sSkip, sBreak, sCont, sSet, sDrop, sRet, sRetN, sIf, iteS, sPar, setAll, sAsg, Tg.bind, gotE, sNew, sApp, appL, ownD, sSeal, sealE, sVar, sC, sCons, sNil, sOp2, sOp1, sCall, sCb, sTup, mkT, sLst, mkL1, sLstF, capL, sTst, truD, sAnd, sOr, iteB, kB, sNot, sIfE, iteE, sAndV, andV, sOrV, orV, sNotV, notD, sIs, sFor, sWhile, iSeqS, itemsD, iRange, iZip, zipD, zip2D, iEnum, enumD, sComp, sVal, sCatF, catL, sListF, listL, sRef, sChain, chV, sSlice, sPart, sNoPart, intO, slD, sOwnIx, sOwnLen, sOwnPut, sTry, sPut, putD, pure_bindM, bad_bindM, exc_bindM, pureD, runD, startE, endD, fuelI, List.map_cons, List.map_nil, List.length_cons, List.length_nil, List.length_append, List.replicate, List.cons_append, List.nil_append, List.append_nil, List.set_cons_zero, List.set_cons_succ, List.getElem?_cons_zero, List.getElem?_cons_succ, wipeE, List.foldr, Nat.reduceAdd, Nat.reduceSub, Nat.reduceLeDiff, Nat.zero_add, Nat.add_zero, Nat.reduceLT, if_true, if_false, ite_true, ite_false, reduceIte, Bool.false_eq_true, eq_self, opNe_int, opEq_int, opLt, opLe, opGt, opGe, opCmp, opSub, opNeg, opAdd_int, ixD, atI_0, atI_1, atI_2, bTuple, bList, opIsN, opNotN, tyN, isTy, String.reduceBEq, Bool.true_or, Bool.and_false, Bool.or_false, Bool.false_or, Bool.true_and, Bool.false_and, Bool.and_true, Bool.not_true, Bool.not_false, bIs, forL, stepS, Sl.va.injEq, decide_eq_true_eq, bLen, e_is_within h.1, hb, isStep, Int.reduceBEq, Int.cast_ofNat_Int, h1, i1, decide_true, decide_false]
        | ref k => exact absurd h.2 Bool.false_ne_true
        | adr k => exact absurd h.2 Bool.false_ne_true
        | _ => simp only [m_is_step_value, F_is_step_value, sSeq, sSkip, sBreak, sCont, sSet, sDrop, sRet, sRetN, sIf, iteS, sPar, setAll, sAsg, Tg.bind, gotE, sNew, sApp, appL, ownD, sSeal, sealE, sVar, sC, sCons, sNil, sOp2, sOp1, sCall, sCb, sTup, mkT, sLst, mkL1, sLstF, capL, sTst, truD, sAnd, sOr, iteB, kB, sNot, sIfE, iteE, sAndV, andV, sOrV, orV, sNotV, notD, sIs, sFor, sWhile, iSeqS, itemsD, iRange, iZip, zipD, zip2D, iEnum, enumD, sComp, sVal, sCatF, catL, sListF, listL, sRef, sChain, chV, sSlice, sPart, sNoPart, intO, slD, sOwnIx, sOwnLen, sOwnPut, sTry, sPut, putD, pure_bindM, bad_bindM, exc_bindM, pureD, runD, startE, endD, fuelI, List.map_cons, List.map_nil, List.length_cons, List.length_nil, List.length_append, List.replicate, List.cons_append, List.nil_append, List.append_nil, List.set_cons_zero, List.set_cons_succ, List.getElem?_cons_zero, List.getElem?_cons_succ, wipeE, List.foldr, Nat.reduceAdd, Nat.reduceSub, Nat.reduceLeDiff, Nat.zero_add, Nat.add_zero, Nat.reduceLT, if_true, if_false, ite_true, ite_false, reduceIte, Bool.false_eq_true, eq_self, opNe_int, opEq_int, opLt, opLe, opGt, opGe, opCmp, opSub, opNeg, opAdd_int, ixD, atI_0, atI_1, atI_2, bTuple, bList, opIsN, opNotN, tyN, isTy, String.reduceBEq, Bool.true_or, Bool.and_false, Bool.or_false, Bool.false_or, Bool.true_and, Bool.false_and, Bool.and_true, Bool.not_true, Bool.not_false, bIs, forL, stepS, Sl.va.injEq, decide_eq_true_eq, bLen, e_is_within h.1, hb, isStep, Int.reduceBEq, Int.cast_ofNat_Int]
    · have i1 : ((ds.length : Int) + 1 + 1 + 1 == 2) = false := by
        simp only [beq_eq_false_iff_ne]
        omega
      simp only [m_is_step_value, F_is_step_value, sSeq, sSkip, sBreak, sCont, sSet, sDrop, sRet, sRetN, sIf, iteS, sPar, setAll, sAsg, Tg.bind, gotE, sNew, sApp, appL, ownD, sSeal, sealE, sVar, sC, sCons, sNil, sOp2, sOp1, sCall, sCb, sTup, mkT, sLst, mkL1, sLstF, capL, sTst, truD, sAnd, sOr, iteB, kB, sNot, sIfE, iteE, sAndV, andV, sOrV, orV, sNotV, notD, sIs, sFor, sWhile, iSeqS, itemsD, iRange, iZip, zipD, zip2D, iEnum, enumD, sComp, sVal, sCatF, catL, sListF, listL, sRef, sChain, chV, sSlice, sPart, sNoPart, intO, slD, sOwnIx, sOwnLen, sOwnPut, sTry, sPut, putD, pure_bindM, bad_bindM, exc_bindM, pureD, runD, startE, endD, fuelI, List.map_cons, List.map_nil, List.length_cons, List.length_nil, List.length_append, List.replicate, List.cons_append, List.nil_append, List.append_nil, List.set_cons_zero, List.set_cons_succ, List.getElem?_cons_zero, List.getElem?_cons_succ, wipeE, List.foldr, Nat.reduceAdd, Nat.reduceSub, Nat.reduceLeDiff, Nat.zero_add, Nat.add_zero, Nat.reduceLT, if_true, if_false, ite_true, ite_false, reduceIte, Bool.false_eq_true, eq_self, opNe_int, opEq_int, opLt, opLe, opGt, opGe, opCmp, opSub, opNeg, opAdd_int, ixD, atI_0, atI_1, atI_2, bTuple, bList, opIsN, opNotN, tyN, isTy, String.reduceBEq, Bool.true_or, Bool.and_false, Bool.or_false, Bool.false_or, Bool.true_and, Bool.false_and, Bool.and_true, Bool.not_true, Bool.not_false, bIs, forL, stepS, Sl.va.injEq, decide_eq_true_eq, bLen, isStep, Int.natCast_add, Int.cast_ofNat_Int, i1]
  | ref k => exact absurd h Bool.false_ne_true
  | adr k => exact absurd h Bool.false_ne_true
  | _ => rfl
theorem e_is_fraction {d : D} (h : plD d = true) : m_is_fraction [d] = M.pure (.bl (isFr d)) := by
  cases d with
  | tup ds =>
    rcases ds with _ | ⟨a, _ | ⟨b, _ | ⟨c, ds⟩⟩⟩
    · rfl
    · simp only [m_is_fraction, F_is_fraction, sSeq, sSkip, sBreak, sCont, sSet, sDrop, sRet, sRetN, sIf, iteS, sPar, setAll, sAsg, Tg.bind, gotE, sNew, sApp, appL, ownD, sSeal, sealE, sVar, sC, sCons, sNil, sOp2, sOp1, sCall, sCb, sTup, mkT, sLst, mkL1, sLstF, capL, sTst, truD, sAnd, sOr, iteB, kB, sNot, sIfE, iteE, sAndV, andV, sOrV, orV, sNotV, notD, sIs, sFor, sWhile, iSeqS, itemsD, iRange, iZip, zipD, zip2D, iEnum, enumD, sComp, sVal, sCatF, catL, sListF, listL, sRef, sChain, chV, sSlice, sPart, sNoPart, intO, slD, sOwnIx, sOwnLen, sOwnPut, sTry, sPut, putD, pure_bindM, bad_bindM, exc_bindM, pureD, runD, startE, endD, fuelI, List.map_cons, List.map_nil, List.length_cons, List.length_nil, List.length_append, List.replicate, List.cons_append, List.nil_append, List.append_nil, List.set_cons_zero, List.set_cons_succ, List.getElem?_cons_zero, List.getElem?_cons_succ, wipeE, List.foldr, Nat.reduceAdd, Nat.reduceSub, Nat.reduceLeDiff, Nat.zero_add, Nat.add_zero, Nat.reduceLT, if_true, if_false, ite_true, ite_false, reduceIte, Bool.false_eq_true, eq_self, opNe_int, opEq_int, opLt, opLe, opGt, opGe, opCmp, opSub, opNeg, opAdd_int, ixD, atI_0, atI_1, atI_2, bTuple, bList, opIsN, opNotN, tyN, isTy, String.reduceBEq, Bool.true_or, Bool.and_false, Bool.or_false, Bool.false_or, Bool.true_and, Bool.false_and, Bool.and_true, Bool.not_true, Bool.not_false, bIs, forL, stepS, Sl.va.injEq, decide_eq_true_eq, bLen, Int.reduceBEq, Int.cast_ofNat_Int, isFr]
    · simp only [plD, plDs, Bool.and_true, Bool.and_eq_true] at h
      have ea := e_is_within h.1 (-1000000000000000000000000000000) 1000000000000000000000000000000
      have eb := e_is_within h.2 1 100
      cases a with
      | int a =>
        cases ha : isW (-1000000000000000000000000000000) 1000000000000000000000000000000 (.int a) with
        | false =>
          rw [ha] at ea
          have : isFr (.tup [.int a, b]) = false := by
            cases b <;> simp only [isFr]
            rw [show (decide (-(1000000000000000000000000000000 : Int) ≤ a) && decide (a ≤ 1000000000000000000000000000000)) = false from ha, Bool.false_and]
          simp only [m_is_fraction, F_is_fraction, sSeq, sSkip, sBreak, sCont, sSet, sDrop, sRet, sRetN, sIf, iteS, sPar, setAll, sAsg, Tg.bind, gotE, sNew, sApp, appL, ownD, sSeal, sealE, sVar, sC, sCons, sNil, sOp2, sOp1, sCall, sCb, sTup, mkT, sLst, mkL1, sLstF, capL, sTst, truD, sAnd, sOr, iteB, kB, sNot, sIfE, iteE, sAndV, andV, sOrV, orV, sNotV, notD, sIs, sFor, sWhile, iSeqS, itemsD, iRange, iZip, zipD, zip2D, iEnum, enumD, sComp, sVal, sCatF, catL, sListF, listL, sRef, sChain, chV, sSlice, sPart, sNoPart, intO, slD, sOwnIx, sOwnLen, sOwnPut, sTry, sPut, putD, pure_bindM, bad_bindM, exc_bindM, pureD, runD, startE, endD, fuelI, List.map_cons, List.map_nil, List.length_cons, List.length_nil, List.length_append, List.replicate, List.cons_append, List.nil_append, List.append_nil, List.set_cons_zero, List.set_cons_succ, List.getElem?_cons_zero, List.getElem?_cons_succ, wipeE, List.foldr, Nat.reduceAdd, Nat.reduceSub, Nat.reduceLeDiff, Nat.zero_add, Nat.add_zero, Nat.reduceLT, if_true, if_false, ite_true, ite_false, reduceIte, Bool.false_eq_true, eq_self, opNe_int, opEq_int, opLt, opLe, opGt, opGe, opCmp, opSub, opNeg, opAdd_int, ixD, atI_0, atI_1, atI_2, bTuple, bList, opIsN, opNotN, tyN, isTy, String.reduceBEq, Bool.true_or, Bool.and_false, Bool.or_false, Bool.false_or, Bool.true_and, Bool.false_and, Bool.and_true, Bool.not_true, Bool.not_false, bIs, forL, stepS, Sl.va.injEq, decide_eq_true_eq, bLen, this, Int.reduceBEq, Int.cast_ofNat_Int, ea, Int.reduceNeg]
        | true =>
          rw [ha] at ea
          cases b with
          | int b =>
            have : isFr (.tup [.int a, .int b]) = (isW 1 100 (.int b) && (Int.gcd a b == 1)) := by
              simp only [isFr]
              rw [show (decide (-(1000000000000000000000000000000 : Int) ≤ a) && decide (a ≤ 1000000000000000000000000000000)) = true from ha, Bool.true_and]
              rfl
            rw [this]
            cases hb : isW 1 100 (.int b) with
            | false =>
              rw [hb] at eb
              simp only [m_is_fraction, F_is_fraction, sSeq, sSkip, sBreak, sCont, sSet, sDrop, sRet, sRetN, sIf, iteS, sPar, setAll, sAsg, Tg.bind, gotE, sNew, sApp, appL, ownD, sSeal, sealE, sVar, sC, sCons, sNil, sOp2, sOp1, sCall, sCb, sTup, mkT, sLst, mkL1, sLstF, capL, sTst, truD, sAnd, sOr, iteB, kB, sNot, sIfE, iteE, sAndV, andV, sOrV, orV, sNotV, notD, sIs, sFor, sWhile, iSeqS, itemsD, iRange, iZip, zipD, zip2D, iEnum, enumD, sComp, sVal, sCatF, catL, sListF, listL, sRef, sChain, chV, sSlice, sPart, sNoPart, intO, slD, sOwnIx, sOwnLen, sOwnPut, sTry, sPut, putD, pure_bindM, bad_bindM, exc_bindM, pureD, runD, startE, endD, fuelI, List.map_cons, List.map_nil, List.length_cons, List.length_nil, List.length_append, List.replicate, List.cons_append, List.nil_append, List.append_nil, List.set_cons_zero, List.set_cons_succ, List.getElem?_cons_zero, List.getElem?_cons_succ, wipeE, List.foldr, Nat.reduceAdd, Nat.reduceSub, Nat.reduceLeDiff, Nat.zero_add, Nat.add_zero, Nat.reduceLT, if_true, if_false, ite_true, ite_false, reduceIte, Bool.false_eq_true, eq_self, opNe_int, opEq_int, opLt, opLe, opGt, opGe, opCmp, opSub, opNeg, opAdd_int, ixD, atI_0, atI_1, atI_2, bTuple, bList, opIsN, opNotN, tyN, isTy, String.reduceBEq, Bool.true_or, Bool.and_false, Bool.or_false, Bool.false_or, Bool.true_and, Bool.false_and, Bool.and_true, Bool.not_true, Bool.not_false, bIs, forL, stepS, Sl.va.injEq, decide_eq_true_eq, bLen, Int.reduceBEq, Int.cast_ofNat_Int, ea, Int.reduceNeg, eb]
            | true =>
              rw [hb] at eb
              have : ((Int.gcd a b : Int) == 1) = (Int.gcd a b == 1) := len_int _ 1
              simp only [m_is_fraction, F_is_fraction, sSeq, sSkip, sBreak, sCont, sSet, sDrop, sRet, sRetN, sIf, iteS, sPar, setAll, sAsg, Tg.bind, gotE, sNew, sApp, appL, ownD, sSeal, sealE, sVar, sC, sCons, sNil, sOp2, sOp1, sCall, sCb, sTup, mkT, sLst, mkL1, sLstF, capL, sTst, truD, sAnd, sOr, iteB, kB, sNot, sIfE, iteE, sAndV, andV, sOrV, orV, sNotV, notD, sIs, sFor, sWhile, iSeqS, itemsD, iRange, iZip, zipD, zip2D, iEnum, enumD, sComp, sVal, sCatF, catL, sListF, listL, sRef, sChain, chV, sSlice, sPart, sNoPart, intO, slD, sOwnIx, sOwnLen, sOwnPut, sTry, sPut, putD, pure_bindM, bad_bindM, exc_bindM, pureD, runD, startE, endD, fuelI, List.map_cons, List.map_nil, List.length_cons, List.length_nil, List.length_append, List.replicate, List.cons_append, List.nil_append, List.append_nil, List.set_cons_zero, List.set_cons_succ, List.getElem?_cons_zero, List.getElem?_cons_succ, wipeE, List.foldr, Nat.reduceAdd, Nat.reduceSub, Nat.reduceLeDiff, Nat.zero_add, Nat.add_zero, Nat.reduceLT, if_true, if_false, ite_true, ite_false, reduceIte, Bool.false_eq_true, eq_self, opNe_int, opEq_int, opLt, opLe, opGt, opGe, opCmp, opSub, opNeg, opAdd_int, ixD, atI_0, atI_1, atI_2, bTuple, bList, opIsN, opNotN, tyN, isTy, String.reduceBEq, Bool.true_or, Bool.and_false, Bool.or_false, Bool.false_or, Bool.true_and, Bool.false_and, Bool.and_true, Bool.not_true, Bool.not_false, bIs, forL, stepS, Sl.va.injEq, decide_eq_true_eq, bLen, Int.reduceBEq, Int.cast_ofNat_Int, ea, Int.reduceNeg, eb, e_divisor, this]
          | ref k => exact absurd h.2 Bool.false_ne_true
          | adr k => exact absurd h.2 Bool.false_ne_true
          | _ => simp only [isW] at eb; simp only [m_is_fraction, F_is_fraction, sSeq, sSkip, sBreak, sCont, sSet, sDrop, sRet, sRetN, sIf, iteS, sPar, setAll, sAsg, Tg.bind, gotE, sNew, sApp, appL, ownD, sSeal, sealE, sVar, sC, sCons, sNil, sOp2, sOp1, sCall, sCb, sTup, mkT, sLst, mkL1, sLstF, capL, sTst, truD, sAnd, sOr, iteB, kB, sNot, sIfE, iteE, sAndV, andV, sOrV, orV, sNotV, notD, sIs, sFor, sWhile, iSeqS, itemsD, iRange, iZip, zipD, zip2D, iEnum, enumD, sComp, sVal, sCatF, catL, sListF, listL, sRef, sChain, chV, sSlice, sPart, sNoPart, intO, slD, sOwnIx, sOwnLen, sOwnPut, sTry, sPut, putD, pure_bindM, bad_bindM, exc_bindM, pureD, runD, startE, endD, fuelI, List.map_cons, List.map_nil, List.length_cons, List.length_nil, List.length_append, List.replicate, List.cons_append, List.nil_append, List.append_nil, List.set_cons_zero, List.set_cons_succ, List.getElem?_cons_zero, List.getElem?_cons_succ, wipeE, List.foldr, Nat.reduceAdd, Nat.reduceSub, Nat.reduceLeDiff, Nat.zero_add, Nat.add_zero, Nat.reduceLT, if_true, if_false, ite_true, ite_false, reduceIte, Bool.false_eq_true, eq_self, opNe_int, opEq_int, opLt, opLe, opGt, opGe, opCmp, opSub, opNeg, opAdd_int, ixD, atI_0, atI_1, atI_2, bTuple, bList, opIsN, opNotN, tyN, isTy, String.reduceBEq, Bool.true_or, Bool.and_false, Bool.or_false, Bool.false_or, Bool.true_and, Bool.false_and, Bool.and_true, Bool.not_true, Bool.not_false, bIs, forL, stepS, Sl.va.injEq, decide_eq_true_eq, bLen, Int.reduceBEq, Int.cast_ofNat_Int, ea, Int.reduceNeg, eb, isFr]
      | ref k => exact absurd h.1 Bool.false_ne_true
      | adr k => exact absurd h.1 Bool.false_ne_true
      | _ => simp only [isW] at ea; simp only [m_is_fraction, F_is_fraction, sSeq, sSkip, sBreak, sCont, sSet, sDrop, sRet, sRetN, sIf, iteS, sPar, setAll, sAsg, Tg.bind, gotE, sNew, sApp, appL, ownD, sSeal, sealE, sVar, sC, sCons, sNil, sOp2, sOp1, sCall, sCb, sTup, mkT, sLst, mkL1, sLstF, capL, sTst, truD, sAnd, sOr, iteB, kB, sNot, sIfE, iteE, sAndV, andV, sOrV, orV, sNotV, notD, sIs, sFor, sWhile, iSeqS, itemsD, iRange, iZip, zipD, zip2D, iEnum, enumD, sComp, sVal, sCatF, catL, sListF, listL, sRef, sChain, chV, sSlice, sPart, sNoPart, intO, slD, sOwnIx, sOwnLen, sOwnPut, sTry, sPut, putD, pure_bindM, bad_bindM, exc_bindM, pureD, runD, startE, endD, fuelI, List.map_cons, List.map_nil, List.length_cons, List.length_nil, List.length_append, List.replicate, List.cons_append, List.nil_append, List.append_nil, List.set_cons_zero, List.set_cons_succ, List.getElem?_cons_zero, List.getElem?_cons_succ, wipeE, List.foldr, Nat.reduceAdd, Nat.reduceSub, Nat.reduceLeDiff, Nat.zero_add, Nat.add_zero, Nat.reduceLT, if_true, if_false, ite_true, ite_false, reduceIte, Bool.false_eq_true, eq_self, opNe_int, opEq_int, opLt, opLe, opGt, opGe, opCmp, opSub, opNeg, opAdd_int, ixD, atI_0, atI_1, atI_2, bTuple, bList, opIsN, opNotN, tyN, isTy, String.reduceBEq, Bool.true_or, Bool.and_false, Bool.or_false, Bool.false_or, Bool.true_and, Bool.false_and, Bool.and_true, Bool.not_true, Bool.not_false, bIs, forL, stepS, Sl.va.injEq, decide_eq_true_eq, bLen, Int.reduceBEq, Int.cast_ofNat_Int, ea, Int.reduceNeg, isFr]
    · have i1 : ((ds.length : Int) + 1 + 1 + 1 == 2) = false := by
        simp only [beq_eq_false_iff_ne]
        omega
      simp only [m_is_fraction, F_is_fraction, sSeq, sSkip, sBreak, sCont, sSet, sDrop, sRet, sRetN, sIf, iteS, sPar, setAll, sAsg, Tg.bind, gotE, sNew, sApp, appL, ownD, sSeal, sealE, sVar, sC, sCons, sNil, sOp2, sOp1, sCall, sCb, sTup, mkT, sLst, mkL1, sLstF, capL, sTst, truD, sAnd, sOr, iteB, kB, sNot, sIfE, iteE, sAndV, andV, sOrV, orV, sNotV, notD, sIs, sFor, sWhile, iSeqS, itemsD, iRange, iZip, zipD, zip2D, iEnum, enumD, sComp, sVal, sCatF, catL, sListF, listL, sRef, sChain, chV, sSlice, sPart, sNoPart, intO, slD, sOwnIx, sOwnLen, sOwnPut, sTry, sPut, putD, pure_bindM, bad_bindM, exc_bindM, pureD, runD, startE, endD, fuelI, List.map_cons, List.map_nil, List.length_cons, List.length_nil, List.length_append, List.replicate, List.cons_append, List.nil_append, List.append_nil, List.set_cons_zero, List.set_cons_succ, List.getElem?_cons_zero, List.getElem?_cons_succ, wipeE, List.foldr, Nat.reduceAdd, Nat.reduceSub, Nat.reduceLeDiff, Nat.zero_add, Nat.add_zero, Nat.reduceLT, if_true, if_false, ite_true, ite_false, reduceIte, Bool.false_eq_true, eq_self, opNe_int, opEq_int, opLt, opLe, opGt, opGe, opCmp, opSub, opNeg, opAdd_int, ixD, atI_0, atI_1, atI_2, bTuple, bList, opIsN, opNotN, tyN, isTy, String.reduceBEq, Bool.true_or, Bool.and_false, Bool.or_false, Bool.false_or, Bool.true_and, Bool.false_and, Bool.and_true, Bool.not_true, Bool.not_false, bIs, forL, stepS, Sl.va.injEq, decide_eq_true_eq, bLen, isFr, Int.natCast_add, Int.cast_ofNat_Int, i1]
  | ref k => exact absurd h Bool.false_ne_true
  | adr k => exact absurd h Bool.false_ne_true
  | _ => rfl
theorem e_is_stand_value {d : D} (h : plD d = true) {n : Nat} (hn : n ≤ 1000000) : m_is_stand_value [d, .int n] = M.pure (.bl (isStand n d)) := by
  cases d with
  | tup ds =>
    simp only [plD] at h
    simp only [m_is_stand_value, F_is_stand_value, sSeq, sSkip, sBreak, sCont, sSet, sDrop, sRet, sRetN, sIf, iteS, sPar, setAll, sAsg, Tg.bind, gotE, sNew, sApp, appL, ownD, sSeal, sealE, sVar, sC, sCons, sNil, sOp2, sOp1, sCall, sCb, sTup, mkT, sLst, mkL1, sLstF, capL, sTst, truD, sAnd, sOr, iteB, kB, sNot, sIfE, iteE, sAndV, andV, sOrV, orV, sNotV, notD, sIs, sFor, sWhile, iSeqS, itemsD, iRange, iZip, zipD, zip2D, iEnum, enumD, sComp, sVal, sCatF, catL, sListF, listL, sRef, sChain, chV, sSlice, sPart, sNoPart, intO, slD, sOwnIx, sOwnLen, sOwnPut, sTry, sPut, putD, pure_bindM, bad_bindM, exc_bindM, pureD, runD, startE, endD, fuelI, List.map_cons, List.map_nil, List.length_cons, List.length_nil, List.length_append, List.replicate, List.cons_append, List.nil_append, List.append_nil, List.set_cons_zero, List.set_cons_succ, List.getElem?_cons_zero, List.getElem?_cons_succ, wipeE, List.foldr, Nat.reduceAdd, Nat.reduceSub, Nat.reduceLeDiff, Nat.zero_add, Nat.add_zero, Nat.reduceLT, if_true, if_false, ite_true, ite_false, reduceIte, Bool.false_eq_true, eq_self, opNe_int, opEq_int, opLt, opLe, opGt, opGe, opCmp, opSub, opNeg, opAdd_int, ixD, atI_0, atI_1, atI_2, bTuple, bList, opIsN, opNotN, tyN, isTy, String.reduceBEq, Bool.true_or, Bool.and_false, Bool.or_false, Bool.false_or, Bool.true_and, Bool.false_and, Bool.and_true, Bool.not_true, Bool.not_false, bIs, forL, stepS, Sl.va.injEq, decide_eq_true_eq, bLen, len_int, isStand]
    cases hl : ds.length == n with
    | false => rfl
    | true =>
      have hl' : ds.length = n := by simpa using hl
      simp only [sSeq, sSkip, sBreak, sCont, sSet, sDrop, sRet, sRetN, sIf, iteS, sPar, setAll, sAsg, Tg.bind, gotE, sNew, sApp, appL, ownD, sSeal, sealE, sVar, sC, sCons, sNil, sOp2, sOp1, sCall, sCb, sTup, mkT, sLst, mkL1, sLstF, capL, sTst, truD, sAnd, sOr, iteB, kB, sNot, sIfE, iteE, sAndV, andV, sOrV, orV, sNotV, notD, sIs, sFor, sWhile, iSeqS, itemsD, iRange, iZip, zipD, zip2D, iEnum, enumD, sComp, sVal, sCatF, catL, sListF, listL, sRef, sChain, chV, sSlice, sPart, sNoPart, intO, slD, sOwnIx, sOwnLen, sOwnPut, sTry, sPut, putD, pure_bindM, bad_bindM, exc_bindM, pureD, runD, startE, endD, fuelI, List.map_cons, List.map_nil, List.length_cons, List.length_nil, List.length_append, List.replicate, List.cons_append, List.nil_append, List.append_nil, List.set_cons_zero, List.set_cons_succ, List.getElem?_cons_zero, List.getElem?_cons_succ, wipeE, List.foldr, Nat.reduceAdd, Nat.reduceSub, Nat.reduceLeDiff, Nat.zero_add, Nat.add_zero, Nat.reduceLT, if_true, if_false, ite_true, ite_false, reduceIte, Bool.false_eq_true, eq_self, opNe_int, opEq_int, opLt, opLe, opGt, opGe, opCmp, opSub, opNeg, opAdd_int, ixD, atI_0, atI_1, atI_2, bTuple, bList, opIsN, opNotN, tyN, isTy, String.reduceBEq, Bool.true_or, Bool.and_false, Bool.or_false, Bool.false_or, Bool.true_and, Bool.false_and, Bool.and_true, Bool.not_true, Bool.not_false, bIs, forL, stepS, Sl.va.injEq, decide_eq_true_eq]
      rw [cmpT_map (fun d => .bl (isFr d)) (by omega) (fun d hd => ⟨_, rfl, by simp only [E_is_stand_value_0, sSeq, sSkip, sBreak, sCont, sSet, sDrop, sRet, sRetN, sIf, iteS, sPar, setAll, sAsg, Tg.bind, gotE, sNew, sApp, appL, ownD, sSeal, sealE, sVar, sC, sCons, sNil, sOp2, sOp1, sCall, sCb, sTup, mkT, sLst, mkL1, sLstF, capL, sTst, truD, sAnd, sOr, iteB, kB, sNot, sIfE, iteE, sAndV, andV, sOrV, orV, sNotV, notD, sIs, sFor, sWhile, iSeqS, itemsD, iRange, iZip, zipD, zip2D, iEnum, enumD, sComp, sVal, sCatF, catL, sListF, listL, sRef, sChain, chV, sSlice, sPart, sNoPart, intO, slD, sOwnIx, sOwnLen, sOwnPut, sTry, sPut, putD, pure_bindM, bad_bindM, exc_bindM, pureD, runD, startE, endD, fuelI, List.map_cons, List.map_nil, List.length_cons, List.length_nil, List.length_append, List.replicate, List.cons_append, List.nil_append, List.append_nil, List.set_cons_zero, List.set_cons_succ, List.getElem?_cons_zero, List.getElem?_cons_succ, wipeE, List.foldr, Nat.reduceAdd, Nat.reduceSub, Nat.reduceLeDiff, Nat.zero_add, Nat.add_zero, Nat.reduceLT, if_true, if_false, ite_true, ite_false, reduceIte, Bool.false_eq_true, eq_self, opNe_int, opEq_int, opLt, opLe, opGt, opGe, opCmp, opSub, opNeg, opAdd_int, ixD, atI_0, atI_1, atI_2, bTuple, bList, opIsN, opNotN, tyN, isTy, String.reduceBEq, Bool.true_or, Bool.and_false, Bool.or_false, Bool.false_or, Bool.true_and, Bool.false_and, Bool.and_true, Bool.not_true, Bool.not_false, bIs, forL, stepS, Sl.va.injEq, decide_eq_true_eq, e_is_fraction (plDs_mem h hd)]⟩)]
      simp only [sSeq, sSkip, sBreak, sCont, sSet, sDrop, sRet, sRetN, sIf, iteS, sPar, setAll, sAsg, Tg.bind, gotE, sNew, sApp, appL, ownD, sSeal, sealE, sVar, sC, sCons, sNil, sOp2, sOp1, sCall, sCb, sTup, mkT, sLst, mkL1, sLstF, capL, sTst, truD, sAnd, sOr, iteB, kB, sNot, sIfE, iteE, sAndV, andV, sOrV, orV, sNotV, notD, sIs, sFor, sWhile, iSeqS, itemsD, iRange, iZip, zipD, zip2D, iEnum, enumD, sComp, sVal, sCatF, catL, sListF, listL, sRef, sChain, chV, sSlice, sPart, sNoPart, intO, slD, sOwnIx, sOwnLen, sOwnPut, sTry, sPut, putD, pure_bindM, bad_bindM, exc_bindM, pureD, runD, startE, endD, fuelI, List.map_cons, List.map_nil, List.length_cons, List.length_nil, List.length_append, List.replicate, List.cons_append, List.nil_append, List.append_nil, List.set_cons_zero, List.set_cons_succ, List.getElem?_cons_zero, List.getElem?_cons_succ, wipeE, List.foldr, Nat.reduceAdd, Nat.reduceSub, Nat.reduceLeDiff, Nat.zero_add, Nat.add_zero, Nat.reduceLT, if_true, if_false, ite_true, ite_false, reduceIte, Bool.false_eq_true, eq_self, opNe_int, opEq_int, opLt, opLe, opGt, opGe, opCmp, opSub, opNeg, opAdd_int, ixD, atI_0, atI_1, atI_2, bTuple, bList, opIsN, opNotN, tyN, isTy, String.reduceBEq, Bool.true_or, Bool.and_false, Bool.or_false, Bool.false_or, Bool.true_and, Bool.false_and, Bool.and_true, Bool.not_true, Bool.not_false, bIs, forL, stepS, Sl.va.injEq, decide_eq_true_eq, bAll_map]
  | ref k => exact absurd h Bool.false_ne_true
  | adr k => exact absurd h Bool.false_ne_true
  | _ => rfl
/-! ### what raises -/
def orE (b : Bool) (x : Str) : M D := if b then M.pure .non else M.exc ⟨x, none⟩
theorem e_need_step {d : D} (h : plD d = true) : m_need_step [d] = orE (isStep d) "InvalidStep" := by
  simp only [m_need_step, F_need_step, sSeq, sSkip, sBreak, sCont, sSet, sDrop, sRet, sRetN, sIf, iteS, sPar, setAll, sAsg, Tg.bind, gotE, sNew, sApp, appL, ownD, sSeal, sealE, sVar, sC, sCons, sNil, sOp2, sOp1, sCall, sCb, sTup, mkT, sLst, mkL1, sLstF, capL, sTst, truD, sAnd, sOr, iteB, kB, sNot, sIfE, iteE, sAndV, andV, sOrV, orV, sNotV, notD, sIs, sFor, sWhile, iSeqS, itemsD, iRange, iZip, zipD, zip2D, iEnum, enumD, sComp, sVal, sCatF, catL, sListF, listL, sRef, sChain, chV, sSlice, sPart, sNoPart, intO, slD, sOwnIx, sOwnLen, sOwnPut, sTry, sPut, putD, pure_bindM, bad_bindM, exc_bindM, pureD, runD, startE, endD, fuelI, List.map_cons, List.map_nil, List.length_cons, List.length_nil, List.length_append, List.replicate, List.cons_append, List.nil_append, List.append_nil, List.set_cons_zero, List.set_cons_succ, List.getElem?_cons_zero, List.getElem?_cons_succ, wipeE, List.foldr, Nat.reduceAdd, Nat.reduceSub, Nat.reduceLeDiff, Nat.zero_add, Nat.add_zero, Nat.reduceLT, if_true, if_false, ite_true, ite_false, reduceIte, Bool.false_eq_true, eq_self, opNe_int, opEq_int, opLt, opLe, opGt, opGe, opCmp, opSub, opNeg, opAdd_int, ixD, atI_0, atI_1, atI_2, bTuple, bList, opIsN, opNotN, tyN, isTy, String.reduceBEq, Bool.true_or, Bool.and_false, Bool.or_false, Bool.false_or, Bool.true_and, Bool.false_and, Bool.and_true, Bool.not_true, Bool.not_false, bIs, forL, stepS, Sl.va.injEq, decide_eq_true_eq, e_is_step_value h]
  cases isStep d <;> rfl
def isFact (n : Nat) : D → Bool
  | .tup [s, k, e] => isW 0 20 k && (isStand n s && isStand n e)
  | _ => false
def isFacts (n : Nat) : D → Bool
  | .tup fs => (decide (1 ≤ fs.length) && decide (fs.length ≤ 3)) && fs.all (isFact n)
  | _ => false
theorem fact_step {d : D} (h : plD d = true) {b : D} {rows : List D} (hn : rows.length ≤ 1000000) {v : Sl} : L_need_facts_0 [.va (.tup [b, .tup rows]), v, .va d] = if isFact rows.length d then M.pure (.nx, [.va (.tup [b, .tup rows]), v, .va d]) else M.exc ⟨"InvalidFacts", none⟩ := by
  cases d with
  | tup ds =>
    rcases ds with _ | ⟨s, _ | ⟨k, _ | ⟨e, _ | ⟨c, ds⟩⟩⟩⟩
    · rfl
    · rfl
    · rfl
    · simp only [plD, plDs, Bool.and_true, Bool.and_eq_true] at h
      have e1 := e_is_within h.2.1 0 20
      have e2 := e_is_stand_value h.1 hn
      have e3 := e_is_stand_value h.2.2 hn
      cases hk : isW 0 20 k <;> cases hs : isStand rows.length s <;> cases he : isStand rows.length e <;> rw [hk] at e1 <;> rw [hs] at e2 <;> rw [he] at e3 <;> simp only [L_need_facts_0, sSeq, sSkip, sBreak, sCont, sSet, sDrop, sRet, sRetN, sIf, iteS, sPar, setAll, sAsg, Tg.bind, gotE, sNew, sApp, appL, ownD, sSeal, sealE, sVar, sC, sCons, sNil, sOp2, sOp1, sCall, sCb, sTup, mkT, sLst, mkL1, sLstF, capL, sTst, truD, sAnd, sOr, iteB, kB, sNot, sIfE, iteE, sAndV, andV, sOrV, orV, sNotV, notD, sIs, sFor, sWhile, iSeqS, itemsD, iRange, iZip, zipD, zip2D, iEnum, enumD, sComp, sVal, sCatF, catL, sListF, listL, sRef, sChain, chV, sSlice, sPart, sNoPart, intO, slD, sOwnIx, sOwnLen, sOwnPut, sTry, sPut, putD, pure_bindM, bad_bindM, exc_bindM, pureD, runD, startE, endD, fuelI, List.map_cons, List.map_nil, List.length_cons, List.length_nil, List.length_append, List.replicate, List.cons_append, List.nil_append, List.append_nil, List.set_cons_zero, List.set_cons_succ, List.getElem?_cons_zero, List.getElem?_cons_succ, wipeE, List.foldr, Nat.reduceAdd, Nat.reduceSub, Nat.reduceLeDiff, Nat.zero_add, Nat.add_zero, Nat.reduceLT, if_true, if_false, ite_true, ite_false, reduceIte, Bool.false_eq_true, eq_self, opNe_int, opEq_int, opLt, opLe, opGt, opGe, opCmp, opSub, opNeg, opAdd_int, ixD, atI_0, atI_1, atI_2, bTuple, bList, opIsN, opNotN, tyN, isTy, String.reduceBEq, Bool.true_or, Bool.and_false, Bool.or_false, Bool.false_or, Bool.true_and, Bool.false_and, Bool.and_true, Bool.not_true, Bool.not_false, bIs, forL, stepS, Sl.va.injEq, decide_eq_true_eq, bLen, Int.reduceBEq, Int.cast_ofNat_Int, e1, e2, e3, isFact, hk, hs, he] <;> rfl
    · have i1 : ((ds.length : Int) + 1 + 1 + 1 + 1 == 3) = false := by
        simp only [beq_eq_false_iff_ne]
        omega
      simp only [L_need_facts_0, sSeq, sSkip, sBreak, sCont, sSet, sDrop, sRet, sRetN, sIf, iteS, sPar, setAll, sAsg, Tg.bind, gotE, sNew, sApp, appL, ownD, sSeal, sealE, sVar, sC, sCons, sNil, sOp2, sOp1, sCall, sCb, sTup, mkT, sLst, mkL1, sLstF, capL, sTst, truD, sAnd, sOr, iteB, kB, sNot, sIfE, iteE, sAndV, andV, sOrV, orV, sNotV, notD, sIs, sFor, sWhile, iSeqS, itemsD, iRange, iZip, zipD, zip2D, iEnum, enumD, sComp, sVal, sCatF, catL, sListF, listL, sRef, sChain, chV, sSlice, sPart, sNoPart, intO, slD, sOwnIx, sOwnLen, sOwnPut, sTry, sPut, putD, pure_bindM, bad_bindM, exc_bindM, pureD, runD, startE, endD, fuelI, List.map_cons, List.map_nil, List.length_cons, List.length_nil, List.length_append, List.replicate, List.cons_append, List.nil_append, List.append_nil, List.set_cons_zero, List.set_cons_succ, List.getElem?_cons_zero, List.getElem?_cons_succ, wipeE, List.foldr, Nat.reduceAdd, Nat.reduceSub, Nat.reduceLeDiff, Nat.zero_add, Nat.add_zero, Nat.reduceLT, if_true, if_false, ite_true, ite_false, reduceIte, Bool.false_eq_true, eq_self, opNe_int, opEq_int, opLt, opLe, opGt, opGe, opCmp, opSub, opNeg, opAdd_int, ixD, atI_0, atI_1, atI_2, bTuple, bList, opIsN, opNotN, tyN, isTy, String.reduceBEq, Bool.true_or, Bool.and_false, Bool.or_false, Bool.false_or, Bool.true_and, Bool.false_and, Bool.and_true, Bool.not_true, Bool.not_false, bIs, forL, stepS, Sl.va.injEq, decide_eq_true_eq, bLen, isFact, Int.natCast_add, Int.cast_ofNat_Int, i1]
      rfl
  | ref k => exact absurd h Bool.false_ne_true
  | adr k => exact absurd h Bool.false_ne_true
  | _ => rfl
theorem facts_loop {b : D} {rows : List D} (hn : rows.length ≤ 1000000) {v : Sl} : ∀ {ds : List D}, plDs ds = true → forL (.nm 2) [2] L_need_facts_0 ds [.va (.tup [b, .tup rows]), v, .no] = if ds.all (isFact rows.length) then M.pure (.nx, [.va (.tup [b, .tup rows]), v, .no]) else M.exc ⟨"InvalidFacts", none⟩
  | [], h => rfl
  | d :: ds, h => by
    simp only [plDs, Bool.and_eq_true] at h
    have ih := facts_loop (b := b) (v := v) hn h.2
    simp only [forL, Tg.bind, sSeq, sSkip, sBreak, sCont, sSet, sDrop, sRet, sRetN, sIf, iteS, sPar, setAll, sAsg, Tg.bind, gotE, sNew, sApp, appL, ownD, sSeal, sealE, sVar, sC, sCons, sNil, sOp2, sOp1, sCall, sCb, sTup, mkT, sLst, mkL1, sLstF, capL, sTst, truD, sAnd, sOr, iteB, kB, sNot, sIfE, iteE, sAndV, andV, sOrV, orV, sNotV, notD, sIs, sFor, sWhile, iSeqS, itemsD, iRange, iZip, zipD, zip2D, iEnum, enumD, sComp, sVal, sCatF, catL, sListF, listL, sRef, sChain, chV, sSlice, sPart, sNoPart, intO, slD, sOwnIx, sOwnLen, sOwnPut, sTry, sPut, putD, pure_bindM, bad_bindM, exc_bindM, pureD, runD, startE, endD, fuelI, List.map_cons, List.map_nil, List.length_cons, List.length_nil, List.length_append, List.replicate, List.cons_append, List.nil_append, List.append_nil, List.set_cons_zero, List.set_cons_succ, List.getElem?_cons_zero, List.getElem?_cons_succ, wipeE, List.foldr, Nat.reduceAdd, Nat.reduceSub, Nat.reduceLeDiff, Nat.zero_add, Nat.add_zero, Nat.reduceLT, if_true, if_false, ite_true, ite_false, reduceIte, Bool.false_eq_true, eq_self, opNe_int, opEq_int, opLt, opLe, opGt, opGe, opCmp, opSub, opNeg, opAdd_int, ixD, atI_0, atI_1, atI_2, bTuple, bList, opIsN, opNotN, tyN, isTy, String.reduceBEq, Bool.true_or, Bool.and_false, Bool.or_false, Bool.false_or, Bool.true_and, Bool.false_and, Bool.and_true, Bool.not_true, Bool.not_false, bIs, forL, stepS, Sl.va.injEq, decide_eq_true_eq, fact_step h.1 hn]
    cases hf : isFact rows.length d with
    | false => simp only [List.all_cons, hf, sSeq, sSkip, sBreak, sCont, sSet, sDrop, sRet, sRetN, sIf, iteS, sPar, setAll, sAsg, Tg.bind, gotE, sNew, sApp, appL, ownD, sSeal, sealE, sVar, sC, sCons, sNil, sOp2, sOp1, sCall, sCb, sTup, mkT, sLst, mkL1, sLstF, capL, sTst, truD, sAnd, sOr, iteB, kB, sNot, sIfE, iteE, sAndV, andV, sOrV, orV, sNotV, notD, sIs, sFor, sWhile, iSeqS, itemsD, iRange, iZip, zipD, zip2D, iEnum, enumD, sComp, sVal, sCatF, catL, sListF, listL, sRef, sChain, chV, sSlice, sPart, sNoPart, intO, slD, sOwnIx, sOwnLen, sOwnPut, sTry, sPut, putD, pure_bindM, bad_bindM, exc_bindM, pureD, runD, startE, endD, fuelI, List.map_cons, List.map_nil, List.length_cons, List.length_nil, List.length_append, List.replicate, List.cons_append, List.nil_append, List.append_nil, List.set_cons_zero, List.set_cons_succ, List.getElem?_cons_zero, List.getElem?_cons_succ, wipeE, List.foldr, Nat.reduceAdd, Nat.reduceSub, Nat.reduceLeDiff, Nat.zero_add, Nat.add_zero, Nat.reduceLT, if_true, if_false, ite_true, ite_false, reduceIte, Bool.false_eq_true, eq_self, opNe_int, opEq_int, opLt, opLe, opGt, opGe, opCmp, opSub, opNeg, opAdd_int, ixD, atI_0, atI_1, atI_2, bTuple, bList, opIsN, opNotN, tyN, isTy, String.reduceBEq, Bool.true_or, Bool.and_false, Bool.or_false, Bool.false_or, Bool.true_and, Bool.false_and, Bool.and_true, Bool.not_true, Bool.not_false, bIs, forL, stepS, Sl.va.injEq, decide_eq_true_eq]
    | true =>
      simp only [List.all_cons, hf, sSeq, sSkip, sBreak, sCont, sSet, sDrop, sRet, sRetN, sIf, iteS, sPar, setAll, sAsg, Tg.bind, gotE, sNew, sApp, appL, ownD, sSeal, sealE, sVar, sC, sCons, sNil, sOp2, sOp1, sCall, sCb, sTup, mkT, sLst, mkL1, sLstF, capL, sTst, truD, sAnd, sOr, iteB, kB, sNot, sIfE, iteE, sAndV, andV, sOrV, orV, sNotV, notD, sIs, sFor, sWhile, iSeqS, itemsD, iRange, iZip, zipD, zip2D, iEnum, enumD, sComp, sVal, sCatF, catL, sListF, listL, sRef, sChain, chV, sSlice, sPart, sNoPart, intO, slD, sOwnIx, sOwnLen, sOwnPut, sTry, sPut, putD, pure_bindM, bad_bindM, exc_bindM, pureD, runD, startE, endD, fuelI, List.map_cons, List.map_nil, List.length_cons, List.length_nil, List.length_append, List.replicate, List.cons_append, List.nil_append, List.append_nil, List.set_cons_zero, List.set_cons_succ, List.getElem?_cons_zero, List.getElem?_cons_succ, wipeE, List.foldr, Nat.reduceAdd, Nat.reduceSub, Nat.reduceLeDiff, Nat.zero_add, Nat.add_zero, Nat.reduceLT, if_true, if_false, ite_true, ite_false, reduceIte, Bool.false_eq_true, eq_self, opNe_int, opEq_int, opLt, opLe, opGt, opGe, opCmp, opSub, opNeg, opAdd_int, ixD, atI_0, atI_1, atI_2, bTuple, bList, opIsN, opNotN, tyN, isTy, String.reduceBEq, Bool.true_or, Bool.and_false, Bool.or_false, Bool.false_or, Bool.true_and, Bool.false_and, Bool.and_true, Bool.not_true, Bool.not_false, bIs, forL, stepS, Sl.va.injEq, decide_eq_true_eq]
      exact ih
theorem e_need_facts {d : D} (h : plD d = true) {b : D} {rows : List D} (hn : rows.length ≤ 1000000) : m_need_facts [.tup [b, .tup rows], d] = orE (isFacts rows.length d) "InvalidFacts" := by
  cases d with
  | tup ds =>
    simp only [plD] at h
    by_cases h1 : 1 ≤ ds.length
    · by_cases h3 : ds.length ≤ 3
      · have i1 : (1 : Int) ≤ (ds.length : Int) := by omega
        have i3 : (ds.length : Int) ≤ 3 := by omega
        simp only [m_need_facts, F_need_facts, sSeq, sSkip, sBreak, sCont, sSet, sDrop, sRet, sRetN, sIf, iteS, sPar, setAll, sAsg, Tg.bind, gotE, sNew, sApp, appL, ownD, sSeal, sealE, sVar, sC, sCons, sNil, sOp2, sOp1, sCall, sCb, sTup, mkT, sLst, mkL1, sLstF, capL, sTst, truD, sAnd, sOr, iteB, kB, sNot, sIfE, iteE, sAndV, andV, sOrV, orV, sNotV, notD, sIs, sFor, sWhile, iSeqS, itemsD, iRange, iZip, zipD, zip2D, iEnum, enumD, sComp, sVal, sCatF, catL, sListF, listL, sRef, sChain, chV, sSlice, sPart, sNoPart, intO, slD, sOwnIx, sOwnLen, sOwnPut, sTry, sPut, putD, pure_bindM, bad_bindM, exc_bindM, pureD, runD, startE, endD, fuelI, List.map_cons, List.map_nil, List.length_cons, List.length_nil, List.length_append, List.replicate, List.cons_append, List.nil_append, List.append_nil, List.set_cons_zero, List.set_cons_succ, List.getElem?_cons_zero, List.getElem?_cons_succ, wipeE, List.foldr, Nat.reduceAdd, Nat.reduceSub, Nat.reduceLeDiff, Nat.zero_add, Nat.add_zero, Nat.reduceLT, if_true, if_false, ite_true, ite_false, reduceIte, Bool.false_eq_true, eq_self, opNe_int, opEq_int, opLt, opLe, opGt, opGe, opCmp, opSub, opNeg, opAdd_int, ixD, atI_0, atI_1, atI_2, bTuple, bList, opIsN, opNotN, tyN, isTy, String.reduceBEq, Bool.true_or, Bool.and_false, Bool.or_false, Bool.false_or, Bool.true_and, Bool.false_and, Bool.and_true, Bool.not_true, Bool.not_false, bIs, forL, stepS, Sl.va.injEq, decide_eq_true_eq, bLen, i1, i3, decide_true, isFacts, h1, h3, facts_loop hn h]
        cases ds.all (isFact rows.length) <;> rfl
      · have i1 : (1 : Int) ≤ (ds.length : Int) := by omega
        have i3 : ¬ (ds.length : Int) ≤ 3 := by omega
        simp only [m_need_facts, F_need_facts, sSeq, sSkip, sBreak, sCont, sSet, sDrop, sRet, sRetN, sIf, iteS, sPar, setAll, sAsg, Tg.bind, gotE, sNew, sApp, appL, ownD, sSeal, sealE, sVar, sC, sCons, sNil, sOp2, sOp1, sCall, sCb, sTup, mkT, sLst, mkL1, sLstF, capL, sTst, truD, sAnd, sOr, iteB, kB, sNot, sIfE, iteE, sAndV, andV, sOrV, orV, sNotV, notD, sIs, sFor, sWhile, iSeqS, itemsD, iRange, iZip, zipD, zip2D, iEnum, enumD, sComp, sVal, sCatF, catL, sListF, listL, sRef, sChain, chV, sSlice, sPart, sNoPart, intO, slD, sOwnIx, sOwnLen, sOwnPut, sTry, sPut, putD, pure_bindM, bad_bindM, exc_bindM, pureD, runD, startE, endD, fuelI, List.map_cons, List.map_nil, List.length_cons, List.length_nil, List.length_append, List.replicate, List.cons_append, List.nil_append, List.append_nil, List.set_cons_zero, List.set_cons_succ, List.getElem?_cons_zero, List.getElem?_cons_succ, wipeE, List.foldr, Nat.reduceAdd, Nat.reduceSub, Nat.reduceLeDiff, Nat.zero_add, Nat.add_zero, Nat.reduceLT, if_true, if_false, ite_true, ite_false, reduceIte, Bool.false_eq_true, eq_self, opNe_int, opEq_int, opLt, opLe, opGt, opGe, opCmp, opSub, opNeg, opAdd_int, ixD, atI_0, atI_1, atI_2, bTuple, bList, opIsN, opNotN, tyN, isTy, String.reduceBEq, Bool.true_or, Bool.and_false, Bool.or_false, Bool.false_or, Bool.true_and, Bool.false_and, Bool.and_true, Bool.not_true, Bool.not_false, bIs, forL, stepS, Sl.va.injEq, decide_eq_true_eq, bLen, i1, i3, decide_true, decide_false, isFacts, h1, h3]
        rfl
    · have i1 : ¬ (1 : Int) ≤ (ds.length : Int) := by omega
      simp only [m_need_facts, F_need_facts, sSeq, sSkip, sBreak, sCont, sSet, sDrop, sRet, sRetN, sIf, iteS, sPar, setAll, sAsg, Tg.bind, gotE, sNew, sApp, appL, ownD, sSeal, sealE, sVar, sC, sCons, sNil, sOp2, sOp1, sCall, sCb, sTup, mkT, sLst, mkL1, sLstF, capL, sTst, truD, sAnd, sOr, iteB, kB, sNot, sIfE, iteE, sAndV, andV, sOrV, orV, sNotV, notD, sIs, sFor, sWhile, iSeqS, itemsD, iRange, iZip, zipD, zip2D, iEnum, enumD, sComp, sVal, sCatF, catL, sListF, listL, sRef, sChain, chV, sSlice, sPart, sNoPart, intO, slD, sOwnIx, sOwnLen, sOwnPut, sTry, sPut, putD, pure_bindM, bad_bindM, exc_bindM, pureD, runD, startE, endD, fuelI, List.map_cons, List.map_nil, List.length_cons, List.length_nil, List.length_append, List.replicate, List.cons_append, List.nil_append, List.append_nil, List.set_cons_zero, List.set_cons_succ, List.getElem?_cons_zero, List.getElem?_cons_succ, wipeE, List.foldr, Nat.reduceAdd, Nat.reduceSub, Nat.reduceLeDiff, Nat.zero_add, Nat.add_zero, Nat.reduceLT, if_true, if_false, ite_true, ite_false, reduceIte, Bool.false_eq_true, eq_self, opNe_int, opEq_int, opLt, opLe, opGt, opGe, opCmp, opSub, opNeg, opAdd_int, ixD, atI_0, atI_1, atI_2, bTuple, bList, opIsN, opNotN, tyN, isTy, String.reduceBEq, Bool.true_or, Bool.and_false, Bool.or_false, Bool.false_or, Bool.true_and, Bool.false_and, Bool.and_true, Bool.not_true, Bool.not_false, bIs, forL, stepS, Sl.va.injEq, decide_eq_true_eq, bLen, i1, decide_true, decide_false, isFacts, h1]
      rfl
  | ref k => exact absurd h Bool.false_ne_true
  | adr k => exact absurd h Bool.false_ne_true
  | _ => rfl
end Dt

set_option maxHeartbeats 4000000
namespace Dt
open PySem PySem.Spec PyProof.Rows L2
/-! ### equal values -/
theorem opAdd_tup {xs ys : List D} (h : xs.length + ys.length ≤ 1000000) : opAdd (.tup xs) (.tup ys) = M.pure (.tup (xs ++ ys)) := if_pos h
theorem opEq_of {x y : D} (h : eqOk x y = true) : opEq x y = M.pure (.bl (eqD x y)) := if_pos h
theorem opNe_of {x y : D} (h : eqOk x y = true) : opNe x y = M.pure (.bl (!eqD x y)) := if_pos h
theorem okE_eQ (q : Rat) : okE (eQ q) = true := rfl
theorem dpE_eQ (q : Rat) : dpE (eQ q) = 1 := rfl
theorem okE_map {α : Type} (f : α → D) (h : ∀ a, okE (f a) = true) : ∀ l : List α, okEs (l.map f) = true
  | [] => rfl
  | a :: l => by
    simp only [List.map_cons, okEs, h a, okE_map f h l, Bool.and_self]
theorem dpE_map {α : Type} (f : α → D) {n : Nat} (h : ∀ a, dpE (f a) ≤ n) : ∀ l : List α, dpEs (l.map f) ≤ n
  | [] => Nat.zero_le _
  | a :: l => by
    simp only [List.map_cons, dpEs]
    exact Nat.max_le.mpr ⟨h a, dpE_map f h l⟩
theorem okE_eS (s : List Rat) : okE (eS s) = true := okE_map eQ okE_eQ s
theorem dpE_eS (s : List Rat) : dpE (eS s) ≤ 2 := by
  show dpEs _ + 1 ≤ 2
  have := dpE_map eQ (n := 1) (fun q => Nat.le_of_eq (dpE_eQ q)) s
  omega
theorem eqD_eQ (x y : Rat) : eqD (eQ x) (eQ y) = decide (x = y) := by
  show ((x.num == y.num) && (((x.den : Int) == (y.den : Int)) && true)) = _
  rw [Bool.and_true, Bool.eq_iff_iff]
  simp only [Bool.and_eq_true, beq_iff_eq, decide_eq_true_eq]
  constructor
  · rintro ⟨h1, h2⟩
    exact Rat.ext h1 (by omega)
  · rintro rfl
    exact ⟨rfl, rfl⟩
theorem eqDs_map {α : Type} [DecidableEq α] (f : α → D) (h : ∀ x y, eqD (f x) (f y) = decide (x = y)) : ∀ x y : List α, eqDs (x.map f) (y.map f) = decide (x = y)
  | [], [] => rfl
  | [], y :: ys => rfl
  | x :: xs, [] => rfl
  | x :: xs, y :: ys => by
    simp only [List.map_cons, eqDs, h, eqDs_map f h xs ys]
    rw [Bool.eq_iff_iff]
    simp
theorem eqD_eS (x y : List Rat) : eqD (eS x) (eS y) = decide (x = y) := eqDs_map eQ eqD_eQ x y
theorem eqOk_of2 {x y : D} (h1 : okE x = true) (h2 : okE y = true) (h3 : dpE x ≤ 64) (h4 : dpE y ≤ 64) : eqOk x y = true := by
  unfold eqOk
  simp only [h1, h2, h3, h4, decide_true, Bool.and_self]
theorem eqOk_eS (x y : List Rat) : eqOk (eS x) (eS y) = true := eqOk_of2 (okE_eS x) (okE_eS y) (by have := dpE_eS x; omega) (by have := dpE_eS y; omega)
theorem opEq_eS (x y : List Rat) : opEq (eS x) (eS y) = M.pure (.bl (decide (x = y))) := by rw [opEq_of (eqOk_eS x y), eqD_eS]
theorem opNe_eS (x y : List Rat) : opNe (eS x) (eS y) = M.pure (.bl (!decide (x = y))) := by rw [opNe_of (eqOk_eS x y), eqD_eS]
/-! ### facts -/
structure Fct where
  s : List Rat
  k : Nat
  e : List Rat
def eF (f : Fct) : D := .tup [eS f.s, .int f.k, eS f.e]
def eFs (fs : List Fct) : D := .tup (fs.map eF)
def isSo (T : Stp) (fs : List Fct) : Bool := fs.all fun f => decide (afterQ T f.s f.k = f.e)
def FOk (fs : List Fct) : Prop := fs.length ≤ 1000000 ∧ ∀ f ∈ fs, ∃ n, Good n f.s ∧ n + 6 * f.k ≤ 1990
theorem cmpL_mapF {α : Type} {t : Tg} {G : SE} {env : Env} (c : α → D) (g : α → D) : ∀ (ds : List α) (acc : List D), (∀ d ∈ ds, ∃ e1, t.bind (c d) env = some e1 ∧ G e1 = M.pure (g d)) → cmpL t sYes G env (ds.map c) acc = M.pure (acc ++ ds.map g)
  | [], acc, h => by simp only [cmpL, List.map_nil, List.append_nil]
  | d :: ds, acc, h => by
    obtain ⟨e1, h1, h2⟩ := h d (by simp)
    have ih := cmpL_mapF c g ds (acc ++ [g d]) (fun d hd => h d (by simp [hd]))
    simp only [List.map_cons, cmpL, h1, gotE, sYes, pure_bindM, iteC, h2, ih, List.append_assoc, List.cons_append, List.nil_append]
theorem cmpT_mapF {α : Type} {t : Tg} {vs : List Nat} {G : SE} {env : Env} (c : α → D) (g : α → D) {ds : List α} (hl : ds.length ≤ 1000000) (h : ∀ d ∈ ds, ∃ e1, t.bind (c d) (wipeE vs env) = some e1 ∧ G e1 = M.pure (g d)) : cmpT t vs sYes G (ds.map c) env = M.pure (.lst (ds.map g)) := by
  unfold cmpT
  rw [if_pos (by simpa using hl), cmpL_mapF c g ds [] h]
  rfl
theorem boolsD_mapF {α : Type} (p : α → Bool) : ∀ ds : List α, boolsD (ds.map fun d => .bl (p d)) = some (ds.map p)
  | [] => rfl
  | d :: ds => by
    show (boolsD (ds.map fun d => .bl (p d))).map (p d :: ·) = _
    rw [boolsD_mapF p ds]
    rfl
theorem bAll_mapF {α : Type} (p : α → Bool) (ds : List α) : bAll [.lst (ds.map fun d => .bl (p d))] = M.pure (.bl (ds.all p)) := by
  show onB (·.all id) (boolsD _) = _
  rw [boolsD_mapF]
  show M.pure (D.bl ((ds.map p).all id)) = _
  rw [List.all_map]
  rfl
end Dt

set_option maxHeartbeats 4000000
namespace Dt
open PySem PySem.Spec PyProof.Rows L2
theorem e_is_so {T : Stp} (h : StpOk T) {fs : List Fct} (hf : FOk fs) : m_is_so [eT T, eFs fs] = M.pure (.bl (isSo T fs)) := by
  simp only [m_is_so, F_is_so, sSeq, sSkip, sBreak, sCont, sSet, sDrop, sRet, sRetN, sIf, iteS, sPar, setAll, sAsg, Tg.bind, gotE, sNew, sApp, appL, ownD, sSeal, sealE, sVar, sC, sCons, sNil, sOp2, sOp1, sCall, sCb, sTup, mkT, sLst, mkL1, sLstF, capL, sTst, truD, sAnd, sOr, iteB, kB, sNot, sIfE, iteE, sAndV, andV, sOrV, orV, sNotV, notD, sIs, sFor, sWhile, iSeqS, itemsD, iRange, iZip, zipD, zip2D, iEnum, enumD, sComp, sVal, sCatF, catL, sListF, listL, sRef, sChain, chV, sSlice, sPart, sNoPart, intO, slD, sOwnIx, sOwnLen, sOwnPut, sTry, sPut, putD, pure_bindM, bad_bindM, exc_bindM, pureD, runD, startE, endD, fuelI, List.map_cons, List.map_nil, List.length_cons, List.length_nil, List.length_append, List.replicate, List.cons_append, List.nil_append, List.append_nil, List.set_cons_zero, List.set_cons_succ, List.getElem?_cons_zero, List.getElem?_cons_succ, wipeE, List.foldr, Nat.reduceAdd, Nat.reduceSub, Nat.reduceLeDiff, Nat.zero_add, Nat.add_zero, Nat.reduceLT, if_true, if_false, ite_true, ite_false, reduceIte, Bool.false_eq_true, eq_self, opNe_int, opEq_int, opLt, opLe, opGt, opGe, opCmp, opSub, opNeg, opAdd_int, ixD, atI_0, atI_1, atI_2, bTuple, bList, opIsN, opNotN, tyN, isTy, String.reduceBEq, Bool.true_or, Bool.and_false, Bool.or_false, Bool.false_or, Bool.true_and, Bool.false_and, Bool.and_true, Bool.not_true, Bool.not_false, bIs, forL, stepS, Sl.va.injEq, decide_eq_true_eq, eFs]
  rw [cmpT_mapF eF (fun f => .bl (decide (afterQ T f.s f.k = f.e))) hf.1 (fun f hm => ⟨_, rfl, by
    obtain ⟨n, g, l⟩ := hf.2 f hm
    simp only [E_is_so_0, sSeq, sSkip, sBreak, sCont, sSet, sDrop, sRet, sRetN, sIf, iteS, sPar, setAll, sAsg, Tg.bind, gotE, sNew, sApp, appL, ownD, sSeal, sealE, sVar, sC, sCons, sNil, sOp2, sOp1, sCall, sCb, sTup, mkT, sLst, mkL1, sLstF, capL, sTst, truD, sAnd, sOr, iteB, kB, sNot, sIfE, iteE, sAndV, andV, sOrV, orV, sNotV, notD, sIs, sFor, sWhile, iSeqS, itemsD, iRange, iZip, zipD, zip2D, iEnum, enumD, sComp, sVal, sCatF, catL, sListF, listL, sRef, sChain, chV, sSlice, sPart, sNoPart, intO, slD, sOwnIx, sOwnLen, sOwnPut, sTry, sPut, putD, pure_bindM, bad_bindM, exc_bindM, pureD, runD, startE, endD, fuelI, List.map_cons, List.map_nil, List.length_cons, List.length_nil, List.length_append, List.replicate, List.cons_append, List.nil_append, List.append_nil, List.set_cons_zero, List.set_cons_succ, List.getElem?_cons_zero, List.getElem?_cons_succ, wipeE, List.foldr, Nat.reduceAdd, Nat.reduceSub, Nat.reduceLeDiff, Nat.zero_add, Nat.add_zero, Nat.reduceLT, if_true, if_false, ite_true, ite_false, reduceIte, Bool.false_eq_true, eq_self, opNe_int, opEq_int, opLt, opLe, opGt, opGe, opCmp, opSub, opNeg, opAdd_int, ixD, atI_0, atI_1, atI_2, bTuple, bList, opIsN, opNotN, tyN, isTy, String.reduceBEq, Bool.true_or, Bool.and_false, Bool.or_false, Bool.false_or, Bool.true_and, Bool.false_and, Bool.and_true, Bool.not_true, Bool.not_false, bIs, forL, stepS, Sl.va.injEq, decide_eq_true_eq, e_stand_after h g l, opEq_eS]⟩)]
  simp only [sSeq, sSkip, sBreak, sCont, sSet, sDrop, sRet, sRetN, sIf, iteS, sPar, setAll, sAsg, Tg.bind, gotE, sNew, sApp, appL, ownD, sSeal, sealE, sVar, sC, sCons, sNil, sOp2, sOp1, sCall, sCb, sTup, mkT, sLst, mkL1, sLstF, capL, sTst, truD, sAnd, sOr, iteB, kB, sNot, sIfE, iteE, sAndV, andV, sOrV, orV, sNotV, notD, sIs, sFor, sWhile, iSeqS, itemsD, iRange, iZip, zipD, zip2D, iEnum, enumD, sComp, sVal, sCatF, catL, sListF, listL, sRef, sChain, chV, sSlice, sPart, sNoPart, intO, slD, sOwnIx, sOwnLen, sOwnPut, sTry, sPut, putD, pure_bindM, bad_bindM, exc_bindM, pureD, runD, startE, endD, fuelI, List.map_cons, List.map_nil, List.length_cons, List.length_nil, List.length_append, List.replicate, List.cons_append, List.nil_append, List.append_nil, List.set_cons_zero, List.set_cons_succ, List.getElem?_cons_zero, List.getElem?_cons_succ, wipeE, List.foldr, Nat.reduceAdd, Nat.reduceSub, Nat.reduceLeDiff, Nat.zero_add, Nat.add_zero, Nat.reduceLT, if_true, if_false, ite_true, ite_false, reduceIte, Bool.false_eq_true, eq_self, opNe_int, opEq_int, opLt, opLe, opGt, opGe, opCmp, opSub, opNeg, opAdd_int, ixD, atI_0, atI_1, atI_2, bTuple, bList, opIsN, opNotN, tyN, isTy, String.reduceBEq, Bool.true_or, Bool.and_false, Bool.or_false, Bool.false_or, Bool.true_and, Bool.false_and, Bool.and_true, Bool.not_true, Bool.not_false, bIs, forL, stepS, Sl.va.injEq, decide_eq_true_eq, bAll_mapF]
  rfl
theorem goes_loop {T : Stp} (h : StpOk T) {w : Sl} : ∀ {fs : List Fct}, (∀ f ∈ fs, ∃ n, Good n f.s ∧ n + 6 * f.k ≤ 1990) → forL (.tp [2, 3, 4]) [2, 3, 4] L__law_goes_0 (fs.map eF) [.va (eT T), w, .no, .no, .no] = if isSo T fs then M.pure (.nx, [.va (eT T), w, .no, .no, .no]) else (forL (.tp [2, 3, 4]) [2, 3, 4] L__law_goes_0 (fs.map eF) [.va (eT T), w, .no, .no, .no])
  | [], hf => rfl
  | f :: fs, hf => by
    split
    · rename_i hs
      have ih := goes_loop h (w := w) (fs := fs) (fun f hm => hf f (by simp [hm]))
      simp only [isSo, List.all_cons, Bool.and_eq_true, decide_eq_true_eq] at hs
      rw [if_pos (show isSo T fs = true from hs.2)] at ih
      obtain ⟨n, g, l⟩ := hf f (by simp)
      simp only [List.map_cons, eF, forL, Tg.bind, sSeq, sSkip, sBreak, sCont, sSet, sDrop, sRet, sRetN, sIf, iteS, sPar, setAll, sAsg, Tg.bind, gotE, sNew, sApp, appL, ownD, sSeal, sealE, sVar, sC, sCons, sNil, sOp2, sOp1, sCall, sCb, sTup, mkT, sLst, mkL1, sLstF, capL, sTst, truD, sAnd, sOr, iteB, kB, sNot, sIfE, iteE, sAndV, andV, sOrV, orV, sNotV, notD, sIs, sFor, sWhile, iSeqS, itemsD, iRange, iZip, zipD, zip2D, iEnum, enumD, sComp, sVal, sCatF, catL, sListF, listL, sRef, sChain, chV, sSlice, sPart, sNoPart, intO, slD, sOwnIx, sOwnLen, sOwnPut, sTry, sPut, putD, pure_bindM, bad_bindM, exc_bindM, pureD, runD, startE, endD, fuelI, List.map_cons, List.map_nil, List.length_cons, List.length_nil, List.length_append, List.replicate, List.cons_append, List.nil_append, List.append_nil, List.set_cons_zero, List.set_cons_succ, List.getElem?_cons_zero, List.getElem?_cons_succ, wipeE, List.foldr, Nat.reduceAdd, Nat.reduceSub, Nat.reduceLeDiff, Nat.zero_add, Nat.add_zero, Nat.reduceLT, if_true, if_false, ite_true, ite_false, reduceIte, Bool.false_eq_true, eq_self, opNe_int, opEq_int, opLt, opLe, opGt, opGe, opCmp, opSub, opNeg, opAdd_int, ixD, atI_0, atI_1, atI_2, bTuple, bList, opIsN, opNotN, tyN, isTy, String.reduceBEq, Bool.true_or, Bool.and_false, Bool.or_false, Bool.false_or, Bool.true_and, Bool.false_and, Bool.and_true, Bool.not_true, Bool.not_false, bIs, forL, stepS, Sl.va.injEq, decide_eq_true_eq, L__law_goes_0, e__law_after h g l, opNe_eS, hs.1, decide_true]
      exact ih
    · rfl
theorem goes_bad {T : Stp} (h : StpOk T) {w : Sl} : ∀ {fs : List Fct}, (∀ f ∈ fs, ∃ n, Good n f.s ∧ n + 6 * f.k ≤ 1990) → isSo T fs = false → ∃ env', forL (.tp [2, 3, 4]) [2, 3, 4] L__law_goes_0 (fs.map eF) [.va (eT T), w, .no, .no, .no] = M.pure (.rt (.bl false), env')
  | [], hf, hs => by cases hs
  | f :: fs, hf, hs => by
    obtain ⟨n, g, l⟩ := hf f (by simp)
    by_cases he : afterQ T f.s f.k = f.e
    · have hs2 : isSo T fs = false := by
        simp only [isSo, List.all_cons, he, decide_true, Bool.true_and] at hs
        exact hs
      obtain ⟨env', ih⟩ := goes_bad h (w := w) (fs := fs) (fun f hm => hf f (by simp [hm])) hs2
      refine ⟨env', ?_⟩
      simp only [List.map_cons, eF, forL, Tg.bind, sSeq, sSkip, sBreak, sCont, sSet, sDrop, sRet, sRetN, sIf, iteS, sPar, setAll, sAsg, Tg.bind, gotE, sNew, sApp, appL, ownD, sSeal, sealE, sVar, sC, sCons, sNil, sOp2, sOp1, sCall, sCb, sTup, mkT, sLst, mkL1, sLstF, capL, sTst, truD, sAnd, sOr, iteB, kB, sNot, sIfE, iteE, sAndV, andV, sOrV, orV, sNotV, notD, sIs, sFor, sWhile, iSeqS, itemsD, iRange, iZip, zipD, zip2D, iEnum, enumD, sComp, sVal, sCatF, catL, sListF, listL, sRef, sChain, chV, sSlice, sPart, sNoPart, intO, slD, sOwnIx, sOwnLen, sOwnPut, sTry, sPut, putD, pure_bindM, bad_bindM, exc_bindM, pureD, runD, startE, endD, fuelI, List.map_cons, List.map_nil, List.length_cons, List.length_nil, List.length_append, List.replicate, List.cons_append, List.nil_append, List.append_nil, List.set_cons_zero, List.set_cons_succ, List.getElem?_cons_zero, List.getElem?_cons_succ, wipeE, List.foldr, Nat.reduceAdd, Nat.reduceSub, Nat.reduceLeDiff, Nat.zero_add, Nat.add_zero, Nat.reduceLT, if_true, if_false, ite_true, ite_false, reduceIte, Bool.false_eq_true, eq_self, opNe_int, opEq_int, opLt, opLe, opGt, opGe, opCmp, opSub, opNeg, opAdd_int, ixD, atI_0, atI_1, atI_2, bTuple, bList, opIsN, opNotN, tyN, isTy, String.reduceBEq, Bool.true_or, Bool.and_false, Bool.or_false, Bool.false_or, Bool.true_and, Bool.false_and, Bool.and_true, Bool.not_true, Bool.not_false, bIs, forL, stepS, Sl.va.injEq, decide_eq_true_eq, L__law_goes_0, e__law_after h g l, opNe_eS, he, decide_true]
      exact ih
    · exact ⟨[.va (eT T), w, .va (eS f.s), .va (.int f.k), .va (eS f.e)], by
        simp only [List.map_cons, eF, forL, Tg.bind, sSeq, sSkip, sBreak, sCont, sSet, sDrop, sRet, sRetN, sIf, iteS, sPar, setAll, sAsg, Tg.bind, gotE, sNew, sApp, appL, ownD, sSeal, sealE, sVar, sC, sCons, sNil, sOp2, sOp1, sCall, sCb, sTup, mkT, sLst, mkL1, sLstF, capL, sTst, truD, sAnd, sOr, iteB, kB, sNot, sIfE, iteE, sAndV, andV, sOrV, orV, sNotV, notD, sIs, sFor, sWhile, iSeqS, itemsD, iRange, iZip, zipD, zip2D, iEnum, enumD, sComp, sVal, sCatF, catL, sListF, listL, sRef, sChain, chV, sSlice, sPart, sNoPart, intO, slD, sOwnIx, sOwnLen, sOwnPut, sTry, sPut, putD, pure_bindM, bad_bindM, exc_bindM, pureD, runD, startE, endD, fuelI, List.map_cons, List.map_nil, List.length_cons, List.length_nil, List.length_append, List.replicate, List.cons_append, List.nil_append, List.append_nil, List.set_cons_zero, List.set_cons_succ, List.getElem?_cons_zero, List.getElem?_cons_succ, wipeE, List.foldr, Nat.reduceAdd, Nat.reduceSub, Nat.reduceLeDiff, Nat.zero_add, Nat.add_zero, Nat.reduceLT, if_true, if_false, ite_true, ite_false, reduceIte, Bool.false_eq_true, eq_self, opNe_int, opEq_int, opLt, opLe, opGt, opGe, opCmp, opSub, opNeg, opAdd_int, ixD, atI_0, atI_1, atI_2, bTuple, bList, opIsN, opNotN, tyN, isTy, String.reduceBEq, Bool.true_or, Bool.and_false, Bool.or_false, Bool.false_or, Bool.true_and, Bool.false_and, Bool.and_true, Bool.not_true, Bool.not_false, bIs, forL, stepS, Sl.va.injEq, decide_eq_true_eq, L__law_goes_0, e__law_after h g l, opNe_eS, he, decide_false]⟩
theorem e__law_goes {T : Stp} (h : StpOk T) {fs : List Fct} (hf : FOk fs) : m__law_goes [eT T, eFs fs] = M.pure (.bl (isSo T fs)) := by
  simp only [m__law_goes, F__law_goes, sSeq, sSkip, sBreak, sCont, sSet, sDrop, sRet, sRetN, sIf, iteS, sPar, setAll, sAsg, Tg.bind, gotE, sNew, sApp, appL, ownD, sSeal, sealE, sVar, sC, sCons, sNil, sOp2, sOp1, sCall, sCb, sTup, mkT, sLst, mkL1, sLstF, capL, sTst, truD, sAnd, sOr, iteB, kB, sNot, sIfE, iteE, sAndV, andV, sOrV, orV, sNotV, notD, sIs, sFor, sWhile, iSeqS, itemsD, iRange, iZip, zipD, zip2D, iEnum, enumD, sComp, sVal, sCatF, catL, sListF, listL, sRef, sChain, chV, sSlice, sPart, sNoPart, intO, slD, sOwnIx, sOwnLen, sOwnPut, sTry, sPut, putD, pure_bindM, bad_bindM, exc_bindM, pureD, runD, startE, endD, fuelI, List.map_cons, List.map_nil, List.length_cons, List.length_nil, List.length_append, List.replicate, List.cons_append, List.nil_append, List.append_nil, List.set_cons_zero, List.set_cons_succ, List.getElem?_cons_zero, List.getElem?_cons_succ, wipeE, List.foldr, Nat.reduceAdd, Nat.reduceSub, Nat.reduceLeDiff, Nat.zero_add, Nat.add_zero, Nat.reduceLT, if_true, if_false, ite_true, ite_false, reduceIte, Bool.false_eq_true, eq_self, opNe_int, opEq_int, opLt, opLe, opGt, opGe, opCmp, opSub, opNeg, opAdd_int, ixD, atI_0, atI_1, atI_2, bTuple, bList, opIsN, opNotN, tyN, isTy, String.reduceBEq, Bool.true_or, Bool.and_false, Bool.or_false, Bool.false_or, Bool.true_and, Bool.false_and, Bool.and_true, Bool.not_true, Bool.not_false, bIs, forL, stepS, Sl.va.injEq, decide_eq_true_eq, eFs]
  cases hs : isSo T fs with
  | true =>
    have := goes_loop h (w := .va (.tup (fs.map eF))) hf.2
    rw [if_pos hs] at this
    rw [this]
    simp only [sSeq, sSkip, sBreak, sCont, sSet, sDrop, sRet, sRetN, sIf, iteS, sPar, setAll, sAsg, Tg.bind, gotE, sNew, sApp, appL, ownD, sSeal, sealE, sVar, sC, sCons, sNil, sOp2, sOp1, sCall, sCb, sTup, mkT, sLst, mkL1, sLstF, capL, sTst, truD, sAnd, sOr, iteB, kB, sNot, sIfE, iteE, sAndV, andV, sOrV, orV, sNotV, notD, sIs, sFor, sWhile, iSeqS, itemsD, iRange, iZip, zipD, zip2D, iEnum, enumD, sComp, sVal, sCatF, catL, sListF, listL, sRef, sChain, chV, sSlice, sPart, sNoPart, intO, slD, sOwnIx, sOwnLen, sOwnPut, sTry, sPut, putD, pure_bindM, bad_bindM, exc_bindM, pureD, runD, startE, endD, fuelI, List.map_cons, List.map_nil, List.length_cons, List.length_nil, List.length_append, List.replicate, List.cons_append, List.nil_append, List.append_nil, List.set_cons_zero, List.set_cons_succ, List.getElem?_cons_zero, List.getElem?_cons_succ, wipeE, List.foldr, Nat.reduceAdd, Nat.reduceSub, Nat.reduceLeDiff, Nat.zero_add, Nat.add_zero, Nat.reduceLT, if_true, if_false, ite_true, ite_false, reduceIte, Bool.false_eq_true, eq_self, opNe_int, opEq_int, opLt, opLe, opGt, opGe, opCmp, opSub, opNeg, opAdd_int, ixD, atI_0, atI_1, atI_2, bTuple, bList, opIsN, opNotN, tyN, isTy, String.reduceBEq, Bool.true_or, Bool.and_false, Bool.or_false, Bool.false_or, Bool.true_and, Bool.false_and, Bool.and_true, Bool.not_true, Bool.not_false, bIs, forL, stepS, Sl.va.injEq, decide_eq_true_eq]
  | false =>
    obtain ⟨env', this⟩ := goes_bad h (w := .va (.tup (fs.map eF))) hf.2 hs
    rw [this]
    simp only [sSeq, sSkip, sBreak, sCont, sSet, sDrop, sRet, sRetN, sIf, iteS, sPar, setAll, sAsg, Tg.bind, gotE, sNew, sApp, appL, ownD, sSeal, sealE, sVar, sC, sCons, sNil, sOp2, sOp1, sCall, sCb, sTup, mkT, sLst, mkL1, sLstF, capL, sTst, truD, sAnd, sOr, iteB, kB, sNot, sIfE, iteE, sAndV, andV, sOrV, orV, sNotV, notD, sIs, sFor, sWhile, iSeqS, itemsD, iRange, iZip, zipD, zip2D, iEnum, enumD, sComp, sVal, sCatF, catL, sListF, listL, sRef, sChain, chV, sSlice, sPart, sNoPart, intO, slD, sOwnIx, sOwnLen, sOwnPut, sTry, sPut, putD, pure_bindM, bad_bindM, exc_bindM, pureD, runD, startE, endD, fuelI, List.map_cons, List.map_nil, List.length_cons, List.length_nil, List.length_append, List.replicate, List.cons_append, List.nil_append, List.append_nil, List.set_cons_zero, List.set_cons_succ, List.getElem?_cons_zero, List.getElem?_cons_succ, wipeE, List.foldr, Nat.reduceAdd, Nat.reduceSub, Nat.reduceLeDiff, Nat.zero_add, Nat.add_zero, Nat.reduceLT, if_true, if_false, ite_true, ite_false, reduceIte, Bool.false_eq_true, eq_self, opNe_int, opEq_int, opLt, opLe, opGt, opGe, opCmp, opSub, opNeg, opAdd_int, ixD, atI_0, atI_1, atI_2, bTuple, bList, opIsN, opNotN, tyN, isTy, String.reduceBEq, Bool.true_or, Bool.and_false, Bool.or_false, Bool.false_or, Bool.true_and, Bool.false_and, Bool.and_true, Bool.not_true, Bool.not_false, bIs, forL, stepS, Sl.va.injEq, decide_eq_true_eq]
end Dt

set_option maxHeartbeats 4000000
namespace Dt
open PySem PySem.Spec PyProof.Rows L2
/-! ### a step with another entry -/
def setQ (T : Stp) (i j : Nat) (e : Int) : Stp := ⟨T.b, T.rows.set i ((T.rows[i]?.getD []).set j e)⟩
def entQ (T : Stp) (i j : Nat) : Int := (T.rows[i]?.getD [])[j]?.getD 0
theorem cut_hi {ds : List D} {j : Nat} (h : j ≤ ds.length) : cutD ds none (some (j : Int)) = ds.take j := by
  unfold cutD
  rw [HT.sIx_none, HT.sIx_nat, Nat.min_eq_left h, List.drop_zero, Nat.sub_zero]
theorem cut_lo {ds : List D} {j : Nat} (h : j ≤ ds.length) : cutD ds (some (j : Int)) none = ds.drop j := by
  unfold cutD
  rw [HT.sIx_none, HT.sIx_nat, Nat.min_eq_left h]
  exact List.take_of_length_le (by rw [List.length_drop]; omega)
theorem cut_lo1 {ds : List D} {j : Nat} (h : j < ds.length) : cutD ds (some ((j : Int) + 1)) none = ds.drop (j + 1) := by
  have := cut_lo (ds := ds) (j := j + 1) h
  rwa [Int.natCast_add] at this
theorem set_cut {α : Type} {l : List α} {j : Nat} (h : j < l.length) (e : α) : l.take j ++ [e] ++ l.drop (j + 1) = l.set j e := by
  rw [List.set_eq_take_append_cons_drop, if_pos h, List.append_assoc]
  rfl
theorem atI_map {α : Type} (f : α → D) {l : List α} {j : Nat} {a : α} (h : l[j]? = some a) : atI (l.map f) (j : Int) = some (f a) := by
  have hj : j < l.length := (List.getElem?_eq_some_iff.mp h).1
  unfold atI
  rw [List.length_map, ixN_lt hj]
  show (l.map f)[j]? = _
  rw [List.getElem?_map, h]
  rfl
theorem e_with_entry {T : Stp} {i j : Nat} {e : Int} {r : List Int} (hr : T.rows[i]? = some r) (hj : j < r.length) (hl : T.rows.length ≤ 1000) (hl2 : r.length ≤ 1000) : m_with_entry [eT T, .int i, .int j, .int e] = M.pure (eT (setQ T i j e)) := by
  have hi : i < T.rows.length := (List.getElem?_eq_some_iff.mp hr).1
  have e1 := atI_map eR hr
  have j1 : j < (r.map D.int).length := by simpa using hj
  have i1 : i < (T.rows.map eR).length := by simpa using hi
  have c1 := cut_hi (ds := r.map D.int) (j := j) (by omega)
  have c2 := cut_lo1 (ds := r.map D.int) (j := j) j1
  have c3 := cut_hi (ds := T.rows.map eR) (j := i) (by omega)
  have c4 := cut_lo1 (ds := T.rows.map eR) (j := i) i1
  have a1 : opAdd (.tup ((r.map D.int).take j)) (.tup [.int e]) = M.pure (.tup ((r.map D.int).take j ++ [.int e])) := opAdd_tup (by simp; omega)
  have a2 : opAdd (.tup ((r.map D.int).take j ++ [.int e])) (.tup ((r.map D.int).drop (j + 1))) = M.pure (.tup ((r.set j e).map D.int)) := by
    rw [opAdd_tup (by simp; omega), set_cut j1, List.map_set]
  have a3 : opAdd (.tup ((T.rows.map eR).take i)) (.tup [eR (r.set j e)]) = M.pure (.tup ((T.rows.map eR).take i ++ [eR (r.set j e)])) := opAdd_tup (by simp; omega)
  have a4 : opAdd (.tup ((T.rows.map eR).take i ++ [eR (r.set j e)])) (.tup ((T.rows.map eR).drop (i + 1))) = M.pure (.tup ((T.rows.set i (r.set j e)).map eR)) := by
    rw [opAdd_tup (by simp; omega), set_cut i1, List.map_set]
  rw [show eR r = .tup (r.map .int) from rfl] at e1
  rw [show eR (r.set j e) = .tup ((r.set j e).map .int) from rfl] at a3 a4
  simp only [m_with_entry, F_with_entry, sSeq, sSkip, sBreak, sCont, sSet, sDrop, sRet, sRetN, sIf, iteS, sPar, setAll, sAsg, Tg.bind, gotE, sNew, sApp, appL, ownD, sSeal, sealE, sVar, sC, sCons, sNil, sOp2, sOp1, sCall, sCb, sTup, mkT, sLst, mkL1, sLstF, capL, sTst, truD, sAnd, sOr, iteB, kB, sNot, sIfE, iteE, sAndV, andV, sOrV, orV, sNotV, notD, sIs, sFor, sWhile, iSeqS, itemsD, iRange, iZip, zipD, zip2D, iEnum, enumD, sComp, sVal, sCatF, catL, sListF, listL, sRef, sChain, chV, sSlice, sPart, sNoPart, intO, slD, sOwnIx, sOwnLen, sOwnPut, sTry, sPut, putD, pure_bindM, bad_bindM, exc_bindM, pureD, runD, startE, endD, fuelI, List.map_cons, List.map_nil, List.length_cons, List.length_nil, List.length_append, List.replicate, List.cons_append, List.nil_append, List.append_nil, List.set_cons_zero, List.set_cons_succ, List.getElem?_cons_zero, List.getElem?_cons_succ, wipeE, List.foldr, Nat.reduceAdd, Nat.reduceSub, Nat.reduceLeDiff, Nat.zero_add, Nat.add_zero, Nat.reduceLT, if_true, if_false, ite_true, ite_false, reduceIte, Bool.false_eq_true, eq_self, opNe_int, opEq_int, opLt, opLe, opGt, opGe, opCmp, opSub, opNeg, opAdd_int, ixD, atI_0, atI_1, atI_2, bTuple, bList, opIsN, opNotN, tyN, isTy, String.reduceBEq, Bool.true_or, Bool.and_false, Bool.or_false, Bool.false_or, Bool.true_and, Bool.false_and, Bool.and_true, Bool.not_true, Bool.not_false, bIs, forL, stepS, Sl.va.injEq, decide_eq_true_eq, eT, setQ, e1, c1, c2, c3, c4, a1, a2, a3, a4, hr, Option.getD_some]
theorem StpOk.set {T : Stp} (h : StpOk T) {i j : Nat} {e : Int} (he : e.natAbs ≤ 9) : StpOk (setQ T i j e) := by
  by_cases hi : i < T.rows.length
  · have hr : T.rows[i]? = some T.rows[i] := List.getElem?_eq_getElem hi
    have hm : T.rows[i] ∈ T.rows := List.getElem_mem hi
    refine ⟨h.b1, h.b9, by simpa [setQ] using h.n1, by simpa [setQ] using h.n3, fun r hr2 => ?_, fun r hr2 => ?_⟩
    · simp only [setQ, hr, Option.getD_some, List.length_set] at hr2 ⊢
      rcases List.mem_or_eq_of_mem_set hr2 with h1 | h1
      · exact h.len r h1
      · rw [h1, List.length_set]
        exact h.len _ hm
    · simp only [setQ, hr, Option.getD_some] at hr2
      rcases List.mem_or_eq_of_mem_set hr2 with h1 | h1
      · exact h.ent r h1
      · intro x hx
        rw [h1] at hx
        rcases List.mem_or_eq_of_mem_set hx with h2 | h2
        · exact h.ent _ hm x h2
        · rw [h2]
          exact he
  · have : T.rows.set i ((T.rows[i]?.getD []).set j e) = T.rows := List.set_eq_of_length_le (by omega)
    rw [show setQ T i j e = T from by unfold setQ; rw [this]]
    exact h
/-! ### loops that add to a list -/
theorem forL_acc {α : Type} {t : Tg} {wp : List Nat} {body : SS} {P : List D → Env} (c : α → D) (f : α → List D) : ∀ (ds : List α) (acc : List D), acc.length + (ds.flatMap f).length ≤ 1000000 → (∀ d ∈ ds, ∀ acc : List D, acc.length + (f d).length ≤ 1000000 → ∃ e1 e2, t.bind (c d) (P acc) = some e1 ∧ body e1 = M.pure (.nx, e2) ∧ wipeE wp e2 = P (acc ++ f d)) → forL t wp body (ds.map c) (P acc) = M.pure (.nx, P (acc ++ ds.flatMap f))
  | [], acc, hl, h => by simp only [List.map_nil, forL, List.flatMap_nil, List.append_nil]
  | d :: ds, acc, hl, h => by
    simp only [List.flatMap_cons, List.length_append] at hl
    obtain ⟨e1, e2, h1, h2, h3⟩ := h d (by simp) acc (by omega)
    have ih := forL_acc (wp := wp) (body := body) (t := t) (P := P) c f ds (acc ++ f d) (by rw [List.length_append]; omega) (fun d hd => h d (by simp [hd]))
    simp only [List.map_cons, forL, h1, gotE, pure_bindM, h2, stepS, h3, ih, List.flatMap_cons, List.append_assoc]
theorem flat_len {α : Type} (f : α → List D) {n : Nat} (h : ∀ a, (f a).length ≤ n) : ∀ l : List α, (l.flatMap f).length ≤ n * l.length
  | [] => Nat.zero_le _
  | a :: l => by
    have := flat_len f h l
    have := h a
    simp only [List.flatMap_cons, List.length_append, List.length_cons, Nat.mul_add, Nat.mul_one]
    omega
theorem enum_map {α : Type} (f : α → D) : ∀ (l : List α) (n : Nat), enumL n (l.map f) = (l.zipIdx n).map fun x => .tup [.int (x.2 : Nat), f x.1]
  | [], n => rfl
  | a :: l, n => by
    simp only [List.map_cons, enumL, List.zipIdx_cons, enum_map f l (n + 1)]
def ent19 : List Int := (List.range 19).map fun i : Nat => (-9 : Int) + (i : Int)
def told1 (T : Stp) (fs : List Fct) (i j : Nat) (old : Int) (m : Int) : List D := if m ≠ old ∧ isSo (setQ T i j m) fs = true then [.tup [.int i, .int j, .int m]] else []
def told2 (T : Stp) (fs : List Fct) (i : Nat) (x : Int × Nat) : List D := ent19.flatMap (told1 T fs i x.2 x.1)
def told3 (T : Stp) (fs : List Fct) (x : List Int × Nat) : List D := (x.1.zipIdx 0).flatMap (told2 T fs x.2)
def toldQ (T : Stp) (fs : List Fct) : List D := (T.rows.zipIdx 0).flatMap (told3 T fs)
theorem told1_len (T : Stp) (fs : List Fct) (i j : Nat) (old m : Int) : (told1 T fs i j old m).length ≤ 1 := by
  unfold told1
  split <;> simp
theorem told2_len (T : Stp) (fs : List Fct) (i : Nat) (x : Int × Nat) : (told2 T fs i x).length ≤ 19 := flat_len _ (told1_len T fs i x.2 x.1) ent19
theorem ent19_mem {m : Int} (h : m ∈ ent19) : m.natAbs ≤ 9 := by
  obtain ⟨k, hk, rfl⟩ := List.mem_map.mp h
  have := List.mem_range.mp hk
  omega
theorem range_ent : rangeS [.int (-9), .int (9 + 1)] = M.pure (ent19.map D.int) := rfl
theorem told_loop0 {T : Stp} (h : StpOk T) {fs : List Fct} (hf : FOk fs) {i j : Nat} {r : List Int} (hr : T.rows[i]? = some r) (hj : j < r.length) {old : Int} {v4 : Sl} (acc : List D) (hl : acc.length + (ent19.flatMap (told1 T fs i j old)).length ≤ 1000000) : forL (.nm 7) [7] L_entries_told_0 (ent19.map D.int) [.va (eT T), .va (eFs fs), .ow acc, .va (.int i), v4, .va (.int j), .va (.int old), .no] = M.pure (.nx, [.va (eT T), .va (eFs fs), .ow (acc ++ ent19.flatMap (told1 T fs i j old)), .va (.int i), v4, .va (.int j), .va (.int old), .no]) := by
  have hm : r ∈ T.rows := List.mem_of_getElem? hr
  have hrl : r.length ≤ 1000 := by have := h.len r hm; have := h.n3; omega
  refine forL_acc (P := fun acc => [.va (eT T), .va (eFs fs), .ow acc, .va (.int i), v4, .va (.int j), .va (.int old), .no]) D.int (told1 T fs i j old) ent19 acc hl (fun m hm acc hl => ?_)
  have ew := e_with_entry (T := T) (i := i) (j := j) (e := m) hr hj (by have := h.n3; omega) hrl
  have es := e_is_so (h.set (i := i) (j := j) (ent19_mem hm)) hf
  by_cases ho : m = old
  · refine ⟨_, [.va (eT T), .va (eFs fs), .ow acc, .va (.int i), v4, .va (.int j), .va (.int old), .va (.int m)], rfl, ?_, ?_⟩
    · simp only [L_entries_told_0, sSeq, sSkip, sBreak, sCont, sSet, sDrop, sRet, sRetN, sIf, iteS, sPar, setAll, sAsg, Tg.bind, gotE, sNew, sApp, appL, ownD, sSeal, sealE, sVar, sC, sCons, sNil, sOp2, sOp1, sCall, sCb, sTup, mkT, sLst, mkL1, sLstF, capL, sTst, truD, sAnd, sOr, iteB, kB, sNot, sIfE, iteE, sAndV, andV, sOrV, orV, sNotV, notD, sIs, sFor, sWhile, iSeqS, itemsD, iRange, iZip, zipD, zip2D, iEnum, enumD, sComp, sVal, sCatF, catL, sListF, listL, sRef, sChain, chV, sSlice, sPart, sNoPart, intO, slD, sOwnIx, sOwnLen, sOwnPut, sTry, sPut, putD, pure_bindM, bad_bindM, exc_bindM, pureD, runD, startE, endD, fuelI, List.map_cons, List.map_nil, List.length_cons, List.length_nil, List.length_append, List.replicate, List.cons_append, List.nil_append, List.append_nil, List.set_cons_zero, List.set_cons_succ, List.getElem?_cons_zero, List.getElem?_cons_succ, wipeE, List.foldr, Nat.reduceAdd, Nat.reduceSub, Nat.reduceLeDiff, Nat.zero_add, Nat.add_zero, Nat.reduceLT, if_true, if_false, ite_true, ite_false, reduceIte, Bool.false_eq_true, eq_self, opNe_int, opEq_int, opLt, opLe, opGt, opGe, opCmp, opSub, opNeg, opAdd_int, ixD, atI_0, atI_1, atI_2, bTuple, bList, opIsN, opNotN, tyN, isTy, String.reduceBEq, Bool.true_or, Bool.and_false, Bool.or_false, Bool.false_or, Bool.true_and, Bool.false_and, Bool.and_true, Bool.not_true, Bool.not_false, bIs, forL, stepS, Sl.va.injEq, decide_eq_true_eq, ho, beq_self_eq_true]
    · simp only [sSeq, sSkip, sBreak, sCont, sSet, sDrop, sRet, sRetN, sIf, iteS, sPar, setAll, sAsg, Tg.bind, gotE, sNew, sApp, appL, ownD, sSeal, sealE, sVar, sC, sCons, sNil, sOp2, sOp1, sCall, sCb, sTup, mkT, sLst, mkL1, sLstF, capL, sTst, truD, sAnd, sOr, iteB, kB, sNot, sIfE, iteE, sAndV, andV, sOrV, orV, sNotV, notD, sIs, sFor, sWhile, iSeqS, itemsD, iRange, iZip, zipD, zip2D, iEnum, enumD, sComp, sVal, sCatF, catL, sListF, listL, sRef, sChain, chV, sSlice, sPart, sNoPart, intO, slD, sOwnIx, sOwnLen, sOwnPut, sTry, sPut, putD, pure_bindM, bad_bindM, exc_bindM, pureD, runD, startE, endD, fuelI, List.map_cons, List.map_nil, List.length_cons, List.length_nil, List.length_append, List.replicate, List.cons_append, List.nil_append, List.append_nil, List.set_cons_zero, List.set_cons_succ, List.getElem?_cons_zero, List.getElem?_cons_succ, wipeE, List.foldr, Nat.reduceAdd, Nat.reduceSub, Nat.reduceLeDiff, Nat.zero_add, Nat.add_zero, Nat.reduceLT, if_true, if_false, ite_true, ite_false, reduceIte, Bool.false_eq_true, eq_self, opNe_int, opEq_int, opLt, opLe, opGt, opGe, opCmp, opSub, opNeg, opAdd_int, ixD, atI_0, atI_1, atI_2, bTuple, bList, opIsN, opNotN, tyN, isTy, String.reduceBEq, Bool.true_or, Bool.and_false, Bool.or_false, Bool.false_or, Bool.true_and, Bool.false_and, Bool.and_true, Bool.not_true, Bool.not_false, bIs, forL, stepS, Sl.va.injEq, decide_eq_true_eq, told1, ho, ne_eq, not_true_eq_false, false_and]
  · have hb : (m == old) = false := by simpa using ho
    cases hs : isSo (setQ T i j m) fs with
    | false =>
      rw [hs] at es
      refine ⟨_, [.va (eT T), .va (eFs fs), .ow acc, .va (.int i), v4, .va (.int j), .va (.int old), .va (.int m)], rfl, ?_, ?_⟩
      · simp only [L_entries_told_0, sSeq, sSkip, sBreak, sCont, sSet, sDrop, sRet, sRetN, sIf, iteS, sPar, setAll, sAsg, Tg.bind, gotE, sNew, sApp, appL, ownD, sSeal, sealE, sVar, sC, sCons, sNil, sOp2, sOp1, sCall, sCb, sTup, mkT, sLst, mkL1, sLstF, capL, sTst, truD, sAnd, sOr, iteB, kB, sNot, sIfE, iteE, sAndV, andV, sOrV, orV, sNotV, notD, sIs, sFor, sWhile, iSeqS, itemsD, iRange, iZip, zipD, zip2D, iEnum, enumD, sComp, sVal, sCatF, catL, sListF, listL, sRef, sChain, chV, sSlice, sPart, sNoPart, intO, slD, sOwnIx, sOwnLen, sOwnPut, sTry, sPut, putD, pure_bindM, bad_bindM, exc_bindM, pureD, runD, startE, endD, fuelI, List.map_cons, List.map_nil, List.length_cons, List.length_nil, List.length_append, List.replicate, List.cons_append, List.nil_append, List.append_nil, List.set_cons_zero, List.set_cons_succ, List.getElem?_cons_zero, List.getElem?_cons_succ, wipeE, List.foldr, Nat.reduceAdd, Nat.reduceSub, Nat.reduceLeDiff, Nat.zero_add, Nat.add_zero, Nat.reduceLT, if_true, if_false, ite_true, ite_false, reduceIte, Bool.false_eq_true, eq_self, opNe_int, opEq_int, opLt, opLe, opGt, opGe, opCmp, opSub, opNeg, opAdd_int, ixD, atI_0, atI_1, atI_2, bTuple, bList, opIsN, opNotN, tyN, isTy, String.reduceBEq, Bool.true_or, Bool.and_false, Bool.or_false, Bool.false_or, Bool.true_and, Bool.false_and, Bool.and_true, Bool.not_true, Bool.not_false, bIs, forL, stepS, Sl.va.injEq, decide_eq_true_eq, hb, ew, es]
      · simp only [sSeq, sSkip, sBreak, sCont, sSet, sDrop, sRet, sRetN, sIf, iteS, sPar, setAll, sAsg, Tg.bind, gotE, sNew, sApp, appL, ownD, sSeal, sealE, sVar, sC, sCons, sNil, sOp2, sOp1, sCall, sCb, sTup, mkT, sLst, mkL1, sLstF, capL, sTst, truD, sAnd, sOr, iteB, kB, sNot, sIfE, iteE, sAndV, andV, sOrV, orV, sNotV, notD, sIs, sFor, sWhile, iSeqS, itemsD, iRange, iZip, zipD, zip2D, iEnum, enumD, sComp, sVal, sCatF, catL, sListF, listL, sRef, sChain, chV, sSlice, sPart, sNoPart, intO, slD, sOwnIx, sOwnLen, sOwnPut, sTry, sPut, putD, pure_bindM, bad_bindM, exc_bindM, pureD, runD, startE, endD, fuelI, List.map_cons, List.map_nil, List.length_cons, List.length_nil, List.length_append, List.replicate, List.cons_append, List.nil_append, List.append_nil, List.set_cons_zero, List.set_cons_succ, List.getElem?_cons_zero, List.getElem?_cons_succ, wipeE, List.foldr, Nat.reduceAdd, Nat.reduceSub, Nat.reduceLeDiff, Nat.zero_add, Nat.add_zero, Nat.reduceLT, if_true, if_false, ite_true, ite_false, reduceIte, Bool.false_eq_true, eq_self, opNe_int, opEq_int, opLt, opLe, opGt, opGe, opCmp, opSub, opNeg, opAdd_int, ixD, atI_0, atI_1, atI_2, bTuple, bList, opIsN, opNotN, tyN, isTy, String.reduceBEq, Bool.true_or, Bool.and_false, Bool.or_false, Bool.false_or, Bool.true_and, Bool.false_and, Bool.and_true, Bool.not_true, Bool.not_false, bIs, forL, stepS, Sl.va.injEq, decide_eq_true_eq, told1, hs, and_false]
    | true =>
      rw [hs] at es
      have ht : told1 T fs i j old m = [.tup [.int i, .int j, .int m]] := by
        unfold told1
        rw [if_pos ⟨ho, hs⟩]
      rw [ht] at hl ⊢
      have hal : acc.length < 1000000 := by simp at hl; omega
      refine ⟨_, [.va (eT T), .va (eFs fs), .ow (acc ++ [.tup [.int i, .int j, .int m]]), .va (.int i), v4, .va (.int j), .va (.int old), .va (.int m)], rfl, ?_, ?_⟩
      · simp only [L_entries_told_0, sSeq, sSkip, sBreak, sCont, sSet, sDrop, sRet, sRetN, sIf, iteS, sPar, setAll, sAsg, Tg.bind, gotE, sNew, sApp, appL, ownD, sSeal, sealE, sVar, sC, sCons, sNil, sOp2, sOp1, sCall, sCb, sTup, mkT, sLst, mkL1, sLstF, capL, sTst, truD, sAnd, sOr, iteB, kB, sNot, sIfE, iteE, sAndV, andV, sOrV, orV, sNotV, notD, sIs, sFor, sWhile, iSeqS, itemsD, iRange, iZip, zipD, zip2D, iEnum, enumD, sComp, sVal, sCatF, catL, sListF, listL, sRef, sChain, chV, sSlice, sPart, sNoPart, intO, slD, sOwnIx, sOwnLen, sOwnPut, sTry, sPut, putD, pure_bindM, bad_bindM, exc_bindM, pureD, runD, startE, endD, fuelI, List.map_cons, List.map_nil, List.length_cons, List.length_nil, List.length_append, List.replicate, List.cons_append, List.nil_append, List.append_nil, List.set_cons_zero, List.set_cons_succ, List.getElem?_cons_zero, List.getElem?_cons_succ, wipeE, List.foldr, Nat.reduceAdd, Nat.reduceSub, Nat.reduceLeDiff, Nat.zero_add, Nat.add_zero, Nat.reduceLT, if_true, if_false, ite_true, ite_false, reduceIte, Bool.false_eq_true, eq_self, opNe_int, opEq_int, opLt, opLe, opGt, opGe, opCmp, opSub, opNeg, opAdd_int, ixD, atI_0, atI_1, atI_2, bTuple, bList, opIsN, opNotN, tyN, isTy, String.reduceBEq, Bool.true_or, Bool.and_false, Bool.or_false, Bool.false_or, Bool.true_and, Bool.false_and, Bool.and_true, Bool.not_true, Bool.not_false, bIs, forL, stepS, Sl.va.injEq, decide_eq_true_eq, hb, ew, es, hal]
      · simp only [sSeq, sSkip, sBreak, sCont, sSet, sDrop, sRet, sRetN, sIf, iteS, sPar, setAll, sAsg, Tg.bind, gotE, sNew, sApp, appL, ownD, sSeal, sealE, sVar, sC, sCons, sNil, sOp2, sOp1, sCall, sCb, sTup, mkT, sLst, mkL1, sLstF, capL, sTst, truD, sAnd, sOr, iteB, kB, sNot, sIfE, iteE, sAndV, andV, sOrV, orV, sNotV, notD, sIs, sFor, sWhile, iSeqS, itemsD, iRange, iZip, zipD, zip2D, iEnum, enumD, sComp, sVal, sCatF, catL, sListF, listL, sRef, sChain, chV, sSlice, sPart, sNoPart, intO, slD, sOwnIx, sOwnLen, sOwnPut, sTry, sPut, putD, pure_bindM, bad_bindM, exc_bindM, pureD, runD, startE, endD, fuelI, List.map_cons, List.map_nil, List.length_cons, List.length_nil, List.length_append, List.replicate, List.cons_append, List.nil_append, List.append_nil, List.set_cons_zero, List.set_cons_succ, List.getElem?_cons_zero, List.getElem?_cons_succ, wipeE, List.foldr, Nat.reduceAdd, Nat.reduceSub, Nat.reduceLeDiff, Nat.zero_add, Nat.add_zero, Nat.reduceLT, if_true, if_false, ite_true, ite_false, reduceIte, Bool.false_eq_true, eq_self, opNe_int, opEq_int, opLt, opLe, opGt, opGe, opCmp, opSub, opNeg, opAdd_int, ixD, atI_0, atI_1, atI_2, bTuple, bList, opIsN, opNotN, tyN, isTy, String.reduceBEq, Bool.true_or, Bool.and_false, Bool.or_false, Bool.false_or, Bool.true_and, Bool.false_and, Bool.and_true, Bool.not_true, Bool.not_false, bIs, forL, stepS, Sl.va.injEq, decide_eq_true_eq]
theorem told_loop1 {T : Stp} (h : StpOk T) {fs : List Fct} (hf : FOk fs) {i : Nat} {r : List Int} (hr : T.rows[i]? = some r) {v4 : Sl} (acc : List D) (hl : acc.length + ((r.zipIdx 0).flatMap (told2 T fs i)).length ≤ 1000000) : forL (.tp [5, 6]) [5, 6, 7] L_entries_told_1 (enumL 0 (r.map D.int)) [.va (eT T), .va (eFs fs), .ow acc, .va (.int i), v4, .no, .no, .no] = M.pure (.nx, [.va (eT T), .va (eFs fs), .ow (acc ++ (r.zipIdx 0).flatMap (told2 T fs i)), .va (.int i), v4, .no, .no, .no]) := by
  rw [enum_map]
  refine forL_acc (P := fun acc => [.va (eT T), .va (eFs fs), .ow acc, .va (.int i), v4, .no, .no, .no]) (fun x : Int × Nat => D.tup [.int (x.2 : Nat), .int x.1]) (told2 T fs i) (r.zipIdx 0) acc hl (fun x hx acc hl => ?_)
  obtain ⟨old, j⟩ := x
  have hj : j < r.length := by
    have := List.mem_zipIdx hx
    omega
  have lo := told_loop0 h hf hr hj (old := old) (v4 := v4) acc hl
  refine ⟨_, [.va (eT T), .va (eFs fs), .ow (acc ++ told2 T fs i (old, j)), .va (.int i), v4, .va (.int j), .va (.int old), .no], rfl, ?_, rfl⟩
  simp only [L_entries_told_1, sSeq, sSkip, sBreak, sCont, sSet, sDrop, sRet, sRetN, sIf, iteS, sPar, setAll, sAsg, Tg.bind, gotE, sNew, sApp, appL, ownD, sSeal, sealE, sVar, sC, sCons, sNil, sOp2, sOp1, sCall, sCb, sTup, mkT, sLst, mkL1, sLstF, capL, sTst, truD, sAnd, sOr, iteB, kB, sNot, sIfE, iteE, sAndV, andV, sOrV, orV, sNotV, notD, sIs, sFor, sWhile, iSeqS, itemsD, iRange, iZip, zipD, zip2D, iEnum, enumD, sComp, sVal, sCatF, catL, sListF, listL, sRef, sChain, chV, sSlice, sPart, sNoPart, intO, slD, sOwnIx, sOwnLen, sOwnPut, sTry, sPut, putD, pure_bindM, bad_bindM, exc_bindM, pureD, runD, startE, endD, fuelI, List.map_cons, List.map_nil, List.length_cons, List.length_nil, List.length_append, List.replicate, List.cons_append, List.nil_append, List.append_nil, List.set_cons_zero, List.set_cons_succ, List.getElem?_cons_zero, List.getElem?_cons_succ, wipeE, List.foldr, Nat.reduceAdd, Nat.reduceSub, Nat.reduceLeDiff, Nat.zero_add, Nat.add_zero, Nat.reduceLT, if_true, if_false, ite_true, ite_false, reduceIte, Bool.false_eq_true, eq_self, opNe_int, opEq_int, opLt, opLe, opGt, opGe, opCmp, opSub, opNeg, opAdd_int, ixD, atI_0, atI_1, atI_2, bTuple, bList, opIsN, opNotN, tyN, isTy, String.reduceBEq, Bool.true_or, Bool.and_false, Bool.or_false, Bool.false_or, Bool.true_and, Bool.false_and, Bool.and_true, Bool.not_true, Bool.not_false, bIs, forL, stepS, Sl.va.injEq, decide_eq_true_eq, range_ent, lo]
  rfl
theorem told_loop2 {T : Stp} (h : StpOk T) {fs : List Fct} (hf : FOk fs) (hl : (toldQ T fs).length ≤ 1000000) : forL (.tp [3, 4]) [3, 4, 5, 6, 7] L_entries_told_2 (enumL 0 (T.rows.map eR)) [.va (eT T), .va (eFs fs), .ow [], .no, .no, .no, .no, .no] = M.pure (.nx, [.va (eT T), .va (eFs fs), .ow (toldQ T fs), .no, .no, .no, .no, .no]) := by
  rw [enum_map]
  refine forL_acc (P := fun acc => [.va (eT T), .va (eFs fs), .ow acc, .no, .no, .no, .no, .no]) (fun x : List Int × Nat => D.tup [.int (x.2 : Nat), eR x.1]) (told3 T fs) (T.rows.zipIdx 0) [] (by simpa [toldQ] using hl) (fun x hx acc hl => ?_)
  obtain ⟨r, i⟩ := x
  have hr : T.rows[i]? = some r := List.mk_mem_zipIdx_iff_getElem?.mp hx
  have lo := told_loop1 h hf hr (v4 := .va (eR r)) acc hl
  refine ⟨_, [.va (eT T), .va (eFs fs), .ow (acc ++ told3 T fs (r, i)), .va (.int i), .va (eR r), .no, .no, .no], rfl, ?_, rfl⟩
  rw [show eR r = .tup (r.map .int) from rfl] at lo ⊢
  simp only [L_entries_told_2, sSeq, sSkip, sBreak, sCont, sSet, sDrop, sRet, sRetN, sIf, iteS, sPar, setAll, sAsg, Tg.bind, gotE, sNew, sApp, appL, ownD, sSeal, sealE, sVar, sC, sCons, sNil, sOp2, sOp1, sCall, sCb, sTup, mkT, sLst, mkL1, sLstF, capL, sTst, truD, sAnd, sOr, iteB, kB, sNot, sIfE, iteE, sAndV, andV, sOrV, orV, sNotV, notD, sIs, sFor, sWhile, iSeqS, itemsD, iRange, iZip, zipD, zip2D, iEnum, enumD, sComp, sVal, sCatF, catL, sListF, listL, sRef, sChain, chV, sSlice, sPart, sNoPart, intO, slD, sOwnIx, sOwnLen, sOwnPut, sTry, sPut, putD, pure_bindM, bad_bindM, exc_bindM, pureD, runD, startE, endD, fuelI, List.map_cons, List.map_nil, List.length_cons, List.length_nil, List.length_append, List.replicate, List.cons_append, List.nil_append, List.append_nil, List.set_cons_zero, List.set_cons_succ, List.getElem?_cons_zero, List.getElem?_cons_succ, wipeE, List.foldr, Nat.reduceAdd, Nat.reduceSub, Nat.reduceLeDiff, Nat.zero_add, Nat.add_zero, Nat.reduceLT, if_true, if_false, ite_true, ite_false, reduceIte, Bool.false_eq_true, eq_self, opNe_int, opEq_int, opLt, opLe, opGt, opGe, opCmp, opSub, opNeg, opAdd_int, ixD, atI_0, atI_1, atI_2, bTuple, bList, opIsN, opNotN, tyN, isTy, String.reduceBEq, Bool.true_or, Bool.and_false, Bool.or_false, Bool.false_or, Bool.true_and, Bool.false_and, Bool.and_true, Bool.not_true, Bool.not_false, bIs, forL, stepS, Sl.va.injEq, decide_eq_true_eq, lo]
  rfl
theorem told3_len {T : Stp} (fs : List Fct) {x : List Int × Nat} (hx : x.1.length ≤ 3) : (told3 T fs x).length ≤ 57 := by
  have := flat_len _ (told2_len T fs x.2) (x.1.zipIdx 0)
  rw [List.length_zipIdx] at this
  unfold told3
  omega
theorem flat_len2 {α : Type} (f : α → List D) {n : Nat} : ∀ l : List α, (∀ a ∈ l, (f a).length ≤ n) → (l.flatMap f).length ≤ n * l.length
  | [], h => Nat.zero_le _
  | a :: l, h => by
    have := flat_len2 f l (fun a ha => h a (by simp [ha]))
    have := h a (by simp)
    simp only [List.flatMap_cons, List.length_append, List.length_cons, Nat.mul_add, Nat.mul_one]
    omega
theorem toldQ_len {T : Stp} (h : StpOk T) (fs : List Fct) : (toldQ T fs).length ≤ 200 := by
  have := flat_len2 (told3 T fs) (n := 57) (T.rows.zipIdx 0) (fun x hx => told3_len fs (by
    have hr : T.rows[x.2]? = some x.1 := List.mk_mem_zipIdx_iff_getElem?.mp hx
    have := h.len x.1 (List.mem_of_getElem? hr)
    have := h.n3
    omega))
  rw [List.length_zipIdx] at this
  have := h.n3
  unfold toldQ
  omega
theorem pl_map {α : Type} (f : α → D) (h : ∀ a, plD (f a) = true) : ∀ l : List α, plDs (l.map f) = true
  | [] => rfl
  | a :: l => by simp only [List.map_cons, plDs, h a, pl_map f h l, Bool.and_self]
theorem pl_eR (r : List Int) : plD (eR r) = true := pl_map D.int (fun _ => rfl) r
theorem pl_eS (s : List Rat) : plD (eS s) = true := pl_map eQ (fun _ => rfl) s
theorem pl_eT (T : Stp) : plD (eT T) = true := by
  show (true && (plDs (T.rows.map eR) && true)) = true
  rw [pl_map eR pl_eR]
  rfl
theorem pl_eF (f : Fct) : plD (eF f) = true := by
  show (plD (eS f.s) && (true && (plD (eS f.e) && true))) = true
  rw [pl_eS, pl_eS]
  rfl
theorem pl_eFs (fs : List Fct) : plD (eFs fs) = true := pl_map eF pl_eF fs
theorem all_map {α : Type} (f : α → D) (p : D → Bool) {l : List α} (h : ∀ a ∈ l, p (f a) = true) : (l.map f).all p = true := by
  rw [List.all_map, List.all_eq_true]
  exact h
theorem isStep_eT {T : Stp} (h : StpOk T) : isStep (eT T) = true := by
  have h1 := h.b1
  have h2 := h.b9
  show (isW 1 9 (.int T.b) && (decide (1 ≤ (T.rows.map eR).length) && decide ((T.rows.map eR).length ≤ 3) && (T.rows.map eR).all (isRow (T.rows.map eR).length))) = true
  rw [List.length_map, all_map eR _ (fun r hr => by
    show ((r.map D.int).length == T.rows.length && (r.map D.int).all (isW (-9) 9)) = true
    rw [List.length_map, h.len r hr, all_map D.int _ (fun e he => by
      have := h.ent r hr e he
      show (decide _ && decide _) = true
      rw [decide_eq_true (by omega), decide_eq_true (by omega)]
      rfl)]
    simp)]
  rw [decide_eq_true h.n1, decide_eq_true h.n3]
  show ((decide _ && decide _) && _) = true
  rw [decide_eq_true h1, decide_eq_true h2]
  rfl
theorem e_need_step_ok {T : Stp} (h : StpOk T) : m_need_step [eT T] = M.pure .non := by
  rw [e_need_step (pl_eT T), isStep_eT h]
  rfl
theorem e_need_facts_ok {T : Stp} (h : StpOk T) {fs : List Fct} (hv : isFacts T.rows.length (eFs fs) = true) : m_need_facts [eT T, eFs fs] = M.pure .non := by
  have := e_need_facts (pl_eFs fs) (b := .int T.b) (rows := T.rows.map eR) (by have := h.n3; simp; omega)
  rw [List.length_map, hv] at this
  exact this
theorem e_entries_told {T : Stp} (h : StpOk T) {fs : List Fct} (hf : FOk fs) (hv : isFacts T.rows.length (eFs fs) = true) : m_entries_told [eT T, eFs fs] = M.pure (.lst (toldQ T fs)) := by
  have lo := told_loop2 h hf (by have := toldQ_len h fs; omega)
  have e1 := e_need_step_ok h
  have e2 := e_need_facts_ok h hv
  rw [show eT T = .tup [.int T.b, .tup (T.rows.map eR)] from rfl] at lo e1 e2 ⊢
  simp only [m_entries_told, F_entries_told, sSeq, sSkip, sBreak, sCont, sSet, sDrop, sRet, sRetN, sIf, iteS, sPar, setAll, sAsg, Tg.bind, gotE, sNew, sApp, appL, ownD, sSeal, sealE, sVar, sC, sCons, sNil, sOp2, sOp1, sCall, sCb, sTup, mkT, sLst, mkL1, sLstF, capL, sTst, truD, sAnd, sOr, iteB, kB, sNot, sIfE, iteE, sAndV, andV, sOrV, orV, sNotV, notD, sIs, sFor, sWhile, iSeqS, itemsD, iRange, iZip, zipD, zip2D, iEnum, enumD, sComp, sVal, sCatF, catL, sListF, listL, sRef, sChain, chV, sSlice, sPart, sNoPart, intO, slD, sOwnIx, sOwnLen, sOwnPut, sTry, sPut, putD, pure_bindM, bad_bindM, exc_bindM, pureD, runD, startE, endD, fuelI, List.map_cons, List.map_nil, List.length_cons, List.length_nil, List.length_append, List.replicate, List.cons_append, List.nil_append, List.append_nil, List.set_cons_zero, List.set_cons_succ, List.getElem?_cons_zero, List.getElem?_cons_succ, wipeE, List.foldr, Nat.reduceAdd, Nat.reduceSub, Nat.reduceLeDiff, Nat.zero_add, Nat.add_zero, Nat.reduceLT, if_true, if_false, ite_true, ite_false, reduceIte, Bool.false_eq_true, eq_self, opNe_int, opEq_int, opLt, opLe, opGt, opGe, opCmp, opSub, opNeg, opAdd_int, ixD, atI_0, atI_1, atI_2, bTuple, bList, opIsN, opNotN, tyN, isTy, String.reduceBEq, Bool.true_or, Bool.and_false, Bool.or_false, Bool.false_or, Bool.true_and, Bool.false_and, Bool.and_true, Bool.not_true, Bool.not_false, bIs, forL, stepS, Sl.va.injEq, decide_eq_true_eq, e1, e2, lo]
theorem e_goes_with {T : Stp} (h : StpOk T) {fs : List Fct} (hf : FOk fs) (hv : isFacts T.rows.length (eFs fs) = true) : m_goes_with [eT T, eFs fs] = M.pure (.bl (isSo T fs)) := by
  have e1 := e_need_step_ok h
  have e2 := e_need_facts_ok h hv
  have e3 := e_is_so h hf
  simp only [m_goes_with, F_goes_with, sSeq, sSkip, sBreak, sCont, sSet, sDrop, sRet, sRetN, sIf, iteS, sPar, setAll, sAsg, Tg.bind, gotE, sNew, sApp, appL, ownD, sSeal, sealE, sVar, sC, sCons, sNil, sOp2, sOp1, sCall, sCb, sTup, mkT, sLst, mkL1, sLstF, capL, sTst, truD, sAnd, sOr, iteB, kB, sNot, sIfE, iteE, sAndV, andV, sOrV, orV, sNotV, notD, sIs, sFor, sWhile, iSeqS, itemsD, iRange, iZip, zipD, zip2D, iEnum, enumD, sComp, sVal, sCatF, catL, sListF, listL, sRef, sChain, chV, sSlice, sPart, sNoPart, intO, slD, sOwnIx, sOwnLen, sOwnPut, sTry, sPut, putD, pure_bindM, bad_bindM, exc_bindM, pureD, runD, startE, endD, fuelI, List.map_cons, List.map_nil, List.length_cons, List.length_nil, List.length_append, List.replicate, List.cons_append, List.nil_append, List.append_nil, List.set_cons_zero, List.set_cons_succ, List.getElem?_cons_zero, List.getElem?_cons_succ, wipeE, List.foldr, Nat.reduceAdd, Nat.reduceSub, Nat.reduceLeDiff, Nat.zero_add, Nat.add_zero, Nat.reduceLT, if_true, if_false, ite_true, ite_false, reduceIte, Bool.false_eq_true, eq_self, opNe_int, opEq_int, opLt, opLe, opGt, opGe, opCmp, opSub, opNeg, opAdd_int, ixD, atI_0, atI_1, atI_2, bTuple, bList, opIsN, opNotN, tyN, isTy, String.reduceBEq, Bool.true_or, Bool.and_false, Bool.or_false, Bool.false_or, Bool.true_and, Bool.false_and, Bool.and_true, Bool.not_true, Bool.not_false, bIs, forL, stepS, Sl.va.injEq, decide_eq_true_eq, e1, e2, e3]
end Dt

set_option maxHeartbeats 4000000
namespace Dt
open PySem PySem.Spec PyProof.Rows L2
/-! ### the deck -/
theorem ixN_30 : ixN 3 0 = some 0 := rfl
theorem ixN_32 : ixN 3 2 = some 2 := rfl
theorem ixRef {st : Sto} {k : Nat} {i : Int} {ds : List D} {d : D} (h : st[k]? = some (.lst ds)) (h2 : atI ds i = some d) : ixD (.ref k) (.int i) st = .ok d st := by
  simp only [ixD, h, h2]
theorem opPow_int {i : Int} {j : Nat} (h : i.natAbs < 2 ^ 64) (hj : j ≤ 1000) : opPow (.int i) (.int j) = M.pure (.int (i ^ j)) := by
  show (if 0 ≤ (j : Int) ∧ (j : Int) ≤ 1000 ∧ i.natAbs < 2 ^ 64 then M.pure (D.int (i ^ (j : Int).toNat)) else M.bad) = _
  rw [if_pos ⟨by omega, by omega, h⟩, Int.toNat_natCast]
theorem fmod_bd (a : Int) {b : Int} (h : 0 < b) : 0 ≤ a.fmod b ∧ a.fmod b < b := ⟨Int.fmod_nonneg_of_pos a h, Int.fmod_lt_of_pos a h⟩
theorem pure_app {α : Type} (a : α) (s : Sto) : M.pure a s = .ok a s := rfl
def pickA (a size : Int) : Int := a.fmod size
def pickN (b c : Int) : Int := ((b + 15485867 * c) ^ 5).fmod 2147483647
def pickB (b c size : Int) : Int := ((((pickN b c + 7919 * c) ^ 3).fmod 2147483629).fdiv 32).fmod size
theorem e_pick1 {st : Sto} {k : Nat} {a b c : Int} (h : st[k]? = some (.lst [.int a, .int b, .int c])) (ha : 1 < a) {size : Nat} (hs : 0 < size) (hs2 : size < 2 ^ 40) : m__law_pick [.ref k, .int size] st = .ok (.int (pickA a size)) (st.set k (.lst [.int (a.fdiv size), .int b, .int c])) := by
  have i0 := ixRef h (i := 0) (atI_0 _ _)
  have hz : (size : Int) ≠ 0 := by omega
  have e1 := opDiv_int (i := a) hz (n := 40) (by show size < 2 ^ 40; exact hs2) (by omega)
  have e2 := opMod_int (i := a) hz
  simp only [m__law_pick, F__law_pick, sSeq, sSkip, sBreak, sCont, sSet, sDrop, sRet, sRetN, sIf, iteS, sPar, setAll, sAsg, Tg.bind, gotE, sNew, sApp, appL, ownD, sSeal, sealE, sVar, sC, sCons, sNil, sOp2, sOp1, sCall, sCb, sTup, mkT, sLst, mkL1, sLstF, capL, sTst, truD, sAnd, sOr, iteB, kB, sNot, sIfE, iteE, sAndV, andV, sOrV, orV, sNotV, notD, sIs, sFor, sWhile, iSeqS, itemsD, iRange, iZip, zipD, zip2D, iEnum, enumD, sComp, sVal, sCatF, catL, sListF, listL, sRef, sChain, chV, sSlice, sPart, sNoPart, intO, slD, sOwnIx, sOwnLen, sOwnPut, sTry, sPut, pure_bindM, bad_bindM, exc_bindM, pureD, runD, startE, endD, fuelI, List.map_cons, List.map_nil, List.length_cons, List.length_nil, List.length_append, List.replicate, List.cons_append, List.nil_append, List.append_nil, List.set_cons_zero, List.set_cons_succ, List.getElem?_cons_zero, List.getElem?_cons_succ, wipeE, List.foldr, Nat.reduceAdd, Nat.reduceSub, Nat.reduceLeDiff, Nat.zero_add, Nat.add_zero, Nat.reduceLT, if_true, if_false, ite_true, ite_false, reduceIte, Bool.false_eq_true, eq_self, opNe_int, opEq_int, opLt, opLe, opGt, opGe, opCmp, opSub, opNeg, opAdd_int, atI_0, atI_1, atI_2, bTuple, bList, opIsN, opNotN, tyN, isTy, String.reduceBEq, Bool.true_or, Bool.and_false, Bool.or_false, Bool.false_or, Bool.true_and, Bool.false_and, Bool.and_true, Bool.not_true, Bool.not_false, bIs, forL, stepS, Sl.va.injEq, decide_eq_true_eq, bind_def, pure_app, i0, ha, decide_true, bInt, e1, e2, h, ixN_30, putD]
  rfl
theorem e_pick2 {st : Sto} {k : Nat} {a b c : Int} (h : st[k]? = some (.lst [.int a, .int b, .int c])) (ha : ¬ 1 < a) (hb : 0 ≤ b ∧ b < 2147483648) (hc : 0 ≤ c ∧ c < 1000000) {size : Nat} (hs : 0 < size) (hs2 : size < 2 ^ 40) : m__law_pick [.ref k, .int size] st = .ok (.int (pickB b (c + 1) size)) (st.set k (.lst [.int a, .int b, .int (c + 1)])) := by
  have hlt : k < st.length := (List.getElem?_eq_some_iff.mp h).1
  have i0 := ixRef h (i := 0) (atI_0 _ _)
  have i2 := ixRef h (i := 2) (atI_2 _ _ _ _)
  have h' : (st.set k (.lst [.int a, .int b, .int (c + 1)]))[k]? = some (.lst [.int a, .int b, .int (c + 1)]) := by
    rw [List.getElem?_set_self hlt]
  have j1 := ixRef h' (i := 1) (atI_1 _ _ _)
  have j2 := ixRef h' (i := 2) (atI_2 _ _ _ _)
  have hz : (size : Int) ≠ 0 := by omega
  have b1 := fmod_bd ((b + 15485867 * (c + 1)) ^ 5) (b := 2147483647) (by decide)
  have m1 : opMul (.int 15485867) (.int (c + 1)) = M.pure (.int (15485867 * (c + 1))) := opMul_int (n := 40) (m := 40) (by unfold Sm; decide) (by unfold Sm; omega) (by decide)
  have p1 : opPow (.int (b + 15485867 * (c + 1))) (.int 5) = M.pure (.int ((b + 15485867 * (c + 1)) ^ 5)) := opPow_int (j := 5) (by omega) (by decide)
  have m2 : opMul (.int 7919) (.int (c + 1)) = M.pure (.int (7919 * (c + 1))) := opMul_int (n := 40) (m := 40) (by unfold Sm; decide) (by unfold Sm; omega) (by decide)
  have p2 : opPow (.int (pickN b (c + 1) + 7919 * (c + 1))) (.int 3) = M.pure (.int ((pickN b (c + 1) + 7919 * (c + 1)) ^ 3)) := opPow_int (j := 3) (by unfold pickN; omega) (by decide)
  have d1 := opDiv_int (i := ((pickN b (c + 1) + 7919 * (c + 1)) ^ 3).fmod 2147483629) (j := 32) (n := 10) (by decide) (by unfold Sm; decide) (by decide)
  have q1 : opMod (.int ((b + 15485867 * (c + 1)) ^ 5)) (.int 2147483647) = M.pure (.int (pickN b (c + 1))) := opMod_int (by decide)
  have q2 := opMod_int (i := (pickN b (c + 1) + 7919 * (c + 1)) ^ 3) (j := 2147483629) (by decide)
  have q3 := opMod_int (i := (((pickN b (c + 1) + 7919 * (c + 1)) ^ 3).fmod 2147483629).fdiv 32) hz
  simp only [m__law_pick, F__law_pick, sSeq, sSkip, sBreak, sCont, sSet, sDrop, sRet, sRetN, sIf, iteS, sPar, setAll, sAsg, Tg.bind, gotE, sNew, sApp, appL, ownD, sSeal, sealE, sVar, sC, sCons, sNil, sOp2, sOp1, sCall, sCb, sTup, mkT, sLst, mkL1, sLstF, capL, sTst, truD, sAnd, sOr, iteB, kB, sNot, sIfE, iteE, sAndV, andV, sOrV, orV, sNotV, notD, sIs, sFor, sWhile, iSeqS, itemsD, iRange, iZip, zipD, zip2D, iEnum, enumD, sComp, sVal, sCatF, catL, sListF, listL, sRef, sChain, chV, sSlice, sPart, sNoPart, intO, slD, sOwnIx, sOwnLen, sOwnPut, sTry, sPut, pure_bindM, bad_bindM, exc_bindM, pureD, runD, startE, endD, fuelI, List.map_cons, List.map_nil, List.length_cons, List.length_nil, List.length_append, List.replicate, List.cons_append, List.nil_append, List.append_nil, List.set_cons_zero, List.set_cons_succ, List.getElem?_cons_zero, List.getElem?_cons_succ, wipeE, List.foldr, Nat.reduceAdd, Nat.reduceSub, Nat.reduceLeDiff, Nat.zero_add, Nat.add_zero, Nat.reduceLT, if_true, if_false, ite_true, ite_false, reduceIte, Bool.false_eq_true, eq_self, opNe_int, opEq_int, opLt, opLe, opGt, opGe, opCmp, opSub, opNeg, opAdd_int, atI_0, atI_1, atI_2, bTuple, bList, opIsN, opNotN, tyN, isTy, String.reduceBEq, Bool.true_or, Bool.and_false, Bool.or_false, Bool.false_or, Bool.true_and, Bool.false_and, Bool.and_true, Bool.not_true, Bool.not_false, bIs, forL, stepS, Sl.va.injEq, decide_eq_true_eq, bind_def, pure_app, i0, ha, decide_false, i2, h, ixN_32, putD, j1, j2, m1, p1, q1, m2, p2, q2, d1, bInt, q3]
  rfl
/-! ### what a def that draws does -/
def Wp {α : Type} (m : M α) (st : Sto) (Q : α → Sto → Prop) : Prop := ∃ a st', m st = .ok a st' ∧ Q a st'
theorem Wp.pure {α : Type} {a : α} {st : Sto} {Q : α → Sto → Prop} (h : Q a st) : Wp (M.pure a) st Q := ⟨a, st, rfl, h⟩
theorem Wp.bind {α β : Type} {m : M α} {f : α → M β} {st : Sto} {Q : β → Sto → Prop} (h : Wp m st fun a s' => Wp (f a) s' Q) : Wp (m >>= f) st Q := by
  obtain ⟨a, s1, h1, b, s2, h2, h3⟩ := h
  exact ⟨b, s2, by rw [bind_def, h1]; exact h2, h3⟩
theorem Wp.mono {α : Type} {m : M α} {st : Sto} {Q R : α → Sto → Prop} (h : Wp m st Q) (g : ∀ a s, Q a s → R a s) : Wp m st R := by
  obtain ⟨a, s1, h1, h2⟩ := h
  exact ⟨a, s1, h1, g _ _ h2⟩
/-- a deck lies at k, drawn from at most n times -/
def Deck (k n : Nat) (st : Sto) : Prop := st.all noRefO = true ∧ ∃ a b c : Int, st[k]? = some (.lst [.int a, .int b, .int c]) ∧ (0 ≤ b ∧ b < 2147483648) ∧ 0 ≤ c ∧ c ≤ n
theorem all_set {st : Sto} (h : st.all noRefO = true) (k : Nat) {o : Ob} (ho : noRefO o = true) : (st.set k o).all noRefO = true := by
  rw [List.all_eq_true] at h ⊢
  intro x hx
  rcases List.mem_or_eq_of_mem_set hx with h1 | h1
  · exact h x h1
  · rw [h1]
    exact ho
theorem wp_pick {st : Sto} {k n : Nat} (h : Deck k n st) (hn : n < 1000000) {size : Nat} (hs : 0 < size) (hs2 : size < 2 ^ 40) : Wp (m__law_pick [.ref k, .int size]) st fun d s' => (∃ j : Nat, d = .int j ∧ j < size) ∧ Deck k (n + 1) s' := by
  obtain ⟨h0, a, b, c, h1, h2, h3⟩ := h
  have hlt : k < st.length := (List.getElem?_eq_some_iff.mp h1).1
  have hz : (0 : Int) < (size : Int) := by omega
  by_cases ha : 1 < a
  · have hb := fmod_bd a hz
    refine ⟨_, _, e_pick1 h1 ha hs hs2, ⟨(pickA a size).toNat, ?_, ?_⟩, all_set h0 k rfl, a.fdiv size, b, c, by rw [List.getElem?_set_self hlt], h2, h3.1, by omega⟩
    · unfold pickA
      rw [Int.toNat_of_nonneg hb.1]
    · unfold pickA
      omega
  · have hb := fmod_bd ((((pickN b (c + 1) + 7919 * (c + 1)) ^ 3).fmod 2147483629).fdiv 32) hz
    refine ⟨_, _, e_pick2 h1 ha h2 ⟨h3.1, by omega⟩ hs hs2, ⟨(pickB b (c + 1) size).toNat, ?_, ?_⟩, all_set h0 k rfl, a, b, c + 1, by rw [List.getElem?_set_self hlt], h2, by omega, by omega⟩
    · unfold pickB
      rw [Int.toNat_of_nonneg hb.1]
    · unfold pickB
      omega
theorem Deck.mono {k n m : Nat} {st : Sto} (h : Deck k n st) (l : n ≤ m) : Deck k m st := by
  obtain ⟨h0, a, b, c, h1, h2, h3⟩ := h
  exact ⟨h0, a, b, c, h1, h2, h3.1, by omega⟩
theorem wp_one {st : Sto} {k n : Nat} (h : Deck k n st) (hn : n < 1000000) {l : List D} (hl : l ≠ []) (hl2 : l.length < 2 ^ 40) : Wp (m__law_one [.ref k, .lst l]) st fun d s' => d ∈ l ∧ Deck k (n + 1) s' := by
  simp only [m__law_one, F__law_one, sSeq, sSkip, sBreak, sCont, sSet, sDrop, sRet, sRetN, sIf, iteS, sPar, setAll, sAsg, Tg.bind, gotE, sNew, sApp, appL, ownD, sSeal, sealE, sVar, sC, sCons, sNil, sOp2, sOp1, sCall, sCb, sTup, mkT, sLst, mkL1, sLstF, capL, sTst, truD, sAnd, sOr, iteB, kB, sNot, sIfE, iteE, sAndV, andV, sOrV, orV, sNotV, notD, sIs, sFor, sWhile, iSeqS, itemsD, iRange, iZip, zipD, zip2D, iEnum, enumD, sComp, sVal, sCatF, catL, sListF, listL, sRef, sChain, chV, sSlice, sPart, sNoPart, intO, slD, sOwnIx, sOwnLen, sOwnPut, sTry, sPut, pure_bindM, bad_bindM, exc_bindM, pureD, runD, startE, endD, fuelI, List.map_cons, List.map_nil, List.length_cons, List.length_nil, List.length_append, List.replicate, List.cons_append, List.nil_append, List.append_nil, List.set_cons_zero, List.set_cons_succ, List.getElem?_cons_zero, List.getElem?_cons_succ, wipeE, List.foldr, Nat.reduceAdd, Nat.reduceSub, Nat.reduceLeDiff, Nat.zero_add, Nat.add_zero, Nat.reduceLT, if_true, if_false, ite_true, ite_false, reduceIte, Bool.false_eq_true, eq_self, opNe_int, opEq_int, opLt, opLe, opGt, opGe, opCmp, opSub, opNeg, opAdd_int, atI_0, atI_1, atI_2, bTuple, bList, opIsN, opNotN, tyN, isTy, String.reduceBEq, Bool.true_or, Bool.and_false, Bool.or_false, Bool.false_or, Bool.true_and, Bool.false_and, Bool.and_true, Bool.not_true, Bool.not_false, bIs, forL, stepS, Sl.va.injEq, decide_eq_true_eq, bLen, bind_assocM]
  refine Wp.bind ((wp_pick h hn (List.length_pos_iff.mpr hl) hl2).mono fun d s' hd => ?_)
  obtain ⟨⟨j, rfl, hj⟩, hd⟩ := hd
  simp only [ixD, atI_nat hj, sSeq, sSkip, sBreak, sCont, sSet, sDrop, sRet, sRetN, sIf, iteS, sPar, setAll, sAsg, Tg.bind, gotE, sNew, sApp, appL, ownD, sSeal, sealE, sVar, sC, sCons, sNil, sOp2, sOp1, sCall, sCb, sTup, mkT, sLst, mkL1, sLstF, capL, sTst, truD, sAnd, sOr, iteB, kB, sNot, sIfE, iteE, sAndV, andV, sOrV, orV, sNotV, notD, sIs, sFor, sWhile, iSeqS, itemsD, iRange, iZip, zipD, zip2D, iEnum, enumD, sComp, sVal, sCatF, catL, sListF, listL, sRef, sChain, chV, sSlice, sPart, sNoPart, intO, slD, sOwnIx, sOwnLen, sOwnPut, sTry, sPut, pure_bindM, bad_bindM, exc_bindM, pureD, runD, startE, endD, fuelI, List.map_cons, List.map_nil, List.length_cons, List.length_nil, List.length_append, List.replicate, List.cons_append, List.nil_append, List.append_nil, List.set_cons_zero, List.set_cons_succ, List.getElem?_cons_zero, List.getElem?_cons_succ, wipeE, List.foldr, Nat.reduceAdd, Nat.reduceSub, Nat.reduceLeDiff, Nat.zero_add, Nat.add_zero, Nat.reduceLT, if_true, if_false, ite_true, ite_false, reduceIte, Bool.false_eq_true, eq_self, opNe_int, opEq_int, opLt, opLe, opGt, opGe, opCmp, opSub, opNeg, opAdd_int, atI_0, atI_1, atI_2, bTuple, bList, opIsN, opNotN, tyN, isTy, String.reduceBEq, Bool.true_or, Bool.and_false, Bool.or_false, Bool.false_or, Bool.true_and, Bool.false_and, Bool.and_true, Bool.not_true, Bool.not_false, bIs, forL, stepS, Sl.va.injEq, decide_eq_true_eq]
  exact Wp.pure ⟨List.getElem_mem hj, hd⟩
end Dt

set_option maxHeartbeats 4000000
namespace Dt
open PySem PySem.Spec PyProof.Rows L2
/-! ### loops that draw -/
theorem wp_forI {t : Tg} {wp : List Nat} {body : SS} (I : Nat → Env → Sto → Prop) {N : Nat} : ∀ (ds : List D) (i : Nat) (env : Env) (st : Sto), i + ds.length ≤ N → (∀ d ∈ ds, ∀ i env st, i < N → I i env st → ∃ e1, t.bind d env = some e1 ∧ Wp (body e1) st fun ce s' => ∃ e2, ce = (.nx, e2) ∧ I (i + 1) (wipeE wp e2) s') → I i env st → Wp (forL t wp body ds env) st fun ce s' => ∃ e2, ce = (.nx, e2) ∧ I (i + ds.length) e2 s'
  | [], i, env, st, hN, h, h0 => Wp.pure ⟨env, rfl, h0⟩
  | d :: ds, i, env, st, hN, h, h0 => by
    simp only [List.length_cons] at hN
    obtain ⟨e1, h1, h2⟩ := h d (by simp) i env st (by omega) h0
    simp only [forL, h1, gotE, pure_bindM]
    refine Wp.bind (h2.mono fun ce s' hc => ?_)
    obtain ⟨e2, rfl, h3⟩ := hc
    have := wp_forI I ds (i + 1) (wipeE wp e2) s' (by omega) (fun d hd => h d (by simp [hd])) h3
    rw [show i + 1 + ds.length = i + (d :: ds).length by simp; omega] at this
    exact this
theorem wp_cmpI {t : Tg} {G : SE} {env : Env} (I : Nat → List D → Sto → Prop) {N : Nat} : ∀ (ds : List D) (i : Nat) (acc : List D) (st : Sto), i + ds.length ≤ N → (∀ d ∈ ds, ∀ i acc st, i < N → I i acc st → ∃ e1, t.bind d env = some e1 ∧ Wp (G e1) st fun x s' => I (i + 1) (acc ++ [x]) s') → I i acc st → Wp (cmpL t sYes G env ds acc) st fun l s' => I (i + ds.length) l s'
  | [], i, acc, st, hN, h, h0 => Wp.pure h0
  | d :: ds, i, acc, st, hN, h, h0 => by
    simp only [List.length_cons] at hN
    obtain ⟨e1, h1, h2⟩ := h d (by simp) i acc st (by omega) h0
    simp only [cmpL, h1, gotE, pure_bindM, sYes, iteC]
    refine Wp.bind (h2.mono fun x s' hc => ?_)
    have := wp_cmpI I ds (i + 1) (acc ++ [x]) s' (by omega) (fun d hd => h d (by simp [hd])) hc
    rw [show i + 1 + ds.length = i + (d :: ds).length by simp; omega] at this
    exact this
theorem wp_cmpT {t : Tg} {vs : List Nat} {G : SE} {env : Env} (I : Nat → List D → Sto → Prop) {ds : List D} (hl : ds.length ≤ 1000000) {st : Sto} (h : ∀ d ∈ ds, ∀ i acc st, i < ds.length → I i acc st → ∃ e1, t.bind d (wipeE vs env) = some e1 ∧ Wp (G e1) st fun x s' => I (i + 1) (acc ++ [x]) s') (h0 : I 0 [] st) : Wp (cmpT t vs sYes G ds env) st fun d s' => ∃ l, d = .lst l ∧ I ds.length l s' := by
  unfold cmpT
  rw [if_pos hl]
  obtain ⟨l, s', h1, h2⟩ := wp_cmpI (t := t) (G := G) (env := wipeE vs env) I ds 0 [] st (N := ds.length) (by omega) h h0
  rw [Nat.zero_add] at h2
  refine ⟨.lst l, s', ?_, l, rfl, h2⟩
  rw [bind_def]
  unfold noExc
  rw [h1]
  rfl
theorem pull {α : Type} (f : α → D) (R : α → Prop) : ∀ {l : List D}, (∀ x ∈ l, ∃ a, x = f a ∧ R a) → ∃ m : List α, l = m.map f ∧ ∀ a ∈ m, R a
  | [], h => ⟨[], rfl, fun a ha => absurd ha List.not_mem_nil⟩
  | x :: l, h => by
    obtain ⟨a, rfl, h1⟩ := h x (by simp)
    obtain ⟨m, rfl, h2⟩ := pull f R (l := l) (fun x hx => h x (by simp [hx]))
    refine ⟨a :: m, rfl, fun b hb => ?_⟩
    rcases List.mem_cons.mp hb with rfl | hb
    · exact h1
    · exact h2 b hb
theorem mem_snoc {α : Type} {P : α → Prop} {l : List α} {x : α} (h : ∀ a ∈ l, P a) (hx : P x) : ∀ a ∈ l ++ [x], P a := by
  intro a ha
  rcases List.mem_append.mp ha with h1 | h1
  · exact h a h1
  · rw [List.mem_singleton.mp h1]
    exact hx
theorem two_m1 (m : Nat) : (2 * (m : Int) + 1) = ((2 * m + 1 : Nat) : Int) := by omega
theorem wp_off {st : Sto} {k n m : Nat} (h : Deck k n st) (hn : n < 1000000) (hm : m ≤ 1000) : Wp (m__law_pick [.ref k, .int ((2 * m + 1 : Nat) : Int)]) st fun d s' => (∃ j : Nat, d = .int j ∧ ((j : Int) - m).natAbs ≤ m) ∧ Deck k (n + 1) s' :=
  (wp_pick h hn (by omega) (by omega)).mono fun d s' ⟨⟨j, e, hj⟩, hd⟩ => ⟨⟨j, e, by omega⟩, hd⟩
theorem opMul_2 {m : Nat} (hm : m ≤ 1000) : opMul (.int 2) (.int m) = M.pure (.int (2 * m)) := opMul_int (n := 10) (m := 40) (by unfold Sm; decide) (by unfold Sm; omega) (by decide)
theorem wp_row {st : Sto} {k n m size : Nat} (h : Deck k n st) (hn : n + size < 1000000) (hm : m ≤ 1000) {w3 w4 : Sl} : Wp (cmpT (.nm 5) [5] sYes E__law_a_step_0 (rangeD 0 size) [.va (.ref k), .va (.int size), .va (.int m), w3, w4, .no]) st fun d s' => (∃ r : List Int, d = .lst (r.map .int) ∧ r.length = size ∧ ∀ e ∈ r, e.natAbs ≤ m) ∧ Deck k (n + size) s' := by
  have := wp_cmpT (t := .nm 5) (vs := [5]) (G := E__law_a_step_0) (env := [.va (.ref k), .va (.int size), .va (.int m), w3, w4, .no]) (fun i acc st => acc.length = i ∧ (∀ x ∈ acc, ∃ e : Int, x = .int e ∧ e.natAbs ≤ m) ∧ Deck k (n + i) st) (ds := rangeD 0 size) (by rw [rangeD_len]; omega) (st := st) (fun d hd i acc st hi ⟨h1, h2, h3⟩ => ?_) ⟨rfl, fun x hx => absurd hx List.not_mem_nil, h⟩
  · refine this.mono fun d s' ⟨l, e, h1, h2, h3⟩ => ?_
    rw [rangeD_len] at h1 h3
    obtain ⟨r, rfl, h4⟩ := pull D.int (fun e => e.natAbs ≤ m) h2
    exact ⟨⟨r, e, by simpa using h1, h4⟩, h3⟩
  · rw [rangeD_len] at hi
    refine ⟨_, rfl, ?_⟩
    simp only [E__law_a_step_0, sSeq, sSkip, sBreak, sCont, sSet, sDrop, sRet, sRetN, sIf, iteS, sPar, setAll, sAsg, Tg.bind, gotE, sNew, sApp, appL, ownD, sSeal, sealE, sVar, sC, sCons, sNil, sOp2, sOp1, sCall, sCb, sTup, mkT, sLst, mkL1, sLstF, capL, sTst, truD, sAnd, sOr, iteB, kB, sNot, sIfE, iteE, sAndV, andV, sOrV, orV, sNotV, notD, sIs, sFor, sWhile, iSeqS, itemsD, iRange, iZip, zipD, zip2D, iEnum, enumD, sComp, sVal, sCatF, catL, sListF, listL, sRef, sChain, chV, sSlice, sPart, sNoPart, intO, slD, sOwnIx, sOwnLen, sOwnPut, sTry, sPut, putD, pure_bindM, bad_bindM, exc_bindM, pureD, runD, startE, endD, fuelI, List.map_cons, List.map_nil, List.length_cons, List.length_nil, List.length_append, List.replicate, List.cons_append, List.nil_append, List.append_nil, List.set_cons_zero, List.set_cons_succ, List.getElem?_cons_zero, List.getElem?_cons_succ, wipeE, List.foldr, Nat.reduceAdd, Nat.reduceSub, Nat.reduceLeDiff, Nat.zero_add, Nat.add_zero, Nat.reduceLT, if_true, if_false, ite_true, ite_false, reduceIte, Bool.false_eq_true, eq_self, opNe_int, opEq_int, opLt, opLe, opGt, opGe, opCmp, opSub, opNeg, opAdd_int, ixD, atI_0, atI_1, atI_2, bTuple, bList, opIsN, opNotN, tyN, isTy, String.reduceBEq, Bool.true_or, Bool.and_false, Bool.or_false, Bool.false_or, Bool.true_and, Bool.false_and, Bool.and_true, Bool.not_true, Bool.not_false, bIs, forL, stepS, Sl.va.injEq, decide_eq_true_eq, opMul_2 hm, two_m1]
    refine Wp.bind ((wp_off h3 (by omega) hm).mono fun d s' ⟨⟨j, e, hj⟩, hd⟩ => ?_)
    subst e
    exact Wp.pure ⟨by simp [h1], mem_snoc h2 ⟨_, rfl, hj⟩, hd⟩
theorem wp_rows {st : Sto} {k n m size : Nat} (h : Deck k n st) (hn : n + size * size < 1000000) (hm : m ≤ 1000) (hs : size ≤ 1000) : Wp (forL (.nm 4) [4] L__law_a_step_0 (rangeD 0 size) [.va (.ref k), .va (.int size), .va (.int m), .ow [], .no, .no]) st fun ce s' => ∃ rows : List (List Int), ce = (.nx, [.va (.ref k), .va (.int size), .va (.int m), .ow (rows.map eR), .no, .no]) ∧ rows.length = size ∧ (∀ r ∈ rows, r.length = size ∧ ∀ e ∈ r, e.natAbs ≤ m) ∧ Deck k (n + size * size) s' := by
  have := wp_forI (t := .nm 4) (wp := [4]) (body := L__law_a_step_0) (N := size) (fun i env st => ∃ acc, env = [.va (.ref k), .va (.int size), .va (.int m), .ow acc, .no, .no] ∧ acc.length = i ∧ (∀ x ∈ acc, ∃ r : List Int, x = eR r ∧ (r.length = size ∧ ∀ e ∈ r, e.natAbs ≤ m)) ∧ Deck k (n + size * i) st) (rangeD 0 size) 0 [.va (.ref k), .va (.int size), .va (.int m), .ow [], .no, .no] st (by rw [rangeD_len]; omega) (fun d hd i env st hi ⟨acc, he, h1, h2, h3⟩ => ?_) ⟨[], rfl, rfl, fun x hx => absurd hx List.not_mem_nil, by simpa using h⟩
  · refine this.mono fun ce s' ⟨e2, hc, acc, he, h1, h2, h3⟩ => ?_
    rw [rangeD_len, Nat.zero_add] at h1 h3
    obtain ⟨rows, rfl, h4⟩ := pull eR _ h2
    exact ⟨rows, by rw [hc, he], by simpa using h1, h4, h3⟩
  · subst he
    have hi1 : size * i + size ≤ size * size := by
      rw [← Nat.mul_succ]
      exact Nat.mul_le_mul_left _ hi
    have hal : acc.length < 1000000 := by omega
    refine ⟨_, rfl, ?_⟩
    simp only [L__law_a_step_0, sSeq, sSkip, sBreak, sCont, sSet, sDrop, sRet, sRetN, sIf, iteS, sPar, setAll, sAsg, Tg.bind, gotE, sNew, sApp, appL, ownD, sSeal, sealE, sVar, sC, sCons, sNil, sOp2, sOp1, sCall, sCb, sTup, mkT, sLst, mkL1, sLstF, capL, sTst, truD, sAnd, sOr, iteB, kB, sNot, sIfE, iteE, sAndV, andV, sOrV, orV, sNotV, notD, sIs, sFor, sWhile, iSeqS, itemsD, iRange, iZip, zipD, zip2D, iEnum, enumD, sComp, sVal, sCatF, catL, sListF, listL, sRef, sChain, chV, sSlice, sPart, sNoPart, intO, slD, sOwnIx, sOwnLen, sOwnPut, sTry, sPut, putD, pure_bindM, bad_bindM, exc_bindM, pureD, runD, startE, endD, fuelI, List.map_cons, List.map_nil, List.length_cons, List.length_nil, List.length_append, List.replicate, List.cons_append, List.nil_append, List.append_nil, List.set_cons_zero, List.set_cons_succ, List.getElem?_cons_zero, List.getElem?_cons_succ, wipeE, List.foldr, Nat.reduceAdd, Nat.reduceSub, Nat.reduceLeDiff, Nat.zero_add, Nat.add_zero, Nat.reduceLT, if_true, if_false, ite_true, ite_false, reduceIte, Bool.false_eq_true, eq_self, opNe_int, opEq_int, opLt, opLe, opGt, opGe, opCmp, opSub, opNeg, opAdd_int, ixD, atI_0, atI_1, atI_2, bTuple, bList, opIsN, opNotN, tyN, isTy, String.reduceBEq, Bool.true_or, Bool.and_false, Bool.or_false, Bool.false_or, Bool.true_and, Bool.false_and, Bool.and_true, Bool.not_true, Bool.not_false, bIs, forL, stepS, Sl.va.injEq, decide_eq_true_eq, range_nat (by omega : size < 1000000000), bind_assocM]
    refine Wp.bind ((wp_row h3 (by omega) hm).mono fun d s' ⟨⟨r, e, hr, hre⟩, hd⟩ => ?_)
    subst e
    simp only [sSeq, sSkip, sBreak, sCont, sSet, sDrop, sRet, sRetN, sIf, iteS, sPar, setAll, sAsg, Tg.bind, gotE, sNew, sApp, appL, ownD, sSeal, sealE, sVar, sC, sCons, sNil, sOp2, sOp1, sCall, sCb, sTup, mkT, sLst, mkL1, sLstF, capL, sTst, truD, sAnd, sOr, iteB, kB, sNot, sIfE, iteE, sAndV, andV, sOrV, orV, sNotV, notD, sIs, sFor, sWhile, iSeqS, itemsD, iRange, iZip, zipD, zip2D, iEnum, enumD, sComp, sVal, sCatF, catL, sListF, listL, sRef, sChain, chV, sSlice, sPart, sNoPart, intO, slD, sOwnIx, sOwnLen, sOwnPut, sTry, sPut, putD, pure_bindM, bad_bindM, exc_bindM, pureD, runD, startE, endD, fuelI, List.map_cons, List.map_nil, List.length_cons, List.length_nil, List.length_append, List.replicate, List.cons_append, List.nil_append, List.append_nil, List.set_cons_zero, List.set_cons_succ, List.getElem?_cons_zero, List.getElem?_cons_succ, wipeE, List.foldr, Nat.reduceAdd, Nat.reduceSub, Nat.reduceLeDiff, Nat.zero_add, Nat.add_zero, Nat.reduceLT, if_true, if_false, ite_true, ite_false, reduceIte, Bool.false_eq_true, eq_self, opNe_int, opEq_int, opLt, opLe, opGt, opGe, opCmp, opSub, opNeg, opAdd_int, ixD, atI_0, atI_1, atI_2, bTuple, bList, opIsN, opNotN, tyN, isTy, String.reduceBEq, Bool.true_or, Bool.and_false, Bool.or_false, Bool.false_or, Bool.true_and, Bool.false_and, Bool.and_true, Bool.not_true, Bool.not_false, bIs, forL, stepS, Sl.va.injEq, decide_eq_true_eq, hal]
    refine Wp.pure ⟨_, rfl, acc ++ [eR r], rfl, by simp [h1], mem_snoc h2 ⟨r, rfl, hr, hre⟩, ?_⟩
    rw [Nat.mul_succ, ← Nat.add_assoc]
    exact hd
theorem wp_a_step {st : Sto} {k n m size : Nat} (h : Deck k n st) (hn : n + 10 < 1000000) (hm : m ≤ 9) (hs : 1 ≤ size) (hs3 : size ≤ 3) : Wp (m__law_a_step [.ref k, .int size, .int m]) st fun d s' => (∃ T : Stp, d = eT T ∧ StpOk T ∧ T.rows.length = size ∧ (∀ r ∈ T.rows, ∀ e ∈ r, e.natAbs ≤ m) ∧ T.b ≤ 5) ∧ Deck k (n + 10) s' := by
  have hss : size * size ≤ 9 := Nat.mul_le_mul hs3 hs3
  simp only [m__law_a_step, F__law_a_step, sSeq, sSkip, sBreak, sCont, sSet, sDrop, sRet, sRetN, sIf, iteS, sPar, setAll, sAsg, Tg.bind, gotE, sNew, sApp, appL, ownD, sSeal, sealE, sVar, sC, sCons, sNil, sOp2, sOp1, sCall, sCb, sTup, mkT, sLst, mkL1, sLstF, capL, sTst, truD, sAnd, sOr, iteB, kB, sNot, sIfE, iteE, sAndV, andV, sOrV, orV, sNotV, notD, sIs, sFor, sWhile, iSeqS, itemsD, iRange, iZip, zipD, zip2D, iEnum, enumD, sComp, sVal, sCatF, catL, sListF, listL, sRef, sChain, chV, sSlice, sPart, sNoPart, intO, slD, sOwnIx, sOwnLen, sOwnPut, sTry, sPut, putD, pure_bindM, bad_bindM, exc_bindM, pureD, runD, startE, endD, fuelI, List.map_cons, List.map_nil, List.length_cons, List.length_nil, List.length_append, List.replicate, List.cons_append, List.nil_append, List.append_nil, List.set_cons_zero, List.set_cons_succ, List.getElem?_cons_zero, List.getElem?_cons_succ, wipeE, List.foldr, Nat.reduceAdd, Nat.reduceSub, Nat.reduceLeDiff, Nat.zero_add, Nat.add_zero, Nat.reduceLT, if_true, if_false, ite_true, ite_false, reduceIte, Bool.false_eq_true, eq_self, opNe_int, opEq_int, opLt, opLe, opGt, opGe, opCmp, opSub, opNeg, opAdd_int, ixD, atI_0, atI_1, atI_2, bTuple, bList, opIsN, opNotN, tyN, isTy, String.reduceBEq, Bool.true_or, Bool.and_false, Bool.or_false, Bool.false_or, Bool.true_and, Bool.false_and, Bool.and_true, Bool.not_true, Bool.not_false, bIs, forL, stepS, Sl.va.injEq, decide_eq_true_eq, range_nat (by omega : size < 1000000000), bind_assocM]
  refine Wp.bind ((wp_rows h (by omega) (by omega) (by omega)).mono fun ce s' ⟨rows, e, h1, h2, h3⟩ => ?_)
  subst e
  simp only [sSeq, sSkip, sBreak, sCont, sSet, sDrop, sRet, sRetN, sIf, iteS, sPar, setAll, sAsg, Tg.bind, gotE, sNew, sApp, appL, ownD, sSeal, sealE, sVar, sC, sCons, sNil, sOp2, sOp1, sCall, sCb, sTup, mkT, sLst, mkL1, sLstF, capL, sTst, truD, sAnd, sOr, iteB, kB, sNot, sIfE, iteE, sAndV, andV, sOrV, orV, sNotV, notD, sIs, sFor, sWhile, iSeqS, itemsD, iRange, iZip, zipD, zip2D, iEnum, enumD, sComp, sVal, sCatF, catL, sListF, listL, sRef, sChain, chV, sSlice, sPart, sNoPart, intO, slD, sOwnIx, sOwnLen, sOwnPut, sTry, sPut, putD, pure_bindM, bad_bindM, exc_bindM, pureD, runD, startE, endD, fuelI, List.map_cons, List.map_nil, List.length_cons, List.length_nil, List.length_append, List.replicate, List.cons_append, List.nil_append, List.append_nil, List.set_cons_zero, List.set_cons_succ, List.getElem?_cons_zero, List.getElem?_cons_succ, wipeE, List.foldr, Nat.reduceAdd, Nat.reduceSub, Nat.reduceLeDiff, Nat.zero_add, Nat.add_zero, Nat.reduceLT, if_true, if_false, ite_true, ite_false, reduceIte, Bool.false_eq_true, eq_self, opNe_int, opEq_int, opLt, opLe, opGt, opGe, opCmp, opSub, opNeg, opAdd_int, ixD, atI_0, atI_1, atI_2, bTuple, bList, opIsN, opNotN, tyN, isTy, String.reduceBEq, Bool.true_or, Bool.and_false, Bool.or_false, Bool.false_or, Bool.true_and, Bool.false_and, Bool.and_true, Bool.not_true, Bool.not_false, bIs, forL, stepS, Sl.va.injEq, decide_eq_true_eq, bind_assocM]
  refine Wp.bind ((wp_one (h3.mono (show n + size * size ≤ n + 9 by omega)) (by omega) (by simp) (by simp)).mono fun d s' ⟨hd, h4⟩ => ?_)
  have hb : ∃ b : Int, d = .int b ∧ 1 ≤ b ∧ b ≤ 5 := by
    simp only [List.mem_cons, List.not_mem_nil, or_false] at hd
    rcases hd with rfl | rfl | rfl | rfl | rfl | rfl
    · exact ⟨1, rfl, by decide, by decide⟩
    · exact ⟨1, rfl, by decide, by decide⟩
    · exact ⟨1, rfl, by decide, by decide⟩
    · exact ⟨1, rfl, by decide, by decide⟩
    · exact ⟨2, rfl, by decide, by decide⟩
    · exact ⟨5, rfl, by decide, by decide⟩
  obtain ⟨b, rfl, hb1, hb5⟩ := hb
  refine Wp.pure ⟨⟨⟨b, rows⟩, rfl, ⟨hb1, by show b ≤ 9; omega, by show 1 ≤ rows.length; omega, by show rows.length ≤ 3; omega, fun r hr => by show r.length = rows.length; rw [(h2 r hr).1, h1], fun r hr e he => ?_⟩, h1, fun r hr => (h2 r hr).2, hb5⟩, h4⟩
  have := (h2 r hr).2 e he
  omega
/-! ### a drawn standing -/
def stE (x : Rat) (m : Nat) : Prop := ∃ (t : Int) (b : Nat), x = Rat.divInt t b ∧ t.natAbs ≤ m ∧ 1 ≤ b ∧ b ∣ 30
theorem wp_stand {st : Sto} {k n m size : Nat} (h : Deck k n st) (hn : n + 2 * size < 1000000) (hm : m ≤ 1000) (hs : size ≤ 1000) : Wp (m__law_a_stand [.ref k, .int size, .int m]) st fun d s' => (∃ s : List Rat, d = eS s ∧ s.length = size ∧ ∀ q ∈ s, stE q m) ∧ Deck k (n + 2 * size) s' := by
  simp only [m__law_a_stand, F__law_a_stand, sSeq, sSkip, sBreak, sCont, sSet, sDrop, sRet, sRetN, sIf, iteS, sPar, setAll, sAsg, Tg.bind, gotE, sNew, sApp, appL, ownD, sSeal, sealE, sVar, sC, sCons, sNil, sOp2, sOp1, sCall, sCb, sTup, mkT, sLst, mkL1, sLstF, capL, sTst, truD, sAnd, sOr, iteB, kB, sNot, sIfE, iteE, sAndV, andV, sOrV, orV, sNotV, notD, sIs, sFor, sWhile, iSeqS, itemsD, iRange, iZip, zipD, zip2D, iEnum, enumD, sComp, sVal, sCatF, catL, sListF, listL, sRef, sChain, chV, sSlice, sPart, sNoPart, intO, slD, sOwnIx, sOwnLen, sOwnPut, sTry, sPut, putD, pure_bindM, bad_bindM, exc_bindM, pureD, runD, startE, endD, fuelI, List.map_cons, List.map_nil, List.length_cons, List.length_nil, List.length_append, List.replicate, List.cons_append, List.nil_append, List.append_nil, List.set_cons_zero, List.set_cons_succ, List.getElem?_cons_zero, List.getElem?_cons_succ, wipeE, List.foldr, Nat.reduceAdd, Nat.reduceSub, Nat.reduceLeDiff, Nat.zero_add, Nat.add_zero, Nat.reduceLT, if_true, if_false, ite_true, ite_false, reduceIte, Bool.false_eq_true, eq_self, opNe_int, opEq_int, opLt, opLe, opGt, opGe, opCmp, opSub, opNeg, opAdd_int, ixD, atI_0, atI_1, atI_2, bTuple, bList, opIsN, opNotN, tyN, isTy, String.reduceBEq, Bool.true_or, Bool.and_false, Bool.or_false, Bool.false_or, Bool.true_and, Bool.false_and, Bool.and_true, Bool.not_true, Bool.not_false, bIs, forL, stepS, Sl.va.injEq, decide_eq_true_eq, range_nat (by omega : size < 1000000000), bind_assocM]
  have := wp_forI (t := .nm 4) (wp := [4, 5]) (body := L__law_a_stand_0) (N := size) (fun i env st => ∃ acc, env = [.va (.ref k), .va (.int size), .va (.int m), .ow acc, .no, .no] ∧ acc.length = i ∧ (∀ x ∈ acc, ∃ q : Rat, x = eQ q ∧ stE q m) ∧ Deck k (n + 2 * i) st) (rangeD 0 size) 0 [.va (.ref k), .va (.int size), .va (.int m), .ow [], .no, .no] st (by rw [rangeD_len]; omega) (fun d hd i env st hi ⟨acc, he, h1, h2, h3⟩ => ?_) ⟨[], rfl, rfl, fun x hx => absurd hx List.not_mem_nil, by simpa using h⟩
  · refine Wp.bind (this.mono fun ce s' ⟨e2, hc, acc, he, h1, h2, h3⟩ => ?_)
    rw [rangeD_len, Nat.zero_add] at h1 h3
    obtain ⟨s, rfl, h4⟩ := pull eQ _ h2
    subst hc he
    simp only [sSeq, sSkip, sBreak, sCont, sSet, sDrop, sRet, sRetN, sIf, iteS, sPar, setAll, sAsg, Tg.bind, gotE, sNew, sApp, appL, ownD, sSeal, sealE, sVar, sC, sCons, sNil, sOp2, sOp1, sCall, sCb, sTup, mkT, sLst, mkL1, sLstF, capL, sTst, truD, sAnd, sOr, iteB, kB, sNot, sIfE, iteE, sAndV, andV, sOrV, orV, sNotV, notD, sIs, sFor, sWhile, iSeqS, itemsD, iRange, iZip, zipD, zip2D, iEnum, enumD, sComp, sVal, sCatF, catL, sListF, listL, sRef, sChain, chV, sSlice, sPart, sNoPart, intO, slD, sOwnIx, sOwnLen, sOwnPut, sTry, sPut, putD, pure_bindM, bad_bindM, exc_bindM, pureD, runD, startE, endD, fuelI, List.map_cons, List.map_nil, List.length_cons, List.length_nil, List.length_append, List.replicate, List.cons_append, List.nil_append, List.append_nil, List.set_cons_zero, List.set_cons_succ, List.getElem?_cons_zero, List.getElem?_cons_succ, wipeE, List.foldr, Nat.reduceAdd, Nat.reduceSub, Nat.reduceLeDiff, Nat.zero_add, Nat.add_zero, Nat.reduceLT, if_true, if_false, ite_true, ite_false, reduceIte, Bool.false_eq_true, eq_self, opNe_int, opEq_int, opLt, opLe, opGt, opGe, opCmp, opSub, opNeg, opAdd_int, ixD, atI_0, atI_1, atI_2, bTuple, bList, opIsN, opNotN, tyN, isTy, String.reduceBEq, Bool.true_or, Bool.and_false, Bool.or_false, Bool.false_or, Bool.true_and, Bool.false_and, Bool.and_true, Bool.not_true, Bool.not_false, bIs, forL, stepS, Sl.va.injEq, decide_eq_true_eq]
    exact Wp.pure ⟨⟨s, rfl, by simpa using h1, h4⟩, h3⟩
  · subst he
    have hal : acc.length < 1000000 := by omega
    refine ⟨_, rfl, ?_⟩
    simp only [L__law_a_stand_0, sSeq, sSkip, sBreak, sCont, sSet, sDrop, sRet, sRetN, sIf, iteS, sPar, setAll, sAsg, Tg.bind, gotE, sNew, sApp, appL, ownD, sSeal, sealE, sVar, sC, sCons, sNil, sOp2, sOp1, sCall, sCb, sTup, mkT, sLst, mkL1, sLstF, capL, sTst, truD, sAnd, sOr, iteB, kB, sNot, sIfE, iteE, sAndV, andV, sOrV, orV, sNotV, notD, sIs, sFor, sWhile, iSeqS, itemsD, iRange, iZip, zipD, zip2D, iEnum, enumD, sComp, sVal, sCatF, catL, sListF, listL, sRef, sChain, chV, sSlice, sPart, sNoPart, intO, slD, sOwnIx, sOwnLen, sOwnPut, sTry, sPut, putD, pure_bindM, bad_bindM, exc_bindM, pureD, runD, startE, endD, fuelI, List.map_cons, List.map_nil, List.length_cons, List.length_nil, List.length_append, List.replicate, List.cons_append, List.nil_append, List.append_nil, List.set_cons_zero, List.set_cons_succ, List.getElem?_cons_zero, List.getElem?_cons_succ, wipeE, List.foldr, Nat.reduceAdd, Nat.reduceSub, Nat.reduceLeDiff, Nat.zero_add, Nat.add_zero, Nat.reduceLT, if_true, if_false, ite_true, ite_false, reduceIte, Bool.false_eq_true, eq_self, opNe_int, opEq_int, opLt, opLe, opGt, opGe, opCmp, opSub, opNeg, opAdd_int, ixD, atI_0, atI_1, atI_2, bTuple, bList, opIsN, opNotN, tyN, isTy, String.reduceBEq, Bool.true_or, Bool.and_false, Bool.or_false, Bool.false_or, Bool.true_and, Bool.false_and, Bool.and_true, Bool.not_true, Bool.not_false, bIs, forL, stepS, Sl.va.injEq, decide_eq_true_eq, opMul_2 hm, two_m1, bind_assocM]
    refine Wp.bind ((wp_off h3 (by omega) hm).mono fun d s' ⟨⟨j, e, hj⟩, hd⟩ => ?_)
    subst e
    simp only [sSeq, sSkip, sBreak, sCont, sSet, sDrop, sRet, sRetN, sIf, iteS, sPar, setAll, sAsg, Tg.bind, gotE, sNew, sApp, appL, ownD, sSeal, sealE, sVar, sC, sCons, sNil, sOp2, sOp1, sCall, sCb, sTup, mkT, sLst, mkL1, sLstF, capL, sTst, truD, sAnd, sOr, iteB, kB, sNot, sIfE, iteE, sAndV, andV, sOrV, orV, sNotV, notD, sIs, sFor, sWhile, iSeqS, itemsD, iRange, iZip, zipD, zip2D, iEnum, enumD, sComp, sVal, sCatF, catL, sListF, listL, sRef, sChain, chV, sSlice, sPart, sNoPart, intO, slD, sOwnIx, sOwnLen, sOwnPut, sTry, sPut, putD, pure_bindM, bad_bindM, exc_bindM, pureD, runD, startE, endD, fuelI, List.map_cons, List.map_nil, List.length_cons, List.length_nil, List.length_append, List.replicate, List.cons_append, List.nil_append, List.append_nil, List.set_cons_zero, List.set_cons_succ, List.getElem?_cons_zero, List.getElem?_cons_succ, wipeE, List.foldr, Nat.reduceAdd, Nat.reduceSub, Nat.reduceLeDiff, Nat.zero_add, Nat.add_zero, Nat.reduceLT, if_true, if_false, ite_true, ite_false, reduceIte, Bool.false_eq_true, eq_self, opNe_int, opEq_int, opLt, opLe, opGt, opGe, opCmp, opSub, opNeg, opAdd_int, ixD, atI_0, atI_1, atI_2, bTuple, bList, opIsN, opNotN, tyN, isTy, String.reduceBEq, Bool.true_or, Bool.and_false, Bool.or_false, Bool.false_or, Bool.true_and, Bool.false_and, Bool.and_true, Bool.not_true, Bool.not_false, bIs, forL, stepS, Sl.va.injEq, decide_eq_true_eq, bind_assocM]
    refine Wp.bind ((wp_one hd (by omega) (by simp) (by simp)).mono fun d s' ⟨hd, h4⟩ => ?_)
    have hb : ∃ b : Nat, d = .int b ∧ 1 ≤ b ∧ b ≤ 10 ∧ b ∣ 30 := by
      simp only [List.mem_cons, List.not_mem_nil, or_false] at hd
      rcases hd with rfl | rfl | rfl | rfl | rfl | rfl
      · exact ⟨1, rfl, by decide, by decide, by decide⟩
      · exact ⟨1, rfl, by decide, by decide, by decide⟩
      · exact ⟨1, rfl, by decide, by decide, by decide⟩
      · exact ⟨2, rfl, by decide, by decide, by decide⟩
      · exact ⟨3, rfl, by decide, by decide, by decide⟩
      · exact ⟨10, rfl, by decide, by decide, by decide⟩
    obtain ⟨b, rfl, hb1, hb5, hb6⟩ := hb
    have lw := e__law_low (t := (j : Int) - m) (b := b) (n := 10) (m := 20) (by omega) (by unfold Sm; omega) (by decide) (by unfold Sm; omega) (by decide)
    simp only [sSeq, sSkip, sBreak, sCont, sSet, sDrop, sRet, sRetN, sIf, iteS, sPar, setAll, sAsg, Tg.bind, gotE, sNew, sApp, appL, ownD, sSeal, sealE, sVar, sC, sCons, sNil, sOp2, sOp1, sCall, sCb, sTup, mkT, sLst, mkL1, sLstF, capL, sTst, truD, sAnd, sOr, iteB, kB, sNot, sIfE, iteE, sAndV, andV, sOrV, orV, sNotV, notD, sIs, sFor, sWhile, iSeqS, itemsD, iRange, iZip, zipD, zip2D, iEnum, enumD, sComp, sVal, sCatF, catL, sListF, listL, sRef, sChain, chV, sSlice, sPart, sNoPart, intO, slD, sOwnIx, sOwnLen, sOwnPut, sTry, sPut, putD, pure_bindM, bad_bindM, exc_bindM, pureD, runD, startE, endD, fuelI, List.map_cons, List.map_nil, List.length_cons, List.length_nil, List.length_append, List.replicate, List.cons_append, List.nil_append, List.append_nil, List.set_cons_zero, List.set_cons_succ, List.getElem?_cons_zero, List.getElem?_cons_succ, wipeE, List.foldr, Nat.reduceAdd, Nat.reduceSub, Nat.reduceLeDiff, Nat.zero_add, Nat.add_zero, Nat.reduceLT, if_true, if_false, ite_true, ite_false, reduceIte, Bool.false_eq_true, eq_self, opNe_int, opEq_int, opLt, opLe, opGt, opGe, opCmp, opSub, opNeg, opAdd_int, ixD, atI_0, atI_1, atI_2, bTuple, bList, opIsN, opNotN, tyN, isTy, String.reduceBEq, Bool.true_or, Bool.and_false, Bool.or_false, Bool.false_or, Bool.true_and, Bool.false_and, Bool.and_true, Bool.not_true, Bool.not_false, bIs, forL, stepS, Sl.va.injEq, decide_eq_true_eq, lw, hal]
    refine Wp.pure ⟨_, rfl, acc ++ [eQ (Rat.divInt ((j : Int) - m) b)], rfl, by simp [h1], mem_snoc h2 ⟨_, rfl, (j : Int) - m, b, rfl, hj, hb1, hb6⟩, ?_⟩
    rw [Nat.mul_succ, ← Nat.add_assoc]
    exact h4
theorem stE.gd {x : Rat} {m : Nat} (h : stE x m) : Gd 30 m x := by
  obtain ⟨t, b, e, h1, h2, c, hc⟩ := h
  have hb0 : (b : Int) ≠ 0 := by omega
  have hc0 : (c : Int) ≠ 0 := by
    intro e
    have : c = 0 := by omega
    subst this
    omega
  refine Gd.of (t := t * c) (by decide) ?_ ?_
  · rw [e, hc, Int.natCast_mul, Rat.divInt_mul_right hc0]
  · rw [Int.natAbs_mul, hc, ← Nat.mul_assoc]
    refine Nat.mul_le_mul ?_ (Nat.le_refl _)
    exact Nat.le_trans h1 (Nat.le_mul_of_pos_right _ (by omega))
theorem stE.good {s : List Rat} {m : Nat} (h : ∀ q ∈ s, stE q m) (hm : m ≤ 1000) : Good 10 s := ⟨30, m, by decide, by decide, by omega, fun q hq => (h q hq).gd⟩
end Dt

set_option maxHeartbeats 4000000
namespace Dt
open PySem PySem.Spec PyProof.Rows L2
/-! ### the law's step with another entry -/
def lstO (r : List Int) : Ob := .lst (r.map .int)
def refs (a n : Nat) : List D := (List.range' a n).map D.ref
theorem refs_len (a n : Nat) : (refs a n).length = n := by simp [refs]
theorem other_refs {env : Env} (hl : 5 < env.length) : ∀ (rs : List (List Int)) (acc : List D) (st : Sto), cmpL (.nm 5) sYes E__law_other_0 env (rs.map eR) acc st = .ok (acc ++ refs st.length rs.length) (st ++ rs.map lstO)
  | [], acc, st => by simp [cmpL, refs, pure_app]
  | r :: rs, acc, st => by
    have ih := other_refs hl rs (acc ++ [.ref st.length]) (st ++ [lstO r])
    have hg : (env.set 5 (.va (eR r)))[5]? = some (.va (eR r)) := List.getElem?_set_self hl
    have hE : E__law_other_0 (env.set 5 (.va (eR r))) st = .ok (.ref st.length) (st ++ [lstO r]) := by
      rw [show eR r = .tup (r.map .int) from rfl] at hg ⊢
      simp only [sSeq, sSkip, sBreak, sCont, sSet, sDrop, sRet, sRetN, sIf, iteS, sPar, setAll, sAsg, Tg.bind, gotE, sNew, sApp, appL, ownD, sSeal, sealE, sVar, sC, sCons, sNil, sOp2, sOp1, sCall, sCb, sTup, mkT, sLst, mkL1, sLstF, capL, sTst, truD, sAnd, sOr, iteB, kB, sNot, sIfE, iteE, sAndV, andV, sOrV, orV, sNotV, notD, sIs, sFor, sWhile, iSeqS, itemsD, iRange, iZip, zipD, zip2D, iEnum, enumD, sComp, sVal, sCatF, catL, sListF, listL, sRef, sChain, chV, sSlice, sPart, sNoPart, intO, slD, sOwnIx, sOwnLen, sOwnPut, sTry, sPut, putD, pure_bindM, bad_bindM, exc_bindM, pureD, runD, startE, endD, fuelI, List.map_cons, List.map_nil, List.length_cons, List.length_nil, List.length_append, List.replicate, List.cons_append, List.nil_append, List.append_nil, List.set_cons_zero, List.set_cons_succ, List.getElem?_cons_zero, List.getElem?_cons_succ, wipeE, List.foldr, Nat.reduceAdd, Nat.reduceSub, Nat.reduceLeDiff, Nat.zero_add, Nat.add_zero, Nat.reduceLT, if_true, if_false, ite_true, ite_false, reduceIte, Bool.false_eq_true, eq_self, opNe_int, opEq_int, opLt, opLe, opGt, opGe, opCmp, opSub, opNeg, opAdd_int, ixD, atI_0, atI_1, atI_2, bTuple, bList, opIsN, opNotN, tyN, isTy, String.reduceBEq, Bool.true_or, Bool.and_false, Bool.or_false, Bool.false_or, Bool.true_and, Bool.false_and, Bool.and_true, Bool.not_true, Bool.not_false, bIs, forL, stepS, Sl.va.injEq, decide_eq_true_eq, E__law_other_0, hg, listL, newRef, bind_def, pure_app]
      rfl
    simp only [List.map_cons, cmpL, Tg.bind, gotE, sYes, iteC, pure_bindM]
    rw [bind_def, hE]
    simp only [List.length_append, List.length_cons, List.length_nil, List.append_assoc, List.cons_append, List.nil_append] at ih
    rw [show (0 + 1 : Nat) = 1 from rfl] at ih
    rw [show refs st.length (r :: rs).length = .ref st.length :: refs (st.length + 1) rs.length from by simp [refs, List.range'_succ]]
    exact ih
theorem other_back {env : Env} (hl : 5 < env.length) {st : Sto} : ∀ (rs : List (List Int)) (a : Nat) (acc : List D), (∀ m r, rs[m]? = some r → st[a + m]? = some (lstO r)) → cmpL (.nm 5) sYes E__law_other_1 env (refs a rs.length) acc st = .ok (acc ++ rs.map eR) st
  | [], a, acc, h => by simp [cmpL, refs, pure_app]
  | r :: rs, a, acc, h => by
    have ih := other_back hl (st := st) rs (a + 1) (acc ++ [eR r]) (fun m r hr => by
      have := h (m + 1) r (by simpa using hr)
      rwa [show a + (m + 1) = a + 1 + m by omega] at this)
    have hg : (env.set 5 (.va (D.ref a)))[5]? = some (.va (D.ref a)) := List.getElem?_set_self hl
    have h0 : st[a]? = some (lstO r) := h 0 r rfl
    rw [show refs a (r :: rs).length = .ref a :: refs (a + 1) rs.length from by simp [refs, List.range'_succ]]
    have hE : E__law_other_1 (env.set 5 (.va (D.ref a))) st = .ok (eR r) st := by
      rw [lstO] at h0
      simp only [sSeq, sSkip, sBreak, sCont, sSet, sDrop, sRet, sRetN, sIf, iteS, sPar, setAll, sAsg, Tg.bind, gotE, sNew, sApp, appL, ownD, sSeal, sealE, sVar, sC, sCons, sNil, sOp2, sOp1, sCall, sCb, sTup, mkT, sLst, mkL1, sLstF, capL, sTst, truD, sAnd, sOr, iteB, kB, sNot, sIfE, iteE, sAndV, andV, sOrV, orV, sNotV, notD, sIs, sFor, sWhile, iSeqS, itemsD, iRange, iZip, zipD, zip2D, iEnum, enumD, sComp, sVal, sCatF, catL, sListF, listL, sRef, sChain, chV, sSlice, sPart, sNoPart, intO, slD, sOwnIx, sOwnLen, sOwnPut, sTry, sPut, putD, pure_bindM, bad_bindM, exc_bindM, pureD, runD, startE, endD, fuelI, List.map_cons, List.map_nil, List.length_cons, List.length_nil, List.length_append, List.replicate, List.cons_append, List.nil_append, List.append_nil, List.set_cons_zero, List.set_cons_succ, List.getElem?_cons_zero, List.getElem?_cons_succ, wipeE, List.foldr, Nat.reduceAdd, Nat.reduceSub, Nat.reduceLeDiff, Nat.zero_add, Nat.add_zero, Nat.reduceLT, if_true, if_false, ite_true, ite_false, reduceIte, Bool.false_eq_true, eq_self, opNe_int, opEq_int, opLt, opLe, opGt, opGe, opCmp, opSub, opNeg, opAdd_int, ixD, atI_0, atI_1, atI_2, bTuple, bList, opIsN, opNotN, tyN, isTy, String.reduceBEq, Bool.true_or, Bool.and_false, Bool.or_false, Bool.false_or, Bool.true_and, Bool.false_and, Bool.and_true, Bool.not_true, Bool.not_false, bIs, forL, stepS, Sl.va.injEq, decide_eq_true_eq, E__law_other_1, hg, bind_def, pure_app, h0]
      rfl
    simp only [List.map_cons, cmpL, Tg.bind, gotE, sYes, iteC, pure_bindM]
    rw [bind_def, hE]
    simp only [List.append_assoc, List.cons_append, List.nil_append] at ih
    exact ih
theorem noRef_map {α : Type} (f : α → D) (h : ∀ a, noRef (f a) = true) : ∀ l : List α, noRefs (l.map f) = true
  | [] => rfl
  | a :: l => by simp only [List.map_cons, noRefs, h a, noRef_map f h l, Bool.and_self]
theorem noRef_eT (T : Stp) : noRef (eT T) = true := by
  show (true && (noRefs (T.rows.map eR) && true)) = true
  rw [noRef_map eR (fun r => noRef_map D.int (fun _ => rfl) r)]
  rfl
theorem e__law_other {T : Stp} {i j : Nat} {e : Int} {r : List Int} (hr : T.rows[i]? = some r) (hj : j < r.length) (hl : T.rows.length ≤ 1000) {st : Sto} (hst : st.all noRefO = true) : m__law_other [eT T, .int i, .int j, .int e] st = .ok (eT (setQ T i j e)) st := by
  have hi : i < T.rows.length := (List.getElem?_eq_some_iff.mp hr).1
  have c1 : (noExc (cmpL (.nm 5) sYes E__law_other_0 [.va (.tup [.int T.b, .tup (T.rows.map eR)]), .va (.int i), .va (.int j), .va (.int e), .no, .no] (T.rows.map eR) [])) st = .ok (refs st.length T.rows.length) (st ++ T.rows.map lstO) := by
    unfold noExc
    rw [other_refs (by simp), List.nil_append]
  have g1 : atI (refs st.length T.rows.length) (i : Int) = some (.ref (st.length + i)) := by
    rw [atI_nat (by simpa [refs] using hi)]
    simp [refs]
  have g2 : (st ++ T.rows.map lstO)[st.length + i]? = some (.lst (r.map .int)) := by
    rw [List.getElem?_append_right (by omega), Nat.add_sub_cancel_left, List.getElem?_map, hr]
    rfl
  have g3 : (st ++ T.rows.map lstO).set (st.length + i) (.lst ((r.map D.int).set j (.int e))) = st ++ (T.rows.set i (r.set j e)).map lstO := by
    rw [List.set_append_right _ _ (by omega), Nat.add_sub_cancel_left, List.map_set]
    simp only [lstO, List.map_set]
  have c2 : (noExc (cmpL (.nm 5) sYes E__law_other_1 [.va (.tup [.int T.b, .tup (T.rows.map eR)]), .va (.int i), .va (.int j), .va (.int e), .va (.lst (refs st.length T.rows.length)), .no] (refs st.length T.rows.length) [])) (st ++ (T.rows.set i (r.set j e)).map lstO) = .ok ((T.rows.set i (r.set j e)).map eR) (st ++ (T.rows.set i (r.set j e)).map lstO) := by
    unfold noExc
    have := other_back (env := [.va (.tup [.int T.b, .tup (T.rows.map eR)]), .va (.int i), .va (.int j), .va (.int e), .va (.lst (refs st.length T.rows.length)), .no]) (by simp) (st := st ++ (T.rows.set i (r.set j e)).map lstO) (T.rows.set i (r.set j e)) st.length [] (fun m r hr => by
      rw [List.getElem?_append_right (by omega), Nat.add_sub_cancel_left, List.getElem?_map, hr]
      rfl)
    rw [List.length_set] at this
    rw [this, List.nil_append]
  have l1 : T.rows.length ≤ 1000000 := by omega
  have run : runD 6 F__law_other [eT T, .int i, .int j, .int e] st = .ok (eT (setQ T i j e)) (st ++ (T.rows.set i (r.set j e)).map lstO) := by
    simp only [F__law_other, sSeq, sSkip, sBreak, sCont, sSet, sDrop, sRet, sRetN, sIf, iteS, sPar, setAll, sAsg, Tg.bind, gotE, sNew, sApp, appL, ownD, sSeal, sealE, sVar, sC, sCons, sNil, sOp2, sOp1, sCall, sCb, sTup, mkT, sLst, mkL1, sLstF, capL, sTst, truD, sAnd, sOr, iteB, kB, sNot, sIfE, iteE, sAndV, andV, sOrV, orV, sNotV, notD, sIs, sFor, sWhile, iSeqS, itemsD, iRange, iZip, zipD, zip2D, iEnum, enumD, sComp, sVal, sCatF, catL, sListF, listL, sRef, sChain, chV, sSlice, sPart, sNoPart, intO, slD, sOwnIx, sOwnLen, sOwnPut, sTry, sPut, putD, pure_bindM, bad_bindM, exc_bindM, pureD, runD, startE, endD, fuelI, List.map_cons, List.map_nil, List.length_cons, List.length_nil, List.length_append, List.replicate, List.cons_append, List.nil_append, List.append_nil, List.set_cons_zero, List.set_cons_succ, List.getElem?_cons_zero, List.getElem?_cons_succ, wipeE, List.foldr, Nat.reduceAdd, Nat.reduceSub, Nat.reduceLeDiff, Nat.zero_add, Nat.add_zero, Nat.reduceLT, if_true, if_false, ite_true, ite_false, reduceIte, Bool.false_eq_true, eq_self, opNe_int, opEq_int, opLt, opLe, opGt, opGe, opCmp, opSub, opNeg, opAdd_int, ixD, atI_0, atI_1, atI_2, bTuple, bList, opIsN, opNotN, tyN, isTy, String.reduceBEq, Bool.true_or, Bool.and_false, Bool.or_false, Bool.false_or, Bool.true_and, Bool.false_and, Bool.and_true, Bool.not_true, Bool.not_false, bIs, forL, stepS, Sl.va.injEq, decide_eq_true_eq, eT, cmpT, l1, c1, bind_def, pure_app, mkL, g1, g2, List.length_map, ixN_lt hj, g3, refs_len, c2, setQ, hr, Option.getD_some]
  show (match runD 6 F__law_other [eT T, .int i, .int j, .int e] st with
    | .ok d st' => if noRef d = true ∧ (st'.take st.length).all noRefO = true then .ok d (st'.take st.length) else .bad
    | .exc e s => .exc e s
    | .bad => .bad : Out D) = _
  rw [run]
  simp only [List.take_left']
  rw [if_pos ⟨noRef_eT _, hst⟩]
end Dt

set_option maxHeartbeats 4000000
namespace Dt
open PySem PySem.Spec PyProof.Rows L2
/-! ### drawn facts -/
def fitQ (q : Rat) : Bool := decide (q.num.natAbs ≤ 1000000000000000000000000000000) && decide (q.den ≤ 100)
theorem cmpL_filtF {α : Type} {t : Tg} {I : SB} {G : SE} {env : Env} (c : α → D) (p : α → Bool) (g : α → D) : ∀ (ds : List α) (acc : List D), (∀ d ∈ ds, ∃ e1, t.bind (c d) env = some e1 ∧ I e1 = M.pure (p d) ∧ (p d = true → G e1 = M.pure (g d))) → cmpL t I G env (ds.map c) acc = M.pure (acc ++ (ds.filter p).map g)
  | [], acc, h => by simp only [cmpL, List.filter_nil, List.map_nil, List.append_nil]
  | d :: ds, acc, h => by
    obtain ⟨e1, h1, h2, h3⟩ := h d (by simp)
    cases hp : p d with
    | true =>
      have ih := cmpL_filtF c p g ds (acc ++ [g d]) (fun d hd => h d (by simp [hd]))
      simp only [List.map_cons, cmpL, h1, gotE, pure_bindM, h2, hp, iteC, h3 hp, ih, List.filter_cons, if_true, List.append_assoc, List.cons_append, List.nil_append]
    | false =>
      have ih := cmpL_filtF c p g ds acc (fun d hd => h d (by simp [hd]))
      simp only [List.map_cons, cmpL, h1, gotE, pure_bindM, h2, hp, iteC, ih, List.filter_cons, Bool.false_eq_true, if_false]
theorem cmpT_filtF {α : Type} {t : Tg} {vs : List Nat} {I : SB} {G : SE} {env : Env} (c : α → D) (p : α → Bool) (g : α → D) {ds : List α} (hl : ds.length ≤ 1000000) (h : ∀ d ∈ ds, ∃ e1, t.bind (c d) (wipeE vs env) = some e1 ∧ I e1 = M.pure (p d) ∧ (p d = true → G e1 = M.pure (g d))) : cmpT t vs I G (ds.map c) env = M.pure (.lst ((ds.filter p).map g)) := by
  unfold cmpT
  rw [if_pos (by simpa using hl), cmpL_filtF c p g ds [] h]
  rfl
theorem opEq_nil {xs : List D} (h : okEs xs = true) (hd : dpEs xs ≤ 60) : opEq (.lst xs) (.lst []) = M.pure (.bl xs.isEmpty) := by
  rw [opEq_of (eqOk_of2 (x := .lst xs) (y := .lst []) h rfl (by show dpEs xs + 1 ≤ 64; omega) (by decide))]
  cases xs <;> rfl
theorem pow_30 : opPow (.int 10) (.int 30) = M.pure (.int 1000000000000000000000000000000) := rfl
theorem fit_row {env : Env} (q : Rat) (he : env[8]? = some (.va (eQ q))) : I__law_facts_0 env = M.pure (!fitQ q) := by
  rw [show eQ q = .tup [.int q.num, .int q.den] from rfl] at he
  by_cases h1 : q.num.natAbs ≤ 1000000000000000000000000000000
  · have c1 : ¬ ((1000000000000000000000000000000 : Int) < (q.num.natAbs : Int)) := by omega
    by_cases h2 : q.den ≤ 100
    · have c2 : ¬ ((100 : Int) < (q.den : Int)) := by omega
      simp only [I__law_facts_0, sSeq, sSkip, sBreak, sCont, sSet, sDrop, sRet, sRetN, sIf, iteS, sPar, setAll, sAsg, Tg.bind, gotE, sNew, sApp, appL, ownD, sSeal, sealE, sVar, sC, sCons, sNil, sOp2, sOp1, sCall, sCb, sTup, mkT, sLst, mkL1, sLstF, capL, sTst, truD, sAnd, sOr, iteB, kB, sNot, sIfE, iteE, sAndV, andV, sOrV, orV, sNotV, notD, sIs, sFor, sWhile, iSeqS, itemsD, iRange, iZip, zipD, zip2D, iEnum, enumD, sComp, sVal, sCatF, catL, sListF, listL, sRef, sChain, chV, sSlice, sPart, sNoPart, intO, slD, sOwnIx, sOwnLen, sOwnPut, sTry, sPut, putD, pure_bindM, bad_bindM, exc_bindM, pureD, runD, startE, endD, fuelI, List.map_cons, List.map_nil, List.length_cons, List.length_nil, List.length_append, List.replicate, List.cons_append, List.nil_append, List.append_nil, List.set_cons_zero, List.set_cons_succ, List.getElem?_cons_zero, List.getElem?_cons_succ, wipeE, List.foldr, Nat.reduceAdd, Nat.reduceSub, Nat.reduceLeDiff, Nat.zero_add, Nat.add_zero, Nat.reduceLT, if_true, if_false, ite_true, ite_false, reduceIte, Bool.false_eq_true, eq_self, opNe_int, opEq_int, opLt, opLe, opGt, opGe, opCmp, opSub, opNeg, opAdd_int, ixD, atI_0, atI_1, atI_2, bTuple, bList, opIsN, opNotN, tyN, isTy, String.reduceBEq, Bool.true_or, Bool.and_false, Bool.or_false, Bool.false_or, Bool.true_and, Bool.false_and, Bool.and_true, Bool.not_true, Bool.not_false, bIs, forL, stepS, Sl.va.injEq, decide_eq_true_eq, he, bAbs_int, pow_30, c1, c2, decide_false, fitQ, h1, h2, decide_true]
    · have c2 : ((100 : Int) < (q.den : Int)) := by omega
      simp only [I__law_facts_0, sSeq, sSkip, sBreak, sCont, sSet, sDrop, sRet, sRetN, sIf, iteS, sPar, setAll, sAsg, Tg.bind, gotE, sNew, sApp, appL, ownD, sSeal, sealE, sVar, sC, sCons, sNil, sOp2, sOp1, sCall, sCb, sTup, mkT, sLst, mkL1, sLstF, capL, sTst, truD, sAnd, sOr, iteB, kB, sNot, sIfE, iteE, sAndV, andV, sOrV, orV, sNotV, notD, sIs, sFor, sWhile, iSeqS, itemsD, iRange, iZip, zipD, zip2D, iEnum, enumD, sComp, sVal, sCatF, catL, sListF, listL, sRef, sChain, chV, sSlice, sPart, sNoPart, intO, slD, sOwnIx, sOwnLen, sOwnPut, sTry, sPut, putD, pure_bindM, bad_bindM, exc_bindM, pureD, runD, startE, endD, fuelI, List.map_cons, List.map_nil, List.length_cons, List.length_nil, List.length_append, List.replicate, List.cons_append, List.nil_append, List.append_nil, List.set_cons_zero, List.set_cons_succ, List.getElem?_cons_zero, List.getElem?_cons_succ, wipeE, List.foldr, Nat.reduceAdd, Nat.reduceSub, Nat.reduceLeDiff, Nat.zero_add, Nat.add_zero, Nat.reduceLT, if_true, if_false, ite_true, ite_false, reduceIte, Bool.false_eq_true, eq_self, opNe_int, opEq_int, opLt, opLe, opGt, opGe, opCmp, opSub, opNeg, opAdd_int, ixD, atI_0, atI_1, atI_2, bTuple, bList, opIsN, opNotN, tyN, isTy, String.reduceBEq, Bool.true_or, Bool.and_false, Bool.or_false, Bool.false_or, Bool.true_and, Bool.false_and, Bool.and_true, Bool.not_true, Bool.not_false, bIs, forL, stepS, Sl.va.injEq, decide_eq_true_eq, he, bAbs_int, pow_30, c1, c2, decide_false, fitQ, h1, h2, decide_true]
  · have c1 : ((1000000000000000000000000000000 : Int) < (q.num.natAbs : Int)) := by omega
    simp only [I__law_facts_0, sSeq, sSkip, sBreak, sCont, sSet, sDrop, sRet, sRetN, sIf, iteS, sPar, setAll, sAsg, Tg.bind, gotE, sNew, sApp, appL, ownD, sSeal, sealE, sVar, sC, sCons, sNil, sOp2, sOp1, sCall, sCb, sTup, mkT, sLst, mkL1, sLstF, capL, sTst, truD, sAnd, sOr, iteB, kB, sNot, sIfE, iteE, sAndV, andV, sOrV, orV, sNotV, notD, sIs, sFor, sWhile, iSeqS, itemsD, iRange, iZip, zipD, zip2D, iEnum, enumD, sComp, sVal, sCatF, catL, sListF, listL, sRef, sChain, chV, sSlice, sPart, sNoPart, intO, slD, sOwnIx, sOwnLen, sOwnPut, sTry, sPut, putD, pure_bindM, bad_bindM, exc_bindM, pureD, runD, startE, endD, fuelI, List.map_cons, List.map_nil, List.length_cons, List.length_nil, List.length_append, List.replicate, List.cons_append, List.nil_append, List.append_nil, List.set_cons_zero, List.set_cons_succ, List.getElem?_cons_zero, List.getElem?_cons_succ, wipeE, List.foldr, Nat.reduceAdd, Nat.reduceSub, Nat.reduceLeDiff, Nat.zero_add, Nat.add_zero, Nat.reduceLT, if_true, if_false, ite_true, ite_false, reduceIte, Bool.false_eq_true, eq_self, opNe_int, opEq_int, opLt, opLe, opGt, opGe, opCmp, opSub, opNeg, opAdd_int, ixD, atI_0, atI_1, atI_2, bTuple, bList, opIsN, opNotN, tyN, isTy, String.reduceBEq, Bool.true_or, Bool.and_false, Bool.or_false, Bool.false_or, Bool.true_and, Bool.false_and, Bool.and_true, Bool.not_true, Bool.not_false, bIs, forL, stepS, Sl.va.injEq, decide_eq_true_eq, he, bAbs_int, pow_30, c1, decide_true, fitQ, h1, decide_false]
theorem fit_comp {s : List Rat} (hs : s.length ≤ 1000) {env : Env} (hl : env.length = 9) : cmpT (.nm 8) [8] I__law_facts_0 E__law_facts_0 (s.map eQ) env = M.pure (.lst ((s.filter fun q => !fitQ q).map fun _ => .int 1)) := by
  have hw : 8 < (wipeE [8] env).length := by show 8 < (env.set 8 .no).length; rw [List.length_set]; omega
  exact cmpT_filtF eQ (fun q => !fitQ q) (fun _ => .int 1) (by omega) (fun q hq => ⟨(wipeE [8] env).set 8 (.va (eQ q)), rfl, fit_row q (List.getElem?_set_self hw), fun _ => rfl⟩)
theorem afterQ_len {T : Stp} : ∀ (k : Nat) (s : List Rat), s.length = T.rows.length → (afterQ T s k).length = T.rows.length
  | 0, s, h => h
  | k + 1, s, h => afterQ_len k (nextQ T s) (by simp [nextQ])
structure DrF (n : Nat) (f : Fct) : Prop where
  ls : f.s.length = n
  es : ∀ q ∈ f.s, stE q 3
  lk : f.k < 4
  le : f.e.length = n
  ee : ∀ q ∈ f.e, fitQ q = true
theorem isFr_fit {q : Rat} (h : fitQ q = true) : isFr (eQ q) = true := by
  simp only [fitQ, Bool.and_eq_true, decide_eq_true_eq] at h
  have hp := q.den_pos
  show ((decide (-(1000000000000000000000000000000 : Int) ≤ q.num) && decide (q.num ≤ 1000000000000000000000000000000)) && ((decide ((1 : Int) ≤ q.den) && decide ((q.den : Int) ≤ 100)) && (Int.gcd q.num q.den == 1))) = true
  rw [decide_eq_true (by omega), decide_eq_true (by omega), decide_eq_true (by omega), decide_eq_true (by omega), show Int.gcd q.num q.den = 1 from q.reduced]
  rfl
theorem stE.fit {q : Rat} (h : stE q 3) : fitQ q = true := by
  have g := h.gd
  have h1 : q.den ≤ 30 := Nat.le_of_dvd (by decide) g.1
  have h2 := g.2
  simp only [fitQ, Bool.and_eq_true, decide_eq_true_eq]
  omega
theorem isStand_fit {s : List Rat} {n : Nat} (hl : s.length = n) (h : ∀ q ∈ s, fitQ q = true) : isStand n (eS s) = true := by
  show ((s.map eQ).length == n && (s.map eQ).all isFr) = true
  rw [List.length_map, hl, all_map eQ _ (fun q hq => isFr_fit (h q hq))]
  simp
theorem DrF.fact {n : Nat} {f : Fct} (h : DrF n f) : isFact n (eF f) = true := by
  have hk := h.lk
  show (isW 0 20 (.int f.k) && (isStand n (eS f.s) && isStand n (eS f.e))) = true
  rw [isStand_fit h.ls (fun q hq => (h.es q hq).fit), isStand_fit h.le h.ee]
  show ((decide ((0 : Int) ≤ f.k) && decide ((f.k : Int) ≤ 20)) && _) = true
  rw [decide_eq_true (by omega), decide_eq_true (by omega)]
  rfl
theorem DrF.facts {n : Nat} {fs : List Fct} (h : ∀ f ∈ fs, DrF n f) (h1 : 1 ≤ fs.length) (h3 : fs.length ≤ 3) : isFacts n (eFs fs) = true := by
  show ((decide (1 ≤ (fs.map eF).length) && decide ((fs.map eF).length ≤ 3)) && (fs.map eF).all (isFact n)) = true
  rw [List.length_map, decide_eq_true h1, decide_eq_true h3, all_map eF _ (fun f hf => (h f hf).fact)]
  rfl
theorem DrF.ok {n : Nat} {fs : List Fct} (h : ∀ f ∈ fs, DrF n f) (h3 : fs.length ≤ 3) : FOk fs := ⟨by omega, fun f hf => ⟨10, stE.good (h f hf).es (by decide), by have := (h f hf).lk; omega⟩⟩
theorem wp_facts {st : Sto} {k n : Nat} {T : Stp} (hT : StpOk T) (h : Deck k n st) (hn : n + 30 < 1000000) : Wp (m__law_facts [.ref k, eT T]) st fun d s' => (∃ fs : List Fct, d = eFs fs ∧ fs.length ≤ 3 ∧ ∀ f ∈ fs, DrF T.rows.length f) ∧ Deck k (n + 30) s' := by
  have hn3 := hT.n3
  rw [show eT T = .tup [.int T.b, .tup (T.rows.map eR)] from rfl]
  simp only [m__law_facts, F__law_facts, sSeq, sSkip, sBreak, sCont, sSet, sDrop, sRet, sRetN, sIf, iteS, sPar, setAll, sAsg, Tg.bind, gotE, sNew, sApp, appL, ownD, sSeal, sealE, sVar, sC, sCons, sNil, sOp2, sOp1, sCall, sCb, sTup, mkT, sLst, mkL1, sLstF, capL, sTst, truD, sAnd, sOr, iteB, kB, sNot, sIfE, iteE, sAndV, andV, sOrV, orV, sNotV, notD, sIs, sFor, sWhile, iSeqS, itemsD, iRange, iZip, zipD, zip2D, iEnum, enumD, sComp, sVal, sCatF, catL, sListF, listL, sRef, sChain, chV, sSlice, sPart, sNoPart, intO, slD, sOwnIx, sOwnLen, sOwnPut, sTry, sPut, putD, pure_bindM, bad_bindM, exc_bindM, pureD, runD, startE, endD, fuelI, List.map_cons, List.map_nil, List.length_cons, List.length_nil, List.length_append, List.replicate, List.cons_append, List.nil_append, List.append_nil, List.set_cons_zero, List.set_cons_succ, List.getElem?_cons_zero, List.getElem?_cons_succ, wipeE, List.foldr, Nat.reduceAdd, Nat.reduceSub, Nat.reduceLeDiff, Nat.zero_add, Nat.add_zero, Nat.reduceLT, if_true, if_false, ite_true, ite_false, reduceIte, Bool.false_eq_true, eq_self, opNe_int, opEq_int, opLt, opLe, opGt, opGe, opCmp, opSub, opNeg, opAdd_int, ixD, atI_0, atI_1, atI_2, bTuple, bList, opIsN, opNotN, tyN, isTy, String.reduceBEq, Bool.true_or, Bool.and_false, Bool.or_false, Bool.false_or, Bool.true_and, Bool.false_and, Bool.and_true, Bool.not_true, Bool.not_false, bIs, forL, stepS, Sl.va.injEq, decide_eq_true_eq, bLen, List.length_map, bind_assocM]
  refine Wp.bind ((wp_pick h (by omega) (size := 3) (by decide) (by decide)).mono fun d s' ⟨⟨j, e, hj⟩, hd⟩ => ?_)
  subst e
  simp only [sSeq, sSkip, sBreak, sCont, sSet, sDrop, sRet, sRetN, sIf, iteS, sPar, setAll, sAsg, Tg.bind, gotE, sNew, sApp, appL, ownD, sSeal, sealE, sVar, sC, sCons, sNil, sOp2, sOp1, sCall, sCb, sTup, mkT, sLst, mkL1, sLstF, capL, sTst, truD, sAnd, sOr, iteB, kB, sNot, sIfE, iteE, sAndV, andV, sOrV, orV, sNotV, notD, sIs, sFor, sWhile, iSeqS, itemsD, iRange, iZip, zipD, zip2D, iEnum, enumD, sComp, sVal, sCatF, catL, sListF, listL, sRef, sChain, chV, sSlice, sPart, sNoPart, intO, slD, sOwnIx, sOwnLen, sOwnPut, sTry, sPut, putD, pure_bindM, bad_bindM, exc_bindM, pureD, runD, startE, endD, fuelI, List.map_cons, List.map_nil, List.length_cons, List.length_nil, List.length_append, List.replicate, List.cons_append, List.nil_append, List.append_nil, List.set_cons_zero, List.set_cons_succ, List.getElem?_cons_zero, List.getElem?_cons_succ, wipeE, List.foldr, Nat.reduceAdd, Nat.reduceSub, Nat.reduceLeDiff, Nat.zero_add, Nat.add_zero, Nat.reduceLT, if_true, if_false, ite_true, ite_false, reduceIte, Bool.false_eq_true, eq_self, opNe_int, opEq_int, opLt, opLe, opGt, opGe, opCmp, opSub, opNeg, opAdd_int, ixD, atI_0, atI_1, atI_2, bTuple, bList, opIsN, opNotN, tyN, isTy, String.reduceBEq, Bool.true_or, Bool.and_false, Bool.or_false, Bool.false_or, Bool.true_and, Bool.false_and, Bool.and_true, Bool.not_true, Bool.not_false, bIs, forL, stepS, Sl.va.injEq, decide_eq_true_eq, bind_assocM]
  rw [show (1 + (j : Int)) = ((1 + j : Nat) : Int) by omega, range_nat (by omega)]
  simp only [sSeq, sSkip, sBreak, sCont, sSet, sDrop, sRet, sRetN, sIf, iteS, sPar, setAll, sAsg, Tg.bind, gotE, sNew, sApp, appL, ownD, sSeal, sealE, sVar, sC, sCons, sNil, sOp2, sOp1, sCall, sCb, sTup, mkT, sLst, mkL1, sLstF, capL, sTst, truD, sAnd, sOr, iteB, kB, sNot, sIfE, iteE, sAndV, andV, sOrV, orV, sNotV, notD, sIs, sFor, sWhile, iSeqS, itemsD, iRange, iZip, zipD, zip2D, iEnum, enumD, sComp, sVal, sCatF, catL, sListF, listL, sRef, sChain, chV, sSlice, sPart, sNoPart, intO, slD, sOwnIx, sOwnLen, sOwnPut, sTry, sPut, putD, pure_bindM, bad_bindM, exc_bindM, pureD, runD, startE, endD, fuelI, List.map_cons, List.map_nil, List.length_cons, List.length_nil, List.length_append, List.replicate, List.cons_append, List.nil_append, List.append_nil, List.set_cons_zero, List.set_cons_succ, List.getElem?_cons_zero, List.getElem?_cons_succ, wipeE, List.foldr, Nat.reduceAdd, Nat.reduceSub, Nat.reduceLeDiff, Nat.zero_add, Nat.add_zero, Nat.reduceLT, if_true, if_false, ite_true, ite_false, reduceIte, Bool.false_eq_true, eq_self, opNe_int, opEq_int, opLt, opLe, opGt, opGe, opCmp, opSub, opNeg, opAdd_int, ixD, atI_0, atI_1, atI_2, bTuple, bList, opIsN, opNotN, tyN, isTy, String.reduceBEq, Bool.true_or, Bool.and_false, Bool.or_false, Bool.false_or, Bool.true_and, Bool.false_and, Bool.and_true, Bool.not_true, Bool.not_false, bIs, forL, stepS, Sl.va.injEq, decide_eq_true_eq, bind_assocM]
  have := wp_forI (t := .nm 4) (wp := [4, 5, 6, 7]) (body := L__law_facts_0) (N := 1 + j) (fun i env st => ∃ fs : List Fct, env = [.va (.ref k), .va (eT T), .va (eFs fs), .va (.int T.rows.length), .no, .no, .no, .no, .no] ∧ fs.length ≤ i ∧ (∀ f ∈ fs, DrF T.rows.length f) ∧ Deck k (n + 1 + 7 * i) st) (rangeD 0 (1 + j)) 0 [.va (.ref k), .va (eT T), .va (.tup []), .va (.int T.rows.length), .no, .no, .no, .no, .no] s' (by rw [rangeD_len]; omega) (fun d hd i env st hi ⟨fs, he, h1, h2, h3⟩ => ?_) ⟨[], rfl, by simp, fun x hx => absurd hx List.not_mem_nil, by simpa using hd⟩
  · rw [show eT T = .tup [.int T.b, .tup (T.rows.map eR)] from rfl] at this
    refine Wp.bind (this.mono fun ce s' ⟨e2, hc, fs, he, h1, h2, h3⟩ => ?_)
    rw [rangeD_len] at h1 h3
    subst hc he
    simp only [sSeq, sSkip, sBreak, sCont, sSet, sDrop, sRet, sRetN, sIf, iteS, sPar, setAll, sAsg, Tg.bind, gotE, sNew, sApp, appL, ownD, sSeal, sealE, sVar, sC, sCons, sNil, sOp2, sOp1, sCall, sCb, sTup, mkT, sLst, mkL1, sLstF, capL, sTst, truD, sAnd, sOr, iteB, kB, sNot, sIfE, iteE, sAndV, andV, sOrV, orV, sNotV, notD, sIs, sFor, sWhile, iSeqS, itemsD, iRange, iZip, zipD, zip2D, iEnum, enumD, sComp, sVal, sCatF, catL, sListF, listL, sRef, sChain, chV, sSlice, sPart, sNoPart, intO, slD, sOwnIx, sOwnLen, sOwnPut, sTry, sPut, putD, pure_bindM, bad_bindM, exc_bindM, pureD, runD, startE, endD, fuelI, List.map_cons, List.map_nil, List.length_cons, List.length_nil, List.length_append, List.replicate, List.cons_append, List.nil_append, List.append_nil, List.set_cons_zero, List.set_cons_succ, List.getElem?_cons_zero, List.getElem?_cons_succ, wipeE, List.foldr, Nat.reduceAdd, Nat.reduceSub, Nat.reduceLeDiff, Nat.zero_add, Nat.add_zero, Nat.reduceLT, if_true, if_false, ite_true, ite_false, reduceIte, Bool.false_eq_true, eq_self, opNe_int, opEq_int, opLt, opLe, opGt, opGe, opCmp, opSub, opNeg, opAdd_int, ixD, atI_0, atI_1, atI_2, bTuple, bList, opIsN, opNotN, tyN, isTy, String.reduceBEq, Bool.true_or, Bool.and_false, Bool.or_false, Bool.false_or, Bool.true_and, Bool.false_and, Bool.and_true, Bool.not_true, Bool.not_false, bIs, forL, stepS, Sl.va.injEq, decide_eq_true_eq]
    exact Wp.pure ⟨⟨fs, rfl, by omega, h2⟩, h3.mono (by omega)⟩
  · subst he
    refine ⟨_, rfl, ?_⟩
    simp only [L__law_facts_0, sSeq, sSkip, sBreak, sCont, sSet, sDrop, sRet, sRetN, sIf, iteS, sPar, setAll, sAsg, Tg.bind, gotE, sNew, sApp, appL, ownD, sSeal, sealE, sVar, sC, sCons, sNil, sOp2, sOp1, sCall, sCb, sTup, mkT, sLst, mkL1, sLstF, capL, sTst, truD, sAnd, sOr, iteB, kB, sNot, sIfE, iteE, sAndV, andV, sOrV, orV, sNotV, notD, sIs, sFor, sWhile, iSeqS, itemsD, iRange, iZip, zipD, zip2D, iEnum, enumD, sComp, sVal, sCatF, catL, sListF, listL, sRef, sChain, chV, sSlice, sPart, sNoPart, intO, slD, sOwnIx, sOwnLen, sOwnPut, sTry, sPut, putD, pure_bindM, bad_bindM, exc_bindM, pureD, runD, startE, endD, fuelI, List.map_cons, List.map_nil, List.length_cons, List.length_nil, List.length_append, List.replicate, List.cons_append, List.nil_append, List.append_nil, List.set_cons_zero, List.set_cons_succ, List.getElem?_cons_zero, List.getElem?_cons_succ, wipeE, List.foldr, Nat.reduceAdd, Nat.reduceSub, Nat.reduceLeDiff, Nat.zero_add, Nat.add_zero, Nat.reduceLT, if_true, if_false, ite_true, ite_false, reduceIte, Bool.false_eq_true, eq_self, opNe_int, opEq_int, opLt, opLe, opGt, opGe, opCmp, opSub, opNeg, opAdd_int, ixD, atI_0, atI_1, atI_2, bTuple, bList, opIsN, opNotN, tyN, isTy, String.reduceBEq, Bool.true_or, Bool.and_false, Bool.or_false, Bool.false_or, Bool.true_and, Bool.false_and, Bool.and_true, Bool.not_true, Bool.not_false, bIs, forL, stepS, Sl.va.injEq, decide_eq_true_eq, bind_assocM]
    refine Wp.bind ((wp_stand h3 (m := 3) (by omega) (by decide) (by omega)).mono fun d s' ⟨⟨s, e, hs1, hs2⟩, hd⟩ => ?_)
    subst e
    refine Wp.bind ((wp_pick hd (by omega) (size := 4) (by decide) (by decide)).mono fun d s' ⟨⟨m, e, hm⟩, hd2⟩ => ?_)
    subst e
    have ea := e__law_after (k := m) hT (stE.good hs2 (by decide)) (by omega)
    have le := afterQ_len m s hs1
    simp only [sSeq, sSkip, sBreak, sCont, sSet, sDrop, sRet, sRetN, sIf, iteS, sPar, setAll, sAsg, Tg.bind, gotE, sNew, sApp, appL, ownD, sSeal, sealE, sVar, sC, sCons, sNil, sOp2, sOp1, sCall, sCb, sTup, mkT, sLst, mkL1, sLstF, capL, sTst, truD, sAnd, sOr, iteB, kB, sNot, sIfE, iteE, sAndV, andV, sOrV, orV, sNotV, notD, sIs, sFor, sWhile, iSeqS, itemsD, iRange, iZip, zipD, zip2D, iEnum, enumD, sComp, sVal, sCatF, catL, sListF, listL, sRef, sChain, chV, sSlice, sPart, sNoPart, intO, slD, sOwnIx, sOwnLen, sOwnPut, sTry, sPut, putD, pure_bindM, bad_bindM, exc_bindM, pureD, runD, startE, endD, fuelI, List.map_cons, List.map_nil, List.length_cons, List.length_nil, List.length_append, List.replicate, List.cons_append, List.nil_append, List.append_nil, List.set_cons_zero, List.set_cons_succ, List.getElem?_cons_zero, List.getElem?_cons_succ, wipeE, List.foldr, Nat.reduceAdd, Nat.reduceSub, Nat.reduceLeDiff, Nat.zero_add, Nat.add_zero, Nat.reduceLT, if_true, if_false, ite_true, ite_false, reduceIte, Bool.false_eq_true, eq_self, opNe_int, opEq_int, opLt, opLe, opGt, opGe, opCmp, opSub, opNeg, opAdd_int, ixD, atI_0, atI_1, atI_2, bTuple, bList, opIsN, opNotN, tyN, isTy, String.reduceBEq, Bool.true_or, Bool.and_false, Bool.or_false, Bool.false_or, Bool.true_and, Bool.false_and, Bool.and_true, Bool.not_true, Bool.not_false, bIs, forL, stepS, Sl.va.injEq, decide_eq_true_eq, ea]
    rw [show eS (afterQ T s m) = .tup ((afterQ T s m).map eQ) from rfl]
    simp only [sSeq, sSkip, sBreak, sCont, sSet, sDrop, sRet, sRetN, sIf, iteS, sPar, setAll, sAsg, Tg.bind, gotE, sNew, sApp, appL, ownD, sSeal, sealE, sVar, sC, sCons, sNil, sOp2, sOp1, sCall, sCb, sTup, mkT, sLst, mkL1, sLstF, capL, sTst, truD, sAnd, sOr, iteB, kB, sNot, sIfE, iteE, sAndV, andV, sOrV, orV, sNotV, notD, sIs, sFor, sWhile, iSeqS, itemsD, iRange, iZip, zipD, zip2D, iEnum, enumD, sComp, sVal, sCatF, catL, sListF, listL, sRef, sChain, chV, sSlice, sPart, sNoPart, intO, slD, sOwnIx, sOwnLen, sOwnPut, sTry, sPut, putD, pure_bindM, bad_bindM, exc_bindM, pureD, runD, startE, endD, fuelI, List.map_cons, List.map_nil, List.length_cons, List.length_nil, List.length_append, List.replicate, List.cons_append, List.nil_append, List.append_nil, List.set_cons_zero, List.set_cons_succ, List.getElem?_cons_zero, List.getElem?_cons_succ, wipeE, List.foldr, Nat.reduceAdd, Nat.reduceSub, Nat.reduceLeDiff, Nat.zero_add, Nat.add_zero, Nat.reduceLT, if_true, if_false, ite_true, ite_false, reduceIte, Bool.false_eq_true, eq_self, opNe_int, opEq_int, opLt, opLe, opGt, opGe, opCmp, opSub, opNeg, opAdd_int, ixD, atI_0, atI_1, atI_2, bTuple, bList, opIsN, opNotN, tyN, isTy, String.reduceBEq, Bool.true_or, Bool.and_false, Bool.or_false, Bool.false_or, Bool.true_and, Bool.false_and, Bool.and_true, Bool.not_true, Bool.not_false, bIs, forL, stepS, Sl.va.injEq, decide_eq_true_eq]
    rw [fit_comp (by omega) rfl]
    simp only [sSeq, sSkip, sBreak, sCont, sSet, sDrop, sRet, sRetN, sIf, iteS, sPar, setAll, sAsg, Tg.bind, gotE, sNew, sApp, appL, ownD, sSeal, sealE, sVar, sC, sCons, sNil, sOp2, sOp1, sCall, sCb, sTup, mkT, sLst, mkL1, sLstF, capL, sTst, truD, sAnd, sOr, iteB, kB, sNot, sIfE, iteE, sAndV, andV, sOrV, orV, sNotV, notD, sIs, sFor, sWhile, iSeqS, itemsD, iRange, iZip, zipD, zip2D, iEnum, enumD, sComp, sVal, sCatF, catL, sListF, listL, sRef, sChain, chV, sSlice, sPart, sNoPart, intO, slD, sOwnIx, sOwnLen, sOwnPut, sTry, sPut, putD, pure_bindM, bad_bindM, exc_bindM, pureD, runD, startE, endD, fuelI, List.map_cons, List.map_nil, List.length_cons, List.length_nil, List.length_append, List.replicate, List.cons_append, List.nil_append, List.append_nil, List.set_cons_zero, List.set_cons_succ, List.getElem?_cons_zero, List.getElem?_cons_succ, wipeE, List.foldr, Nat.reduceAdd, Nat.reduceSub, Nat.reduceLeDiff, Nat.zero_add, Nat.add_zero, Nat.reduceLT, if_true, if_false, ite_true, ite_false, reduceIte, Bool.false_eq_true, eq_self, opNe_int, opEq_int, opLt, opLe, opGt, opGe, opCmp, opSub, opNeg, opAdd_int, ixD, atI_0, atI_1, atI_2, bTuple, bList, opIsN, opNotN, tyN, isTy, String.reduceBEq, Bool.true_or, Bool.and_false, Bool.or_false, Bool.false_or, Bool.true_and, Bool.false_and, Bool.and_true, Bool.not_true, Bool.not_false, bIs, forL, stepS, Sl.va.injEq, decide_eq_true_eq, opEq_nil (okE_map (fun _ : Rat => D.int 1) (fun _ => rfl) _) (Nat.le_trans (dpE_map (fun _ : Rat => D.int 1) (n := 0) (fun _ => Nat.le_refl 0) _) (by decide))]
    have hD : Deck k (n + 1 + 7 * (i + 1)) s' := hd2.mono (by omega)
    cases hf : (List.map (fun _ => D.int 1) ((afterQ T s m).filter fun q => !fitQ q)).isEmpty with
    | false =>
      exact Wp.pure ⟨_, rfl, fs, rfl, by omega, h2, hD⟩
    | true =>
      have hfit : ∀ q ∈ afterQ T s m, fitQ q = true := by
        intro q hq
        simp only [List.isEmpty_iff, List.map_eq_nil_iff, List.filter_eq_nil_iff] at hf
        have := hf q hq
        simpa using this
      have ha := opAdd_tup (xs := fs.map eF) (ys := [eF ⟨s, m, afterQ T s m⟩]) (by simp; omega)
      rw [show eF ⟨s, m, afterQ T s m⟩ = .tup [eS s, .int m, .tup ((afterQ T s m).map eQ)] from rfl] at ha
      rw [show eFs fs = .tup (fs.map eF) from rfl]
      simp only [ha, sSeq, sSkip, sBreak, sCont, sSet, sDrop, sRet, sRetN, sIf, iteS, sPar, setAll, sAsg, Tg.bind, gotE, sNew, sApp, appL, ownD, sSeal, sealE, sVar, sC, sCons, sNil, sOp2, sOp1, sCall, sCb, sTup, mkT, sLst, mkL1, sLstF, capL, sTst, truD, sAnd, sOr, iteB, kB, sNot, sIfE, iteE, sAndV, andV, sOrV, orV, sNotV, notD, sIs, sFor, sWhile, iSeqS, itemsD, iRange, iZip, zipD, zip2D, iEnum, enumD, sComp, sVal, sCatF, catL, sListF, listL, sRef, sChain, chV, sSlice, sPart, sNoPart, intO, slD, sOwnIx, sOwnLen, sOwnPut, sTry, sPut, putD, pure_bindM, bad_bindM, exc_bindM, pureD, runD, startE, endD, fuelI, List.map_cons, List.map_nil, List.length_cons, List.length_nil, List.length_append, List.replicate, List.cons_append, List.nil_append, List.append_nil, List.set_cons_zero, List.set_cons_succ, List.getElem?_cons_zero, List.getElem?_cons_succ, wipeE, List.foldr, Nat.reduceAdd, Nat.reduceSub, Nat.reduceLeDiff, Nat.zero_add, Nat.add_zero, Nat.reduceLT, if_true, if_false, ite_true, ite_false, reduceIte, Bool.false_eq_true, eq_self, opNe_int, opEq_int, opLt, opLe, opGt, opGe, opCmp, opSub, opNeg, opAdd_int, ixD, atI_0, atI_1, atI_2, bTuple, bList, opIsN, opNotN, tyN, isTy, String.reduceBEq, Bool.true_or, Bool.and_false, Bool.or_false, Bool.false_or, Bool.true_and, Bool.false_and, Bool.and_true, Bool.not_true, Bool.not_false, bIs, forL, stepS, Sl.va.injEq, decide_eq_true_eq]
      refine Wp.pure ⟨_, rfl, fs ++ [⟨s, m, afterQ T s m⟩], ?_, by simp; omega, mem_snoc h2 ⟨hs1, hs2, hm, le, hfit⟩, hD⟩
      rw [show eFs (fs ++ [⟨s, m, afterQ T s m⟩]) = .tup (fs.map eF ++ [.tup [eS s, .int m, .tup ((afterQ T s m).map eQ)]]) from by unfold eFs; rw [List.map_append]; rfl]
      rfl
end Dt

set_option maxHeartbeats 4000000
namespace Dt
open PySem PySem.Spec PyProof.Rows L2
/-! ### the same -/
mutual
/-- plain data of not too many parts -/
def smD : D → Bool
  | .tup ds => decide (ds.length ≤ 1000000) && smDs ds
  | .lst ds => decide (ds.length ≤ 1000000) && smDs ds
  | .ref _ => false
  | .adr _ => false
  | _ => true
def smDs : List D → Bool
  | [] => true
  | d :: ds => smD d && smDs ds
end
mutual
theorem eqD_refl : ∀ {d : D}, okE d = true → eqD d d = true
  | .non, _ => rfl
  | .bl b, _ => by simp [eqD]
  | .int i, _ => by simp [eqD]
  | .str x, _ => by simp [eqD]
  | .tup ds, h => by
    simp only [okE] at h
    simp only [eqD]
    exact eqDs_refl h
  | .lst ds, h => by
    simp only [okE] at h
    simp only [eqD]
    exact eqDs_refl h
theorem eqDs_refl : ∀ {ds : List D}, okEs ds = true → eqDs ds ds = true
  | [], _ => rfl
  | d :: ds, h => by
    simp only [okEs, Bool.and_eq_true] at h
    simp only [eqDs, eqD_refl h.1, eqDs_refl h.2, Bool.and_self]
end
def sortD : D → Int
  | .bl _ => 1
  | .int _ => 2
  | .str _ => 3
  | .lst _ => 4
  | .tup _ => 5
  | _ => 6
theorem e__law_sort {d : D} (h : plD d = true) : m__law_sort [d] = M.pure (.int (sortD d)) := by
  cases d with
  | ref k => exact absurd h Bool.false_ne_true
  | adr k => exact absurd h Bool.false_ne_true
  | _ => rfl
mutual
theorem sm_pl : ∀ {d : D}, smD d = true → plD d = true
  | .non, _ => rfl
  | .bl b, _ => rfl
  | .int i, _ => rfl
  | .str x, _ => rfl
  | .tup ds, h => by
    simp only [smD, Bool.and_eq_true] at h
    simp only [plD]
    exact sms_pls h.2
  | .lst ds, h => by
    simp only [smD, Bool.and_eq_true] at h
    simp only [plD]
    exact sms_pls h.2
  | .ref k, h => absurd h Bool.false_ne_true
  | .adr k, h => absurd h Bool.false_ne_true
theorem sms_pls : ∀ {ds : List D}, smDs ds = true → plDs ds = true
  | [], _ => rfl
  | d :: ds, h => by
    simp only [smDs, Bool.and_eq_true] at h
    simp only [plDs, sm_pl h.1, sms_pls h.2, Bool.and_self]
end
theorem smDs_mem : ∀ {ds : List D} {d : D}, smDs ds = true → d ∈ ds → smD d = true
  | d :: ds, x, h, hm => by
    simp only [smDs, Bool.and_eq_true] at h
    rcases List.mem_cons.mp hm with rfl | hm
    · exact h.1
    · exact smDs_mem h.2 hm
theorem okEs_mem : ∀ {ds : List D} {d : D}, okEs ds = true → d ∈ ds → okE d = true
  | d :: ds, x, h, hm => by
    simp only [okEs, Bool.and_eq_true] at h
    rcases List.mem_cons.mp hm with rfl | hm
    · exact h.1
    · exact okEs_mem h.2 hm
theorem dpEs_mem : ∀ {ds : List D} {d : D}, d ∈ ds → dpE d ≤ dpEs ds
  | d :: ds, x, hm => by
    simp only [dpEs]
    rcases List.mem_cons.mp hm with rfl | hm
    · exact Nat.le_max_left _ _
    · exact Nat.le_trans (dpEs_mem hm) (Nat.le_max_right _ _)
theorem enum_id (ds : List D) : enumL 0 ds = (ds.zipIdx 0).map fun x => .tup [.int (x.2 : Nat), x.1] := by
  have := enum_map (fun d : D => d) ds 0
  rwa [List.map_id'] at this
theorem same_comp {n : Nat} {ds : List D} {x : D} (hx : x = .tup ds ∨ x = .lst ds) (hl : ds.length ≤ 1000000) (ih : ∀ d ∈ ds, m__law_same n [d, d] = M.pure (.bl true)) {y : D} : cmpT (.tp [2, 3]) [2, 3] (I__law_same_0 (m__law_same n)) E__law_same_0 (enumL 0 ds) [.va y, .va x, .no, .no] = M.pure (.lst []) := by
  have hf : ((ds.zipIdx 0).filter fun _ => false) = [] := List.filter_eq_nil_iff.mpr (fun _ _ => Bool.false_ne_true)
  rw [enum_id]
  refine (cmpT_filtF (fun x : D × Nat => D.tup [.int (x.2 : Nat), x.1]) (fun _ => false) (fun _ => .non) (by simpa using hl) (fun d hd => ?_)).trans (by rw [hf]; rfl)
  obtain ⟨d, j⟩ := d
  have hr : ds[j]? = some d := List.mk_mem_zipIdx_iff_getElem?.mp hd
  have ha := atI_map (fun d : D => d) hr
  rw [List.map_id'] at ha
  refine ⟨_, rfl, ?_, fun h => absurd h Bool.false_ne_true⟩
  rcases hx with rfl | rfl
  · simp only [I__law_same_0, sSeq, sSkip, sBreak, sCont, sSet, sDrop, sRet, sRetN, sIf, iteS, sPar, setAll, sAsg, Tg.bind, gotE, sNew, sApp, appL, ownD, sSeal, sealE, sVar, sC, sCons, sNil, sOp2, sOp1, sCall, sCb, sTup, mkT, sLst, mkL1, sLstF, capL, sTst, truD, sAnd, sOr, iteB, kB, sNot, sIfE, iteE, sAndV, andV, sOrV, orV, sNotV, notD, sIs, sFor, sWhile, iSeqS, itemsD, iRange, iZip, zipD, zip2D, iEnum, enumD, sComp, sVal, sCatF, catL, sListF, listL, sRef, sChain, chV, sSlice, sPart, sNoPart, intO, slD, sOwnIx, sOwnLen, sOwnPut, sTry, sPut, putD, pure_bindM, bad_bindM, exc_bindM, pureD, runD, startE, endD, fuelI, List.map_cons, List.map_nil, List.length_cons, List.length_nil, List.length_append, List.replicate, List.cons_append, List.nil_append, List.append_nil, List.set_cons_zero, List.set_cons_succ, List.getElem?_cons_zero, List.getElem?_cons_succ, wipeE, List.foldr, Nat.reduceAdd, Nat.reduceSub, Nat.reduceLeDiff, Nat.zero_add, Nat.add_zero, Nat.reduceLT, if_true, if_false, ite_true, ite_false, reduceIte, Bool.false_eq_true, eq_self, opNe_int, opEq_int, opLt, opLe, opGt, opGe, opCmp, opSub, opNeg, opAdd_int, ixD, atI_0, atI_1, atI_2, bTuple, bList, opIsN, opNotN, tyN, isTy, String.reduceBEq, Bool.true_or, Bool.and_false, Bool.or_false, Bool.false_or, Bool.true_and, Bool.false_and, Bool.and_true, Bool.not_true, Bool.not_false, bIs, forL, stepS, Sl.va.injEq, decide_eq_true_eq, ha, ih d (List.mem_of_getElem? hr)]
  · simp only [I__law_same_0, sSeq, sSkip, sBreak, sCont, sSet, sDrop, sRet, sRetN, sIf, iteS, sPar, setAll, sAsg, Tg.bind, gotE, sNew, sApp, appL, ownD, sSeal, sealE, sVar, sC, sCons, sNil, sOp2, sOp1, sCall, sCb, sTup, mkT, sLst, mkL1, sLstF, capL, sTst, truD, sAnd, sOr, iteB, kB, sNot, sIfE, iteE, sAndV, andV, sOrV, orV, sNotV, notD, sIs, sFor, sWhile, iSeqS, itemsD, iRange, iZip, zipD, zip2D, iEnum, enumD, sComp, sVal, sCatF, catL, sListF, listL, sRef, sChain, chV, sSlice, sPart, sNoPart, intO, slD, sOwnIx, sOwnLen, sOwnPut, sTry, sPut, putD, pure_bindM, bad_bindM, exc_bindM, pureD, runD, startE, endD, fuelI, List.map_cons, List.map_nil, List.length_cons, List.length_nil, List.length_append, List.replicate, List.cons_append, List.nil_append, List.append_nil, List.set_cons_zero, List.set_cons_succ, List.getElem?_cons_zero, List.getElem?_cons_succ, wipeE, List.foldr, Nat.reduceAdd, Nat.reduceSub, Nat.reduceLeDiff, Nat.zero_add, Nat.add_zero, Nat.reduceLT, if_true, if_false, ite_true, ite_false, reduceIte, Bool.false_eq_true, eq_self, opNe_int, opEq_int, opLt, opLe, opGt, opGe, opCmp, opSub, opNeg, opAdd_int, ixD, atI_0, atI_1, atI_2, bTuple, bList, opIsN, opNotN, tyN, isTy, String.reduceBEq, Bool.true_or, Bool.and_false, Bool.or_false, Bool.false_or, Bool.true_and, Bool.false_and, Bool.and_true, Bool.not_true, Bool.not_false, bIs, forL, stepS, Sl.va.injEq, decide_eq_true_eq, ha, ih d (List.mem_of_getElem? hr)]
theorem e__law_same : ∀ (n : Nat) {d : D}, smD d = true → okE d = true → dpE d < n → n ≤ 60 → m__law_same n [d, d] = M.pure (.bl true)
  | n + 1, d, h1, h2, h3, h4 => by
    have es := e__law_sort (sm_pl h1)
    have eq := opEq_of (eqOk_of2 h2 h2 (by omega) (by omega))
    rw [eqD_refl h2] at eq
    have hnil : opEq (.lst []) (.lst []) = M.pure (.bl true) := rfl
    cases d with
    | tup ds =>
      simp only [smD, Bool.and_eq_true, decide_eq_true_eq] at h1
      simp only [okE] at h2
      simp only [dpE] at h3
      have ih := fun d hd => e__law_same n (smDs_mem h1.2 hd) (okEs_mem h2 hd) (by have := dpEs_mem (ds := ds) (d := d) hd; omega) (by omega)
      simp only [sortD] at es
      simp only [m__law_same, F__law_same, sSeq, sSkip, sBreak, sCont, sSet, sDrop, sRet, sRetN, sIf, iteS, sPar, setAll, sAsg, Tg.bind, gotE, sNew, sApp, appL, ownD, sSeal, sealE, sVar, sC, sCons, sNil, sOp2, sOp1, sCall, sCb, sTup, mkT, sLst, mkL1, sLstF, capL, sTst, truD, sAnd, sOr, iteB, kB, sNot, sIfE, iteE, sAndV, andV, sOrV, orV, sNotV, notD, sIs, sFor, sWhile, iSeqS, itemsD, iRange, iZip, zipD, zip2D, iEnum, enumD, sComp, sVal, sCatF, catL, sListF, listL, sRef, sChain, chV, sSlice, sPart, sNoPart, intO, slD, sOwnIx, sOwnLen, sOwnPut, sTry, sPut, putD, pure_bindM, bad_bindM, exc_bindM, pureD, runD, startE, endD, fuelI, List.map_cons, List.map_nil, List.length_cons, List.length_nil, List.length_append, List.replicate, List.cons_append, List.nil_append, List.append_nil, List.set_cons_zero, List.set_cons_succ, List.getElem?_cons_zero, List.getElem?_cons_succ, wipeE, List.foldr, Nat.reduceAdd, Nat.reduceSub, Nat.reduceLeDiff, Nat.zero_add, Nat.add_zero, Nat.reduceLT, if_true, if_false, ite_true, ite_false, reduceIte, Bool.false_eq_true, eq_self, opNe_int, opEq_int, opLt, opLe, opGt, opGe, opCmp, opSub, opNeg, opAdd_int, ixD, atI_0, atI_1, atI_2, bTuple, bList, opIsN, opNotN, tyN, isTy, String.reduceBEq, Bool.true_or, Bool.and_false, Bool.or_false, Bool.false_or, Bool.true_and, Bool.false_and, Bool.and_true, Bool.not_true, Bool.not_false, bIs, forL, stepS, Sl.va.injEq, decide_eq_true_eq, es, bLen, beq_self_eq_true, Int.reduceLT, decide_true, same_comp (.inl rfl) h1.1 ih, hnil]
    | lst ds =>
      simp only [smD, Bool.and_eq_true, decide_eq_true_eq] at h1
      simp only [okE] at h2
      simp only [dpE] at h3
      have ih := fun d hd => e__law_same n (smDs_mem h1.2 hd) (okEs_mem h2 hd) (by have := dpEs_mem (ds := ds) (d := d) hd; omega) (by omega)
      simp only [sortD] at es
      simp only [m__law_same, F__law_same, sSeq, sSkip, sBreak, sCont, sSet, sDrop, sRet, sRetN, sIf, iteS, sPar, setAll, sAsg, Tg.bind, gotE, sNew, sApp, appL, ownD, sSeal, sealE, sVar, sC, sCons, sNil, sOp2, sOp1, sCall, sCb, sTup, mkT, sLst, mkL1, sLstF, capL, sTst, truD, sAnd, sOr, iteB, kB, sNot, sIfE, iteE, sAndV, andV, sOrV, orV, sNotV, notD, sIs, sFor, sWhile, iSeqS, itemsD, iRange, iZip, zipD, zip2D, iEnum, enumD, sComp, sVal, sCatF, catL, sListF, listL, sRef, sChain, chV, sSlice, sPart, sNoPart, intO, slD, sOwnIx, sOwnLen, sOwnPut, sTry, sPut, putD, pure_bindM, bad_bindM, exc_bindM, pureD, runD, startE, endD, fuelI, List.map_cons, List.map_nil, List.length_cons, List.length_nil, List.length_append, List.replicate, List.cons_append, List.nil_append, List.append_nil, List.set_cons_zero, List.set_cons_succ, List.getElem?_cons_zero, List.getElem?_cons_succ, wipeE, List.foldr, Nat.reduceAdd, Nat.reduceSub, Nat.reduceLeDiff, Nat.zero_add, Nat.add_zero, Nat.reduceLT, if_true, if_false, ite_true, ite_false, reduceIte, Bool.false_eq_true, eq_self, opNe_int, opEq_int, opLt, opLe, opGt, opGe, opCmp, opSub, opNeg, opAdd_int, ixD, atI_0, atI_1, atI_2, bTuple, bList, opIsN, opNotN, tyN, isTy, String.reduceBEq, Bool.true_or, Bool.and_false, Bool.or_false, Bool.false_or, Bool.true_and, Bool.false_and, Bool.and_true, Bool.not_true, Bool.not_false, bIs, forL, stepS, Sl.va.injEq, decide_eq_true_eq, es, bLen, beq_self_eq_true, Int.reduceLT, decide_true, same_comp (.inr rfl) h1.1 ih, hnil]
    | ref k => exact absurd h1 Bool.false_ne_true
    | adr k => exact absurd h1 Bool.false_ne_true
    | non => simp only [sortD] at es; simp only [m__law_same, F__law_same, sSeq, sSkip, sBreak, sCont, sSet, sDrop, sRet, sRetN, sIf, iteS, sPar, setAll, sAsg, Tg.bind, gotE, sNew, sApp, appL, ownD, sSeal, sealE, sVar, sC, sCons, sNil, sOp2, sOp1, sCall, sCb, sTup, mkT, sLst, mkL1, sLstF, capL, sTst, truD, sAnd, sOr, iteB, kB, sNot, sIfE, iteE, sAndV, andV, sOrV, orV, sNotV, notD, sIs, sFor, sWhile, iSeqS, itemsD, iRange, iZip, zipD, zip2D, iEnum, enumD, sComp, sVal, sCatF, catL, sListF, listL, sRef, sChain, chV, sSlice, sPart, sNoPart, intO, slD, sOwnIx, sOwnLen, sOwnPut, sTry, sPut, putD, pure_bindM, bad_bindM, exc_bindM, pureD, runD, startE, endD, fuelI, List.map_cons, List.map_nil, List.length_cons, List.length_nil, List.length_append, List.replicate, List.cons_append, List.nil_append, List.append_nil, List.set_cons_zero, List.set_cons_succ, List.getElem?_cons_zero, List.getElem?_cons_succ, wipeE, List.foldr, Nat.reduceAdd, Nat.reduceSub, Nat.reduceLeDiff, Nat.zero_add, Nat.add_zero, Nat.reduceLT, if_true, if_false, ite_true, ite_false, reduceIte, Bool.false_eq_true, eq_self, opNe_int, opEq_int, opLt, opLe, opGt, opGe, opCmp, opSub, opNeg, opAdd_int, ixD, atI_0, atI_1, atI_2, bTuple, bList, opIsN, opNotN, tyN, isTy, String.reduceBEq, Bool.true_or, Bool.and_false, Bool.or_false, Bool.false_or, Bool.true_and, Bool.false_and, Bool.and_true, Bool.not_true, Bool.not_false, bIs, forL, stepS, Sl.va.injEq, decide_eq_true_eq, es, beq_self_eq_true, Int.reduceLT, decide_true, decide_false, eq]
    | bl b => simp only [sortD] at es; simp only [m__law_same, F__law_same, sSeq, sSkip, sBreak, sCont, sSet, sDrop, sRet, sRetN, sIf, iteS, sPar, setAll, sAsg, Tg.bind, gotE, sNew, sApp, appL, ownD, sSeal, sealE, sVar, sC, sCons, sNil, sOp2, sOp1, sCall, sCb, sTup, mkT, sLst, mkL1, sLstF, capL, sTst, truD, sAnd, sOr, iteB, kB, sNot, sIfE, iteE, sAndV, andV, sOrV, orV, sNotV, notD, sIs, sFor, sWhile, iSeqS, itemsD, iRange, iZip, zipD, zip2D, iEnum, enumD, sComp, sVal, sCatF, catL, sListF, listL, sRef, sChain, chV, sSlice, sPart, sNoPart, intO, slD, sOwnIx, sOwnLen, sOwnPut, sTry, sPut, putD, pure_bindM, bad_bindM, exc_bindM, pureD, runD, startE, endD, fuelI, List.map_cons, List.map_nil, List.length_cons, List.length_nil, List.length_append, List.replicate, List.cons_append, List.nil_append, List.append_nil, List.set_cons_zero, List.set_cons_succ, List.getElem?_cons_zero, List.getElem?_cons_succ, wipeE, List.foldr, Nat.reduceAdd, Nat.reduceSub, Nat.reduceLeDiff, Nat.zero_add, Nat.add_zero, Nat.reduceLT, if_true, if_false, ite_true, ite_false, reduceIte, Bool.false_eq_true, eq_self, opNe_int, opEq_int, opLt, opLe, opGt, opGe, opCmp, opSub, opNeg, opAdd_int, ixD, atI_0, atI_1, atI_2, bTuple, bList, opIsN, opNotN, tyN, isTy, String.reduceBEq, Bool.true_or, Bool.and_false, Bool.or_false, Bool.false_or, Bool.true_and, Bool.false_and, Bool.and_true, Bool.not_true, Bool.not_false, bIs, forL, stepS, Sl.va.injEq, decide_eq_true_eq, es, beq_self_eq_true, Int.reduceLT, decide_true, decide_false, eq]
    | int b => simp only [sortD] at es; simp only [m__law_same, F__law_same, sSeq, sSkip, sBreak, sCont, sSet, sDrop, sRet, sRetN, sIf, iteS, sPar, setAll, sAsg, Tg.bind, gotE, sNew, sApp, appL, ownD, sSeal, sealE, sVar, sC, sCons, sNil, sOp2, sOp1, sCall, sCb, sTup, mkT, sLst, mkL1, sLstF, capL, sTst, truD, sAnd, sOr, iteB, kB, sNot, sIfE, iteE, sAndV, andV, sOrV, orV, sNotV, notD, sIs, sFor, sWhile, iSeqS, itemsD, iRange, iZip, zipD, zip2D, iEnum, enumD, sComp, sVal, sCatF, catL, sListF, listL, sRef, sChain, chV, sSlice, sPart, sNoPart, intO, slD, sOwnIx, sOwnLen, sOwnPut, sTry, sPut, putD, pure_bindM, bad_bindM, exc_bindM, pureD, runD, startE, endD, fuelI, List.map_cons, List.map_nil, List.length_cons, List.length_nil, List.length_append, List.replicate, List.cons_append, List.nil_append, List.append_nil, List.set_cons_zero, List.set_cons_succ, List.getElem?_cons_zero, List.getElem?_cons_succ, wipeE, List.foldr, Nat.reduceAdd, Nat.reduceSub, Nat.reduceLeDiff, Nat.zero_add, Nat.add_zero, Nat.reduceLT, if_true, if_false, ite_true, ite_false, reduceIte, Bool.false_eq_true, eq_self, opNe_int, opEq_int, opLt, opLe, opGt, opGe, opCmp, opSub, opNeg, opAdd_int, ixD, atI_0, atI_1, atI_2, bTuple, bList, opIsN, opNotN, tyN, isTy, String.reduceBEq, Bool.true_or, Bool.and_false, Bool.or_false, Bool.false_or, Bool.true_and, Bool.false_and, Bool.and_true, Bool.not_true, Bool.not_false, bIs, forL, stepS, Sl.va.injEq, decide_eq_true_eq, es, beq_self_eq_true, Int.reduceLT, decide_true, decide_false, eq]
    | str b => simp only [sortD] at es; simp only [m__law_same, F__law_same, sSeq, sSkip, sBreak, sCont, sSet, sDrop, sRet, sRetN, sIf, iteS, sPar, setAll, sAsg, Tg.bind, gotE, sNew, sApp, appL, ownD, sSeal, sealE, sVar, sC, sCons, sNil, sOp2, sOp1, sCall, sCb, sTup, mkT, sLst, mkL1, sLstF, capL, sTst, truD, sAnd, sOr, iteB, kB, sNot, sIfE, iteE, sAndV, andV, sOrV, orV, sNotV, notD, sIs, sFor, sWhile, iSeqS, itemsD, iRange, iZip, zipD, zip2D, iEnum, enumD, sComp, sVal, sCatF, catL, sListF, listL, sRef, sChain, chV, sSlice, sPart, sNoPart, intO, slD, sOwnIx, sOwnLen, sOwnPut, sTry, sPut, putD, pure_bindM, bad_bindM, exc_bindM, pureD, runD, startE, endD, fuelI, List.map_cons, List.map_nil, List.length_cons, List.length_nil, List.length_append, List.replicate, List.cons_append, List.nil_append, List.append_nil, List.set_cons_zero, List.set_cons_succ, List.getElem?_cons_zero, List.getElem?_cons_succ, wipeE, List.foldr, Nat.reduceAdd, Nat.reduceSub, Nat.reduceLeDiff, Nat.zero_add, Nat.add_zero, Nat.reduceLT, if_true, if_false, ite_true, ite_false, reduceIte, Bool.false_eq_true, eq_self, opNe_int, opEq_int, opLt, opLe, opGt, opGe, opCmp, opSub, opNeg, opAdd_int, ixD, atI_0, atI_1, atI_2, bTuple, bList, opIsN, opNotN, tyN, isTy, String.reduceBEq, Bool.true_or, Bool.and_false, Bool.or_false, Bool.false_or, Bool.true_and, Bool.false_and, Bool.and_true, Bool.not_true, Bool.not_false, bIs, forL, stepS, Sl.va.injEq, decide_eq_true_eq, es, beq_self_eq_true, Int.reduceLT, decide_true, decide_false, eq]
theorem flat_congr {α : Type} {f g : α → List D} : ∀ {l : List α}, (∀ a ∈ l, f a = g a) → l.flatMap f = l.flatMap g
  | [], h => rfl
  | a :: l, h => by
    rw [List.flatMap_cons, List.flatMap_cons, h a (by simp), flat_congr (fun b hb => h b (by simp [hb]))]
theorem zip_range {α : Type} (dd : α) (l : List α) : l.zipIdx 0 = (List.range l.length).map fun i => (l[i]?.getD dd, i) := by
  apply List.ext_getElem?
  intro m
  rw [List.getElem?_zipIdx, List.getElem?_map]
  by_cases h : m < l.length
  · rw [List.getElem?_eq_getElem h, List.getElem?_range h]
    simp [List.getElem?_eq_getElem h]
  · rw [List.getElem?_eq_none (by omega), List.getElem?_eq_none (by simpa using h)]
    rfl
theorem toldQ_range {T : Stp} (h : StpOk T) (fs : List Fct) : toldQ T fs = (List.range T.rows.length).flatMap fun i => (List.range T.rows.length).flatMap fun j => ent19.flatMap (told1 T fs i j (entQ T i j)) := by
  unfold toldQ
  rw [zip_range [] T.rows, List.flatMap_map]
  refine flat_congr fun i hi => ?_
  have hi' := List.mem_range.mp hi
  have hr : T.rows[i]? = some T.rows[i] := List.getElem?_eq_getElem hi'
  have hl := h.len _ (List.getElem_mem hi')
  unfold told3
  simp only [hr, Option.getD_some]
  rw [zip_range 0 T.rows[i], List.flatMap_map, hl]
  refine flat_congr fun j hj => ?_
  unfold told2 entQ
  simp only [hr, Option.getD_some]
end Dt

set_option maxHeartbeats 4000000
namespace Dt
open PySem PySem.Spec PyProof.Rows L2
/-! ### a row of statements, one by one -/
theorem wp_seq {F G : SS} {env : Env} {st : Sto} {Q : Ctl × Env → Sto → Prop} (h : Wp (F env) st fun ce s' => ∃ e2, ce = (.nx, e2) ∧ Wp (G e2) s' Q) : Wp (sSeq F G env) st Q := by
  unfold sSeq
  exact Wp.bind (h.mono fun ce s' ⟨e2, hc, hw⟩ => by subst hc; exact hw)
theorem wp_seqP {F G : SS} {env e2 : Env} {st : Sto} {Q : Ctl × Env → Sto → Prop} (h : F env = M.pure (.nx, e2)) (hw : Wp (G e2) st Q) : Wp (sSeq F G env) st Q := by
  unfold sSeq
  rw [h, pure_bindM]
  exact hw
theorem wp_set {F : SE} {i : Nat} {env : Env} {st : Sto} {Q : Ctl × Env → Sto → Prop} (h : Wp (F env) st fun d s' => Q (.nx, env.set i (.va d)) s') : Wp (sSet i F env) st Q := by
  unfold sSet
  exact Wp.bind (h.mono fun d s' hq => Wp.pure hq)
theorem wp_seqSet {F : SE} {i : Nat} {G : SS} {env : Env} {st : Sto} {Q : Ctl × Env → Sto → Prop} (h : Wp (F env) st fun d s' => Wp (G (env.set i (.va d))) s' Q) : Wp (sSeq (sSet i F) G env) st Q :=
  wp_seq (wp_set (h.mono fun d s' hq => ⟨_, rfl, hq⟩))
theorem wp_call {f : List D → M D} {Fs : SA} {env : Env} {ds : List D} {st : Sto} {Q : D → Sto → Prop} (h : Fs env = M.pure ds) (hw : Wp (f ds) st Q) : Wp (sCall f Fs env) st Q := by
  unfold sCall
  rw [h, pure_bindM]
  exact hw
theorem wp_op2 {op : D → D → M D} {F G : SE} {env : Env} {st : Sto} {Q : D → Sto → Prop} (h : Wp (F env) st fun a s => Wp (G env) s fun b s' => Wp (op a b) s' Q) : Wp (sOp2 op F G env) st Q := by
  unfold sOp2
  exact Wp.bind (h.mono fun a s hg => Wp.bind hg)
theorem Wp.eq {α : Type} {m m' : M α} {st : Sto} {Q : α → Sto → Prop} (h : m = m') (hw : Wp m' st Q) : Wp m st Q := h ▸ hw
theorem Wp.pureE {α : Type} {m : M α} {a : α} {st : Sto} {Q : α → Sto → Prop} (h : m = M.pure a) (hw : Q a st) : Wp m st Q := by
  rw [h]
  exact Wp.pure hw
theorem wp_seqCall {f : List D → M D} {Fs : SA} {i : Nat} {G : SS} {env : Env} {ds : List D} {st : Sto} {Q : Ctl × Env → Sto → Prop} (h : Fs env = M.pure ds) (hw : Wp (f ds) st fun d s' => Wp (G (env.set i (.va d))) s' Q) : Wp (sSeq (sSet i (sCall f Fs)) G env) st Q :=
  wp_seqSet (wp_call h hw)
theorem wp_for {src : SA} {t : Tg} {wp : List Nat} {body : SS} {env : Env} {ds : List D} {st : Sto} {Q : Ctl × Env → Sto → Prop} (h : src env = M.pure ds) (hw : Wp (forL t wp body ds (wipeE wp env)) st Q) : Wp (sFor src t wp body env) st Q := by
  unfold sFor
  rw [h, pure_bindM]
  exact hw
theorem wp_seqFor {src : SA} {t : Tg} {wp : List Nat} {body G : SS} {env : Env} {ds : List D} {st : Sto} {Q : Ctl × Env → Sto → Prop} (h : src env = M.pure ds) (hw : Wp (forL t wp body ds (wipeE wp env)) st fun ce s' => ∃ e2, ce = (.nx, e2) ∧ Wp (G e2) s' Q) : Wp (sSeq (sFor src t wp body) G env) st Q :=
  wp_seq (wp_for h hw)
theorem wp_seal {i : Nat} {A : SS} {env e2 : Env} {st : Sto} {Q : Ctl × Env → Sto → Prop} (h : sealE i env = e2) (hw : Wp (A e2) st Q) : Wp (sSeal i A env) st Q := by
  unfold sSeal
  rw [h]
  exact hw
theorem wp_ifT {c : SB} {A B : SS} {env : Env} {st : Sto} {Q : Ctl × Env → Sto → Prop} (h : c env = M.pure true) (hw : Wp (A env) st Q) : Wp (sIf c A B env) st Q := by
  unfold sIf
  rw [h, pure_bindM]
  exact hw
theorem wp_ifF {c : SB} {A B : SS} {env : Env} {st : Sto} {Q : Ctl × Env → Sto → Prop} (h : c env = M.pure false) (hw : Wp (B env) st Q) : Wp (sIf c A B env) st Q := by
  unfold sIf
  rw [h, pure_bindM]
  exact hw
theorem wp_if {c : SB} {A B : SS} {b : Bool} {env : Env} {st : Sto} {Q : Ctl × Env → Sto → Prop} (h : c env = M.pure b) (hw : Wp (iteS A B b env) st Q) : Wp (sIf c A B env) st Q := by
  unfold sIf
  rw [h, pure_bindM]
  exact hw
/-! ### more of rows of statements -/
def seqK (G : SS) (Q : Ctl × Env → Sto → Prop) : Ctl × Env → Sto → Prop
  | (.nx, e), s => Wp (G e) s Q
  | ce, s => Q ce s
theorem wp_seqK {F G : SS} {env : Env} {st : Sto} {Q : Ctl × Env → Sto → Prop} (h : Wp (F env) st (seqK G Q)) : Wp (sSeq F G env) st Q := by
  unfold sSeq
  refine Wp.bind (h.mono fun ce s' hc => ?_)
  obtain ⟨c, e⟩ := ce
  cases c with
  | nx => exact hc
  | _ => exact Wp.pure hc
theorem wp_run {n : Nat} {F : SS} {ds : List D} {st : Sto} {Q : D → Sto → Prop} (h : Wp (F (startE n ds)) st fun ce s' => ∃ d e, ce = (.rt d, e) ∧ Q d s') : Wp (runD n F ds) st Q := by
  unfold runD
  refine Wp.bind (h.mono fun ce s' ⟨d, e, hc, hq⟩ => ?_)
  subst hc
  exact Wp.pure hq
theorem wp_ret {F : SE} {env : Env} {st : Sto} {Q : Ctl × Env → Sto → Prop} (h : Wp (F env) st fun d s' => Q (.rt d, env) s') : Wp (sRet F env) st Q := by
  unfold sRet
  exact Wp.bind (h.mono fun d s' hq => Wp.pure hq)
theorem wp_tup {Fs : SA} {env : Env} {st : Sto} {Q : D → Sto → Prop} (h : Wp (Fs env) st fun ds s' => ds.length ≤ 1000000 ∧ Q (.tup ds) s') : Wp (sTup Fs env) st Q := by
  unfold sTup
  refine Wp.bind (h.mono fun ds s' ⟨hl, hq⟩ => ?_)
  unfold mkT
  rw [if_pos hl]
  exact Wp.pure hq
theorem wp_lst {Fs : SA} {env : Env} {st : Sto} {Q : D → Sto → Prop} (h : Wp (Fs env) st fun ds s' => ds.length ≤ 1000000 ∧ Q (.lst ds) s') : Wp (sLst Fs env) st Q := by
  unfold sLst
  refine Wp.bind (h.mono fun ds s' ⟨hl, hq⟩ => ?_)
  unfold mkL1
  rw [if_pos hl]
  exact Wp.pure hq
theorem wp_cons {F : SE} {Fs : SA} {env : Env} {st : Sto} {Q : List D → Sto → Prop} (h : Wp (F env) st fun d s => Wp (Fs env) s fun ds s' => Q (d :: ds) s') : Wp (sCons F Fs env) st Q := by
  unfold sCons
  exact Wp.bind (h.mono fun d s hg => Wp.bind (hg.mono fun ds s' hq => Wp.pure hq))
theorem wp_nil {env : Env} {st : Sto} {Q : List D → Sto → Prop} (h : Q [] st) : Wp (sNil env) st Q := Wp.pure h
theorem wp_par {is : List Nat} {Fs : SA} {env : Env} {st : Sto} {Q : Ctl × Env → Sto → Prop} (h : Wp (Fs env) st fun ds s' => ds.length = is.length ∧ Q (.nx, setAll is ds env) s') : Wp (sPar is Fs env) st Q := by
  unfold sPar
  refine Wp.bind (h.mono fun ds s' ⟨hl, hq⟩ => ?_)
  rw [if_pos hl]
  exact Wp.pure hq
theorem wp_asg {t : Tg} {F : SE} {env : Env} {st : Sto} {Q : Ctl × Env → Sto → Prop} (h : Wp (F env) st fun d s' => ∃ e, t.bind d env = some e ∧ Q (.nx, e) s') : Wp (sAsg t F env) st Q := by
  unfold sAsg
  refine Wp.bind (h.mono fun d s' ⟨e, he, hq⟩ => ?_)
  rw [he]
  exact Wp.pure hq
theorem wp_callW {f : List D → M D} {Fs : SA} {env : Env} {st : Sto} {Q : D → Sto → Prop} (h : Wp (Fs env) st fun ds s' => Wp (f ds) s' Q) : Wp (sCall f Fs env) st Q := by
  unfold sCall
  exact Wp.bind h
theorem wp_cb {f : List D → M D} {Fs : SA} {env : Env} {st : Sto} {Q : D → Sto → Prop} (h : Wp (Fs env) st fun ds s' => Wp (f ds) s' Q) : Wp (sCb f Fs env) st Q := by
  unfold sCb
  exact Wp.bind h
theorem wp_comp {src : SA} {t : Tg} {vs : List Nat} {i : SB} {g : SE} {ds : List D} {env : Env} {st : Sto} {Q : D → Sto → Prop} (h : src env = M.pure ds) (hw : Wp (cmpT t vs i g ds env) st Q) : Wp (sComp src t vs i g env) st Q := by
  unfold sComp
  rw [h, pure_bindM]
  exact hw
/-! ### a new deck -/
theorem pow_18 : opPow (.int 10) (.int 18) = M.pure (.int 1000000000000000000) := rfl
theorem wp_deck (cell : Int) (t : Nat) {st : Sto} (h : st.all noRefO = true) : Wp (m__law_deck [.int cell, .int t]) st fun d s' => d = .ref st.length ∧ Deck st.length t s' := by
  have hm := opMod_int (i := cell) (j := 2147483579) (by decide)
  have hb := fmod_bd cell (b := 2147483579) (by decide)
  have key : ∀ a : Int, Deck st.length t (st ++ [.lst [.int a, .int (cell.fmod 2147483579), .int t]]) := fun a => by
    refine ⟨?_, a, cell.fmod 2147483579, t, ?_, ⟨hb.1, by omega⟩, by omega, by omega⟩
    · rw [List.all_append, h]
      rfl
    · rw [List.getElem?_append_right (Nat.le_refl _), Nat.sub_self]
      rfl
  by_cases hc : (1000000000000000000 : Int) ≤ cell
  · refine ⟨.ref st.length, _, ?_, rfl, key (cell - 1000000000000000000)⟩
    simp only [m__law_deck, F__law_deck, sSeq, sSkip, sBreak, sCont, sSet, sDrop, sRet, sRetN, sIf, iteS, sPar, setAll, sAsg, Tg.bind, gotE, sNew, sApp, appL, ownD, sSeal, sealE, sVar, sC, sCons, sNil, sOp2, sOp1, sCall, sCb, sTup, mkT, sLst, mkL1, sLstF, capL, sTst, truD, sAnd, sOr, iteB, kB, sNot, sIfE, iteE, sAndV, andV, sOrV, orV, sNotV, notD, sIs, sFor, sWhile, iSeqS, itemsD, iRange, iZip, zipD, zip2D, iEnum, enumD, sComp, sVal, sCatF, catL, sListF, listL, sRef, sChain, chV, sSlice, sPart, sNoPart, intO, slD, sOwnIx, sOwnLen, sOwnPut, sTry, sPut, putD, pure_bindM, bad_bindM, exc_bindM, pureD, runD, startE, endD, fuelI, List.map_cons, List.map_nil, List.length_cons, List.length_nil, List.length_append, List.replicate, List.cons_append, List.nil_append, List.append_nil, List.set_cons_zero, List.set_cons_succ, List.getElem?_cons_zero, List.getElem?_cons_succ, wipeE, List.foldr, Nat.reduceAdd, Nat.reduceSub, Nat.reduceLeDiff, Nat.zero_add, Nat.add_zero, Nat.reduceLT, if_true, if_false, ite_true, ite_false, reduceIte, Bool.false_eq_true, eq_self, opNe_int, opEq_int, opLt, opLe, opGt, opGe, opCmp, opSub, opNeg, opAdd_int, ixD, atI_0, atI_1, atI_2, bTuple, bList, opIsN, opNotN, tyN, isTy, String.reduceBEq, Bool.true_or, Bool.and_false, Bool.or_false, Bool.false_or, Bool.true_and, Bool.false_and, Bool.and_true, Bool.not_true, Bool.not_false, bIs, forL, stepS, Sl.va.injEq, decide_eq_true_eq, pow_18, hc, decide_true, hm, newRef, bind_def, pure_app]
  · refine ⟨.ref st.length, _, ?_, rfl, key 0⟩
    simp only [m__law_deck, F__law_deck, sSeq, sSkip, sBreak, sCont, sSet, sDrop, sRet, sRetN, sIf, iteS, sPar, setAll, sAsg, Tg.bind, gotE, sNew, sApp, appL, ownD, sSeal, sealE, sVar, sC, sCons, sNil, sOp2, sOp1, sCall, sCb, sTup, mkT, sLst, mkL1, sLstF, capL, sTst, truD, sAnd, sOr, iteB, kB, sNot, sIfE, iteE, sAndV, andV, sOrV, orV, sNotV, notD, sIs, sFor, sWhile, iSeqS, itemsD, iRange, iZip, zipD, zip2D, iEnum, enumD, sComp, sVal, sCatF, catL, sListF, listL, sRef, sChain, chV, sSlice, sPart, sNoPart, intO, slD, sOwnIx, sOwnLen, sOwnPut, sTry, sPut, putD, pure_bindM, bad_bindM, exc_bindM, pureD, runD, startE, endD, fuelI, List.map_cons, List.map_nil, List.length_cons, List.length_nil, List.length_append, List.replicate, List.cons_append, List.nil_append, List.append_nil, List.set_cons_zero, List.set_cons_succ, List.getElem?_cons_zero, List.getElem?_cons_succ, wipeE, List.foldr, Nat.reduceAdd, Nat.reduceSub, Nat.reduceLeDiff, Nat.zero_add, Nat.add_zero, Nat.reduceLT, if_true, if_false, ite_true, ite_false, reduceIte, Bool.false_eq_true, eq_self, opNe_int, opEq_int, opLt, opLe, opGt, opGe, opCmp, opSub, opNeg, opAdd_int, ixD, atI_0, atI_1, atI_2, bTuple, bList, opIsN, opNotN, tyN, isTy, String.reduceBEq, Bool.true_or, Bool.and_false, Bool.or_false, Bool.false_or, Bool.true_and, Bool.false_and, Bool.and_true, Bool.not_true, Bool.not_false, bIs, forL, stepS, Sl.va.injEq, decide_eq_true_eq, pow_18, hc, decide_false, hm, newRef, bind_def, pure_app]
/-! ### what is spoilt -/
theorem try_facts : tryM (M.exc ⟨"InvalidFacts", none⟩) = M.pure (.str "facts +") := by
  funext st
  kernel_rfl
theorem try_step : tryM (M.exc ⟨"InvalidStep", none⟩) = M.pure (.str "step +") := by
  funext st
  kernel_rfl
theorem try_stand : tryM (M.exc ⟨"InvalidStand", none⟩) = M.pure (.str "stand +") := by
  funext st
  kernel_rfl
theorem try_number : tryM (M.exc ⟨"InvalidNumber", none⟩) = M.pure (.str "number +") := by
  funext st
  kernel_rfl
theorem try_plane : tryM (M.exc ⟨"InvalidPlane", none⟩) = M.pure (.str "plane +") := by
  funext st
  kernel_rfl
theorem try_text : tryM (M.exc ⟨"InvalidText", none⟩) = M.pure (.str "text +") := by
  funext st
  kernel_rfl
theorem try_unlike : tryM (M.exc ⟨"Unlike", none⟩) = M.pure (.str "unlike +") := by
  funext st
  kernel_rfl
theorem try_ok (d : D) : tryM (M.pure d) = M.pure (.tup [.str "told", d]) := by
  funext st
  rfl
theorem ne_facts : opNe (.str "facts +") (.str "facts +") = M.pure (.bl false) := by kernel_rfl
theorem ne_step : opNe (.str "step +") (.str "step +") = M.pure (.bl false) := by kernel_rfl
theorem ne_stand : opNe (.str "stand +") (.str "stand +") = M.pure (.bl false) := by kernel_rfl
theorem ne_number : opNe (.str "number +") (.str "number +") = M.pure (.bl false) := by kernel_rfl
theorem ne_plane : opNe (.str "plane +") (.str "plane +") = M.pure (.bl false) := by kernel_rfl
theorem ne_text : opNe (.str "text +") (.str "text +") = M.pure (.bl false) := by kernel_rfl
theorem ne_unlike : opNe (.str "unlike +") (.str "unlike +") = M.pure (.bl false) := by kernel_rfl
theorem ok1 {b a : Int} (h1 : 1 ≤ b) (h9 : b ≤ 9) (ha : a.natAbs ≤ 9) : StpOk ⟨b, [[a]]⟩ := ⟨h1, h9, by show 1 ≤ 1; decide, by show 1 ≤ 3; decide, fun r hr => by simp only [List.mem_cons, List.not_mem_nil, or_false] at hr; subst hr; rfl, fun r hr e he => by simp only [List.mem_cons, List.not_mem_nil, or_false] at hr; subst hr; simp only [List.mem_cons, List.not_mem_nil, or_false] at he; subst he; exact ha⟩
theorem ok2 {b a c d e : Int} (h1 : 1 ≤ b) (h9 : b ≤ 9) (ha : a.natAbs ≤ 9 ∧ c.natAbs ≤ 9 ∧ d.natAbs ≤ 9 ∧ e.natAbs ≤ 9) : StpOk ⟨b, [[a, c], [d, e]]⟩ := ⟨h1, h9, by show 1 ≤ 2; decide, by show 2 ≤ 3; decide, fun r hr => by
  simp only [List.mem_cons, List.not_mem_nil, or_false] at hr
  rcases hr with rfl | rfl <;> rfl, fun r hr x he => by
  simp only [List.mem_cons, List.not_mem_nil, or_false] at hr
  rcases hr with rfl | rfl <;> simp only [List.mem_cons, List.not_mem_nil, or_false] at he <;> rcases he with rfl | rfl <;> omega⟩
theorem ok3 {b a1 a2 a3 c1 c2 c3 d1 d2 d3 : Int} (h1 : 1 ≤ b) (h9 : b ≤ 9) (ha : a1.natAbs ≤ 9 ∧ a2.natAbs ≤ 9 ∧ a3.natAbs ≤ 9 ∧ c1.natAbs ≤ 9 ∧ c2.natAbs ≤ 9 ∧ c3.natAbs ≤ 9 ∧ d1.natAbs ≤ 9 ∧ d2.natAbs ≤ 9 ∧ d3.natAbs ≤ 9) : StpOk ⟨b, [[a1, a2, a3], [c1, c2, c3], [d1, d2, d3]]⟩ := ⟨h1, h9, by show 1 ≤ 3; decide, by show 3 ≤ 3; decide, fun r hr => by
  simp only [List.mem_cons, List.not_mem_nil, or_false] at hr
  rcases hr with rfl | rfl | rfl <;> rfl, fun r hr x he => by
  simp only [List.mem_cons, List.not_mem_nil, or_false] at hr
  rcases hr with rfl | rfl | rfl <;> simp only [List.mem_cons, List.not_mem_nil, or_false] at he <;> rcases he with rfl | rfl | rfl <;> omega⟩
theorem e_known : m__law_known [] = M.pure (.tup [.tup [.int 1, .tup [.tup [.int 1, .int 1], .tup [.int 0, .int 1]]], .tup [.int 1, .tup [.tup [.int 0, .int 1], .tup [.int 1, .int 1]]], .tup [.int 1, .tup [.tup [.int 0, .int (-1)], .tup [.int 1, .int 0]]], .tup [.int 5, .tup [.tup [.int 3, .int (-4)], .tup [.int 4, .int 3]]], .tup [.int 1, .tup [.tup [.int 2, .int 0], .tup [.int 0, .int 3]]], .tup [.int 1, .tup [.tup [.int 0, .int 1], .tup [.int 0, .int 0]]]]) := by kernel_rfl
theorem e_stands : m__law_stands [] = M.pure (.tup [.tup [.tup [.int 0, .int 1], .tup [.int 1, .int 1]], .tup [.tup [.int 1, .int 1], .tup [.int 0, .int 1]], .tup [.tup [.int 1, .int 1], .tup [.int 1, .int 1]], .tup [.tup [.int 0, .int 1], .tup [.int 0, .int 1]]]) := by kernel_rfl
/-! ### the law over its cells -/
theorem e_cells {ns : List Int} (h : ns.length ≤ 63) {k : Nat} (hk : k ≤ 63) {env : Env} (h0 : env[0]? = some (.va (.lst (ns.map .int)))) : iSeqS (sSlice (sOp2 opAdd (sLst (sCons (sC (.int 0)) (sNil))) (sVar 0)) (sNoPart) (sPart (sC (.int (k : Int))))) env = M.pure (((0 :: ns).take k).map .int) := by
  have ha : opAdd (.lst [.int 0]) (.lst (ns.map .int)) = M.pure (.lst ([.int 0] ++ ns.map .int)) := if_pos (by simp; omega)
  have hc : cutD (D.int 0 :: ns.map .int) none (some (k : Int)) = ((0 :: ns).take k).map .int := by
    show cutD ((0 :: ns).map .int) none (some (k : Int)) = _
    by_cases hl : k ≤ ((0 :: ns).map D.int).length
    · rw [cut_hi hl, List.map_take]
    · simp only [List.length_map, List.length_cons] at hl
      have e2 : HT.sIx ((0 :: ns).map D.int).length ((0 :: ns).map D.int).length (some (k : Int)) = ns.length + 1 := by
        unfold HT.sIx
        simp only [List.length_map, List.length_cons]
        split <;> omega
      have e1 : HT.sIx ((0 :: ns).map D.int).length 0 none = 0 := rfl
      unfold cutD
      rw [e1, e2, List.drop_zero, List.take_of_length_le (by simp), List.take_of_length_le (by simp; omega)]
  simp only [sSeq, sSkip, sBreak, sCont, sSet, sDrop, sRet, sRetN, sIf, iteS, sPar, setAll, sAsg, Tg.bind, gotE, sNew, sApp, appL, ownD, sSeal, sealE, sVar, sC, sCons, sNil, sOp2, sOp1, sCall, sCb, sTup, mkT, sLst, mkL1, sLstF, capL, sTst, truD, sAnd, sOr, iteB, kB, sNot, sIfE, iteE, sAndV, andV, sOrV, orV, sNotV, notD, sIs, sFor, sWhile, iSeqS, itemsD, iRange, iZip, zipD, zip2D, iEnum, enumD, sComp, sVal, sCatF, catL, sListF, listL, sRef, sChain, chV, sSlice, sPart, sNoPart, intO, slD, sOwnIx, sOwnLen, sOwnPut, sTry, sPut, putD, pure_bindM, bad_bindM, exc_bindM, pureD, runD, startE, endD, fuelI, List.map_cons, List.map_nil, List.length_cons, List.length_nil, List.length_append, List.replicate, List.cons_append, List.nil_append, List.append_nil, List.set_cons_zero, List.set_cons_succ, List.getElem?_cons_zero, List.getElem?_cons_succ, wipeE, List.foldr, Nat.reduceAdd, Nat.reduceSub, Nat.reduceLeDiff, Nat.zero_add, Nat.add_zero, Nat.reduceLT, if_true, if_false, ite_true, ite_false, reduceIte, Bool.false_eq_true, eq_self, opNe_int, opEq_int, opLt, opLe, opGt, opGe, opCmp, opSub, opNeg, opAdd_int, ixD, atI_0, atI_1, atI_2, bTuple, bList, opIsN, opNotN, tyN, isTy, String.reduceBEq, Bool.true_or, Bool.and_false, Bool.or_false, Bool.false_or, Bool.true_and, Bool.false_and, Bool.and_true, Bool.not_true, Bool.not_false, bIs, forL, stepS, Sl.va.injEq, decide_eq_true_eq, h0, ha]
  rw [hc]
def isT : Out (Ctl × Env) → Bool
  | .ok (.rt (.bl true), _) _ => true
  | _ => false
theorem wp_T {m : M (Ctl × Env)} {st : Sto} (h : isT (m st) = true) : Wp m st fun ce _ => ∃ e, ce = (.rt (.bl true), e) := by
  unfold Wp
  cases e : m st with
  | ok a s =>
    rw [e] at h
    obtain ⟨c, e2⟩ := a
    refine ⟨_, _, rfl, e2, ?_⟩
    cases c with
    | rt d =>
      cases d with
      | bl b =>
        cases b with
        | true => rfl
        | false => exact absurd h Bool.false_ne_true
      | _ => exact absurd h Bool.false_ne_true
    | _ => exact absurd h Bool.false_ne_true
  | exc a s => rw [e] at h; exact absurd h Bool.false_ne_true
  | bad => rw [e] at h; exact absurd h Bool.false_ne_true
theorem run_T {n : Nat} {F : SS} {ds : List D} {st : Sto} {en : Env} (hs : startE n ds = en) (h : Wp (F en) st fun ce _ => ∃ e, ce = (.rt (.bl true), e)) : ∃ s', runD n F ds st = .ok (.bl true) s' := by
  subst hs
  obtain ⟨ce, s1, h1, e, rfl⟩ := h
  refine ⟨s1, ?_⟩
  unfold runD
  rw [bind_def, h1]
  rfl
theorem wp_loop {t : Tg} {wp : List Nat} {body G : SS} {src : SA} {env : Env} {st : Sto} {Q : Ctl × Env → Sto → Prop} (I : Env → Sto → Prop) {ds : List D} (hs : src env = M.pure ds) (h0 : I (wipeE wp env) st) (hb : ∀ d ∈ ds, ∀ env st, I env st → ∃ e1, t.bind d env = some e1 ∧ Wp (body e1) st fun ce s' => ∃ e2, ce = (.nx, e2) ∧ I (wipeE wp e2) s')
    (hk : ∀ env st, I env st → Wp (G env) st Q) : Wp (sSeq (sFor src t wp body) G env) st Q := by
  refine wp_seqFor hs ?_
  have := wp_forI (t := t) (wp := wp) (body := body) (N := ds.length) (fun _ => I) ds 0 (wipeE wp env) st (by omega) (fun d hd i env st _ h => hb d hd env st h) h0
  exact this.mono fun ce s' ⟨e2, hc, hi⟩ => ⟨e2, hc, hk e2 s' hi⟩
end Dt

set_option maxHeartbeats 4000000
namespace Dt
open PySem PySem.Spec PyProof.Rows L2
/-! ### needs -/
theorem e_need_stand {d : D} (h : plD d = true) {b : D} {rows : List D} (hn : rows.length ≤ 1000000) : m_need_stand [.tup [b, .tup rows], d] = orE (isStand rows.length d) "InvalidStand" := by
  simp only [m_need_stand, F_need_stand, sSeq, sSkip, sBreak, sCont, sSet, sDrop, sRet, sRetN, sIf, iteS, sPar, setAll, sAsg, Tg.bind, gotE, sNew, sApp, appL, ownD, sSeal, sealE, sVar, sC, sCons, sNil, sOp2, sOp1, sCall, sCb, sTup, mkT, sLst, mkL1, sLstF, capL, sTst, truD, sAnd, sOr, iteB, kB, sNot, sIfE, iteE, sAndV, andV, sOrV, orV, sNotV, notD, sIs, sFor, sWhile, iSeqS, itemsD, iRange, iZip, zipD, zip2D, iEnum, enumD, sComp, sVal, sCatF, catL, sListF, listL, sRef, sChain, chV, sSlice, sPart, sNoPart, intO, slD, sOwnIx, sOwnLen, sOwnPut, sTry, sPut, putD, pure_bindM, bad_bindM, exc_bindM, pureD, runD, startE, endD, fuelI, List.map_cons, List.map_nil, List.length_cons, List.length_nil, List.length_append, List.replicate, List.cons_append, List.nil_append, List.append_nil, List.set_cons_zero, List.set_cons_succ, List.getElem?_cons_zero, List.getElem?_cons_succ, wipeE, List.foldr, Nat.reduceAdd, Nat.reduceSub, Nat.reduceLeDiff, Nat.zero_add, Nat.add_zero, Nat.reduceLT, if_true, if_false, ite_true, ite_false, reduceIte, Bool.false_eq_true, eq_self, opNe_int, opEq_int, opLt, opLe, opGt, opGe, opCmp, opSub, opNeg, opAdd_int, ixD, atI_0, atI_1, atI_2, bTuple, bList, opIsN, opNotN, tyN, isTy, String.reduceBEq, Bool.true_or, Bool.and_false, Bool.or_false, Bool.false_or, Bool.true_and, Bool.false_and, Bool.and_true, Bool.not_true, Bool.not_false, bIs, forL, stepS, Sl.va.injEq, decide_eq_true_eq, bLen, e_is_stand_value h hn]
  cases isStand rows.length d <;> rfl
theorem e_need_number {d : D} (h : plD d = true) (lo hi : Int) : m_need_number [d, .int lo, .int hi] = orE (isW lo hi d) "InvalidNumber" := by
  simp only [m_need_number, F_need_number, sSeq, sSkip, sBreak, sCont, sSet, sDrop, sRet, sRetN, sIf, iteS, sPar, setAll, sAsg, Tg.bind, gotE, sNew, sApp, appL, ownD, sSeal, sealE, sVar, sC, sCons, sNil, sOp2, sOp1, sCall, sCb, sTup, mkT, sLst, mkL1, sLstF, capL, sTst, truD, sAnd, sOr, iteB, kB, sNot, sIfE, iteE, sAndV, andV, sOrV, orV, sNotV, notD, sIs, sFor, sWhile, iSeqS, itemsD, iRange, iZip, zipD, zip2D, iEnum, enumD, sComp, sVal, sCatF, catL, sListF, listL, sRef, sChain, chV, sSlice, sPart, sNoPart, intO, slD, sOwnIx, sOwnLen, sOwnPut, sTry, sPut, putD, pure_bindM, bad_bindM, exc_bindM, pureD, runD, startE, endD, fuelI, List.map_cons, List.map_nil, List.length_cons, List.length_nil, List.length_append, List.replicate, List.cons_append, List.nil_append, List.append_nil, List.set_cons_zero, List.set_cons_succ, List.getElem?_cons_zero, List.getElem?_cons_succ, wipeE, List.foldr, Nat.reduceAdd, Nat.reduceSub, Nat.reduceLeDiff, Nat.zero_add, Nat.add_zero, Nat.reduceLT, if_true, if_false, ite_true, ite_false, reduceIte, Bool.false_eq_true, eq_self, opNe_int, opEq_int, opLt, opLe, opGt, opGe, opCmp, opSub, opNeg, opAdd_int, ixD, atI_0, atI_1, atI_2, bTuple, bList, opIsN, opNotN, tyN, isTy, String.reduceBEq, Bool.true_or, Bool.and_false, Bool.or_false, Bool.false_or, Bool.true_and, Bool.false_and, Bool.and_true, Bool.not_true, Bool.not_false, bIs, forL, stepS, Sl.va.injEq, decide_eq_true_eq, e_is_within h]
  cases isW lo hi d <;> rfl
def isRowM (n : Nat) (m : Int) : D → Bool
  | .tup ds => (ds.length == n) && ds.all (isW (-m) m)
  | _ => false
theorem e_is_rowM {d : D} (h : plD d = true) {n : Nat} (hn : n ≤ 1000000) (m : Int) : m_is_row [d, .int n, .int m] = M.pure (.bl (isRowM n m d)) := by
  cases d with
  | tup ds =>
    simp only [plD] at h
    simp only [m_is_row, F_is_row, sSeq, sSkip, sBreak, sCont, sSet, sDrop, sRet, sRetN, sIf, iteS, sPar, setAll, sAsg, Tg.bind, gotE, sNew, sApp, appL, ownD, sSeal, sealE, sVar, sC, sCons, sNil, sOp2, sOp1, sCall, sCb, sTup, mkT, sLst, mkL1, sLstF, capL, sTst, truD, sAnd, sOr, iteB, kB, sNot, sIfE, iteE, sAndV, andV, sOrV, orV, sNotV, notD, sIs, sFor, sWhile, iSeqS, itemsD, iRange, iZip, zipD, zip2D, iEnum, enumD, sComp, sVal, sCatF, catL, sListF, listL, sRef, sChain, chV, sSlice, sPart, sNoPart, intO, slD, sOwnIx, sOwnLen, sOwnPut, sTry, sPut, putD, pure_bindM, bad_bindM, exc_bindM, pureD, runD, startE, endD, fuelI, List.map_cons, List.map_nil, List.length_cons, List.length_nil, List.length_append, List.replicate, List.cons_append, List.nil_append, List.append_nil, List.set_cons_zero, List.set_cons_succ, List.getElem?_cons_zero, List.getElem?_cons_succ, wipeE, List.foldr, Nat.reduceAdd, Nat.reduceSub, Nat.reduceLeDiff, Nat.zero_add, Nat.add_zero, Nat.reduceLT, if_true, if_false, ite_true, ite_false, reduceIte, Bool.false_eq_true, eq_self, opNe_int, opEq_int, opLt, opLe, opGt, opGe, opCmp, opSub, opNeg, opAdd_int, ixD, atI_0, atI_1, atI_2, bTuple, bList, opIsN, opNotN, tyN, isTy, String.reduceBEq, Bool.true_or, Bool.and_false, Bool.or_false, Bool.false_or, Bool.true_and, Bool.false_and, Bool.and_true, Bool.not_true, Bool.not_false, bIs, forL, stepS, Sl.va.injEq, decide_eq_true_eq, bLen, isTy, beq_self_eq_true, Bool.true_or, len_int, isRowM]
    cases hl : ds.length == n with
    | false => rfl
    | true =>
      have hl' : ds.length = n := by simpa using hl
      simp only [sSeq, sSkip, sBreak, sCont, sSet, sDrop, sRet, sRetN, sIf, iteS, sPar, setAll, sAsg, Tg.bind, gotE, sNew, sApp, appL, ownD, sSeal, sealE, sVar, sC, sCons, sNil, sOp2, sOp1, sCall, sCb, sTup, mkT, sLst, mkL1, sLstF, capL, sTst, truD, sAnd, sOr, iteB, kB, sNot, sIfE, iteE, sAndV, andV, sOrV, orV, sNotV, notD, sIs, sFor, sWhile, iSeqS, itemsD, iRange, iZip, zipD, zip2D, iEnum, enumD, sComp, sVal, sCatF, catL, sListF, listL, sRef, sChain, chV, sSlice, sPart, sNoPart, intO, slD, sOwnIx, sOwnLen, sOwnPut, sTry, sPut, putD, pure_bindM, bad_bindM, exc_bindM, pureD, runD, startE, endD, fuelI, List.map_cons, List.map_nil, List.length_cons, List.length_nil, List.length_append, List.replicate, List.cons_append, List.nil_append, List.append_nil, List.set_cons_zero, List.set_cons_succ, List.getElem?_cons_zero, List.getElem?_cons_succ, wipeE, List.foldr, Nat.reduceAdd, Nat.reduceSub, Nat.reduceLeDiff, Nat.zero_add, Nat.add_zero, Nat.reduceLT, if_true, if_false, ite_true, ite_false, reduceIte, Bool.false_eq_true, eq_self, opNe_int, opEq_int, opLt, opLe, opGt, opGe, opCmp, opSub, opNeg, opAdd_int, ixD, atI_0, atI_1, atI_2, bTuple, bList, opIsN, opNotN, tyN, isTy, String.reduceBEq, Bool.true_or, Bool.and_false, Bool.or_false, Bool.false_or, Bool.true_and, Bool.false_and, Bool.and_true, Bool.not_true, Bool.not_false, bIs, forL, stepS, Sl.va.injEq, decide_eq_true_eq, Bool.true_and]
      rw [cmpT_map (fun d => .bl (isW (-m) m d)) (by omega) (fun d hd => ⟨_, rfl, by simp only [E_is_row_0, sSeq, sSkip, sBreak, sCont, sSet, sDrop, sRet, sRetN, sIf, iteS, sPar, setAll, sAsg, Tg.bind, gotE, sNew, sApp, appL, ownD, sSeal, sealE, sVar, sC, sCons, sNil, sOp2, sOp1, sCall, sCb, sTup, mkT, sLst, mkL1, sLstF, capL, sTst, truD, sAnd, sOr, iteB, kB, sNot, sIfE, iteE, sAndV, andV, sOrV, orV, sNotV, notD, sIs, sFor, sWhile, iSeqS, itemsD, iRange, iZip, zipD, zip2D, iEnum, enumD, sComp, sVal, sCatF, catL, sListF, listL, sRef, sChain, chV, sSlice, sPart, sNoPart, intO, slD, sOwnIx, sOwnLen, sOwnPut, sTry, sPut, putD, pure_bindM, bad_bindM, exc_bindM, pureD, runD, startE, endD, fuelI, List.map_cons, List.map_nil, List.length_cons, List.length_nil, List.length_append, List.replicate, List.cons_append, List.nil_append, List.append_nil, List.set_cons_zero, List.set_cons_succ, List.getElem?_cons_zero, List.getElem?_cons_succ, wipeE, List.foldr, Nat.reduceAdd, Nat.reduceSub, Nat.reduceLeDiff, Nat.zero_add, Nat.add_zero, Nat.reduceLT, if_true, if_false, ite_true, ite_false, reduceIte, Bool.false_eq_true, eq_self, opNe_int, opEq_int, opLt, opLe, opGt, opGe, opCmp, opSub, opNeg, opAdd_int, ixD, atI_0, atI_1, atI_2, bTuple, bList, opIsN, opNotN, tyN, isTy, String.reduceBEq, Bool.true_or, Bool.and_false, Bool.or_false, Bool.false_or, Bool.true_and, Bool.false_and, Bool.and_true, Bool.not_true, Bool.not_false, bIs, forL, stepS, Sl.va.injEq, decide_eq_true_eq, e_is_within (plDs_mem h hd)]⟩)]
      simp only [sSeq, sSkip, sBreak, sCont, sSet, sDrop, sRet, sRetN, sIf, iteS, sPar, setAll, sAsg, Tg.bind, gotE, sNew, sApp, appL, ownD, sSeal, sealE, sVar, sC, sCons, sNil, sOp2, sOp1, sCall, sCb, sTup, mkT, sLst, mkL1, sLstF, capL, sTst, truD, sAnd, sOr, iteB, kB, sNot, sIfE, iteE, sAndV, andV, sOrV, orV, sNotV, notD, sIs, sFor, sWhile, iSeqS, itemsD, iRange, iZip, zipD, zip2D, iEnum, enumD, sComp, sVal, sCatF, catL, sListF, listL, sRef, sChain, chV, sSlice, sPart, sNoPart, intO, slD, sOwnIx, sOwnLen, sOwnPut, sTry, sPut, putD, pure_bindM, bad_bindM, exc_bindM, pureD, runD, startE, endD, fuelI, List.map_cons, List.map_nil, List.length_cons, List.length_nil, List.length_append, List.replicate, List.cons_append, List.nil_append, List.append_nil, List.set_cons_zero, List.set_cons_succ, List.getElem?_cons_zero, List.getElem?_cons_succ, wipeE, List.foldr, Nat.reduceAdd, Nat.reduceSub, Nat.reduceLeDiff, Nat.zero_add, Nat.add_zero, Nat.reduceLT, if_true, if_false, ite_true, ite_false, reduceIte, Bool.false_eq_true, eq_self, opNe_int, opEq_int, opLt, opLe, opGt, opGe, opCmp, opSub, opNeg, opAdd_int, ixD, atI_0, atI_1, atI_2, bTuple, bList, opIsN, opNotN, tyN, isTy, String.reduceBEq, Bool.true_or, Bool.and_false, Bool.or_false, Bool.false_or, Bool.true_and, Bool.false_and, Bool.and_true, Bool.not_true, Bool.not_false, bIs, forL, stepS, Sl.va.injEq, decide_eq_true_eq, bAll_map]
  | ref k => exact absurd h Bool.false_ne_true
  | adr k => exact absurd h Bool.false_ne_true
  | _ => rfl
theorem pow_6 : opPow (.int 10) (.int 6) = M.pure (.int 1000000) := rfl
theorem e_need_plane {d : D} (h : plD d = true) {b : D} {rows : List D} (hn : rows.length ≤ 1000) : m_need_plane [.tup [b, .tup rows], d] = orE (isRowM (rows.length + 1) 1000000 d) "InvalidPlane" := by
  have e := e_is_rowM h (n := rows.length + 1) (by omega) 1000000
  rw [Int.natCast_add, Int.cast_ofNat_Int] at e
  simp only [m_need_plane, F_need_plane, sSeq, sSkip, sBreak, sCont, sSet, sDrop, sRet, sRetN, sIf, iteS, sPar, setAll, sAsg, Tg.bind, gotE, sNew, sApp, appL, ownD, sSeal, sealE, sVar, sC, sCons, sNil, sOp2, sOp1, sCall, sCb, sTup, mkT, sLst, mkL1, sLstF, capL, sTst, truD, sAnd, sOr, iteB, kB, sNot, sIfE, iteE, sAndV, andV, sOrV, orV, sNotV, notD, sIs, sFor, sWhile, iSeqS, itemsD, iRange, iZip, zipD, zip2D, iEnum, enumD, sComp, sVal, sCatF, catL, sListF, listL, sRef, sChain, chV, sSlice, sPart, sNoPart, intO, slD, sOwnIx, sOwnLen, sOwnPut, sTry, sPut, putD, pure_bindM, bad_bindM, exc_bindM, pureD, runD, startE, endD, fuelI, List.map_cons, List.map_nil, List.length_cons, List.length_nil, List.length_append, List.replicate, List.cons_append, List.nil_append, List.append_nil, List.set_cons_zero, List.set_cons_succ, List.getElem?_cons_zero, List.getElem?_cons_succ, wipeE, List.foldr, Nat.reduceAdd, Nat.reduceSub, Nat.reduceLeDiff, Nat.zero_add, Nat.add_zero, Nat.reduceLT, if_true, if_false, ite_true, ite_false, reduceIte, Bool.false_eq_true, eq_self, opNe_int, opEq_int, opLt, opLe, opGt, opGe, opCmp, opSub, opNeg, opAdd_int, ixD, atI_0, atI_1, atI_2, bTuple, bList, opIsN, opNotN, tyN, isTy, String.reduceBEq, Bool.true_or, Bool.and_false, Bool.or_false, Bool.false_or, Bool.true_and, Bool.false_and, Bool.and_true, Bool.not_true, Bool.not_false, bIs, forL, stepS, Sl.va.injEq, decide_eq_true_eq, bLen, pow_6, e]
  cases isRowM (rows.length + 1) 1000000 d <;> rfl
/-! ### planes -/
def onT (p : List Int) (s : List Rat) : Rat := dotQ ((-(p.getLast?.getD 0) : Int) : Rat) p s
def onQ (p : List Int) (s : List Rat) : Bool := decide (onT p s = 0)
theorem eQ_int (z : Int) : eQ (z : Rat) = .tup [.int z, .int 1] := rfl
theorem gd_int {L : Nat} (h0 : 0 < L) (z : Int) : Gd L z.natAbs (z : Rat) := by
  constructor
  · rw [Rat.den_intCast]
    exact Nat.one_dvd L
  · rw [Rat.num_intCast, Rat.den_intCast]
    omega
theorem atI_last {l : List Int} (h : l ≠ []) : atI (l.map D.int) (-1) = some (.int (l.getLast?.getD 0)) := by
  have hp : 0 < l.length := List.length_pos_iff.mpr h
  have e : ixN (l.map D.int).length (-1) = some (l.length - 1) := by
    unfold ixN
    rw [List.length_map, if_neg (by decide), if_pos (by omega)]
    congr 1
    omega
  unfold atI
  rw [e]
  show (l.map D.int)[l.length - 1]? = _
  rw [List.getElem?_map, List.getLast?_eq_getElem?]
  rw [List.getElem?_eq_getElem (by omega)]
  rfl
theorem on_loop {L B n A : Nat} (h0 : 0 < L) (hL : L < 2 ^ n) {v0 v1 : Sl} : ∀ {r : List Int} {s : List Rat} {a : Rat}, Gd L A a → (∀ e ∈ r, e.natAbs ≤ 1000000) → (∀ q ∈ s, Gd L B q) → (A + r.length * (1000000 * B)) + 1000000 * B < 2 ^ n → n ≤ 1999 → forL (.tp [3, 4]) [3, 4] L_is_on_0 (zipL (r.map .int) (s.map eQ)) [v0, v1, .va (eQ a), .no, .no] = M.pure (.nx, [v0, v1, .va (eQ (dotQ a r s)), .no, .no])
  | [], s, a, h, h1, h2, h3, l => by
    cases s <;> rfl
  | e :: r, [], a, h, h1, h2, h3, l => rfl
  | e :: r, q :: s, a, h, h1, h2, h3, l => by
    have g2 := h2 q (by simp)
    have g1 := h1 e (by simp)
    have g3 := g2.smul h0 g1
    simp only [List.length_cons, Nat.add_mul, Nat.one_mul] at h3
    have q1 : Qn (n + n) a := h.qn h0 hL (by omega)
    have q2 : Qn (n + n) q := g2.qn h0 hL (by omega)
    have q3 : Qn (n + n) ((e : Rat) * q) := g3.qn h0 hL (by omega)
    have s9 : Sm 20 e := by
      unfold Sm
      omega
    have ih := on_loop (v0 := v0) (v1 := v1) (B := B) h0 hL (A := A + 1000000 * B) (r := r) (s := s) (Gd.add h0 h g3) (fun e he => h1 e (by simp [he])) (fun q hq => h2 q (by simp [hq])) (by omega) l
    have fr := e_fraction (t := e * q.num) (den_ne q) q2.2 (by omega)
    have pl := e_plus q1 q3 (by omega)
    have mu := opMul_int s9 q2.1 (by omega)
    simp only [List.map_cons, zipL, forL, Tg.bind, sSeq, sSkip, sBreak, sCont, sSet, sDrop, sRet, sRetN, sIf, iteS, sPar, setAll, sAsg, Tg.bind, gotE, sNew, sApp, appL, ownD, sSeal, sealE, sVar, sC, sCons, sNil, sOp2, sOp1, sCall, sCb, sTup, mkT, sLst, mkL1, sLstF, capL, sTst, truD, sAnd, sOr, iteB, kB, sNot, sIfE, iteE, sAndV, andV, sOrV, orV, sNotV, notD, sIs, sFor, sWhile, iSeqS, itemsD, iRange, iZip, zipD, zip2D, iEnum, enumD, sComp, sVal, sCatF, catL, sListF, listL, sRef, sChain, chV, sSlice, sPart, sNoPart, intO, slD, sOwnIx, sOwnLen, sOwnPut, sTry, sPut, putD, pure_bindM, bad_bindM, exc_bindM, pureD, runD, startE, endD, fuelI, List.map_cons, List.map_nil, List.length_cons, List.length_nil, List.length_append, List.replicate, List.cons_append, List.nil_append, List.append_nil, List.set_cons_zero, List.set_cons_succ, List.getElem?_cons_zero, List.getElem?_cons_succ, wipeE, List.foldr, Nat.reduceAdd, Nat.reduceSub, Nat.reduceLeDiff, Nat.zero_add, Nat.add_zero, Nat.reduceLT, if_true, if_false, ite_true, ite_false, reduceIte, Bool.false_eq_true, eq_self, opNe_int, opEq_int, opLt, opLe, opGt, opGe, opCmp, opSub, opNeg, opAdd_int, ixD, atI_0, atI_1, atI_2, bTuple, bList, opIsN, opNotN, tyN, isTy, String.reduceBEq, Bool.true_or, Bool.and_false, Bool.or_false, Bool.false_or, Bool.true_and, Bool.false_and, Bool.and_true, Bool.not_true, Bool.not_false, bIs, forL, stepS, Sl.va.injEq, decide_eq_true_eq, L_is_on_0]
    rw [show eQ q = .tup [.int q.num, .int q.den] from rfl]
    simp only [sSeq, sSkip, sBreak, sCont, sSet, sDrop, sRet, sRetN, sIf, iteS, sPar, setAll, sAsg, Tg.bind, gotE, sNew, sApp, appL, ownD, sSeal, sealE, sVar, sC, sCons, sNil, sOp2, sOp1, sCall, sCb, sTup, mkT, sLst, mkL1, sLstF, capL, sTst, truD, sAnd, sOr, iteB, kB, sNot, sIfE, iteE, sAndV, andV, sOrV, orV, sNotV, notD, sIs, sFor, sWhile, iSeqS, itemsD, iRange, iZip, zipD, zip2D, iEnum, enumD, sComp, sVal, sCatF, catL, sListF, listL, sRef, sChain, chV, sSlice, sPart, sNoPart, intO, slD, sOwnIx, sOwnLen, sOwnPut, sTry, sPut, putD, pure_bindM, bad_bindM, exc_bindM, pureD, runD, startE, endD, fuelI, List.map_cons, List.map_nil, List.length_cons, List.length_nil, List.length_append, List.replicate, List.cons_append, List.nil_append, List.append_nil, List.set_cons_zero, List.set_cons_succ, List.getElem?_cons_zero, List.getElem?_cons_succ, wipeE, List.foldr, Nat.reduceAdd, Nat.reduceSub, Nat.reduceLeDiff, Nat.zero_add, Nat.add_zero, Nat.reduceLT, if_true, if_false, ite_true, ite_false, reduceIte, Bool.false_eq_true, eq_self, opNe_int, opEq_int, opLt, opLe, opGt, opGe, opCmp, opSub, opNeg, opAdd_int, ixD, atI_0, atI_1, atI_2, bTuple, bList, opIsN, opNotN, tyN, isTy, String.reduceBEq, Bool.true_or, Bool.and_false, Bool.or_false, Bool.false_or, Bool.true_and, Bool.false_and, Bool.and_true, Bool.not_true, Bool.not_false, bIs, forL, stepS, Sl.va.injEq, decide_eq_true_eq, mu, fr, e_int_q, pl]
    exact ih
structure PlOk (n : Nat) (p : List Int) : Prop where
  len : p.length = n + 1
  n3 : n ≤ 3
  ent : ∀ e ∈ p, e.natAbs ≤ 1000000
theorem PlOk.ne {n : Nat} {p : List Int} (h : PlOk n p) : p ≠ [] := by
  have := h.len
  intro e
  subst e
  simp at this
theorem PlOk.last {n : Nat} {p : List Int} (h : PlOk n p) : (p.getLast?.getD 0).natAbs ≤ 1000000 := by
  rw [List.getLast?_eq_some_getLast h.ne]
  exact h.ent _ (List.getLast_mem h.ne)
theorem num_0 (q : Rat) : (q.num == 0) = decide (q = 0) := by
  rw [Bool.eq_iff_iff]
  simp
theorem e_is_on {m : Nat} {p : List Int} {s : List Rat} {n : Nat} (hp : PlOk m p) (g : Good n s) (l : n ≤ 1900) : m_is_on [eS s, eR p] = M.pure (.bl (onQ p s)) := by
  obtain ⟨L, B, h0, hL, hB, hs⟩ := g
  have hl := hp.last
  have hlen := hp.len
  have h3 := hp.n3
  have hpw : 2 ^ n * 8388608 = 2 ^ (n + 23) := by rw [Nat.pow_add]
  have hpos : 1 ≤ 2 ^ n := Nat.one_le_two_pow
  have hlm : p.length * (1000000 * B) ≤ 4 * (1000000 * B) := Nat.mul_le_mul_right _ (by omega)
  have lo := on_loop (L := L) (B := B) (n := n + 23) h0 (by omega) (v0 := .va (eS s)) (v1 := .va (eR p)) (r := p) (s := s) (A := 1000000) ((gd_int h0 (-(p.getLast?.getD 0))).mono (by omega)) hp.ent hs (by omega) (by omega)
  have la := atI_last hp.ne
  simp only [eR, eS, eQ_int] at lo
  simp only [m_is_on, F_is_on, sSeq, sSkip, sBreak, sCont, sSet, sDrop, sRet, sRetN, sIf, iteS, sPar, setAll, sAsg, Tg.bind, gotE, sNew, sApp, appL, ownD, sSeal, sealE, sVar, sC, sCons, sNil, sOp2, sOp1, sCall, sCb, sTup, mkT, sLst, mkL1, sLstF, capL, sTst, truD, sAnd, sOr, iteB, kB, sNot, sIfE, iteE, sAndV, andV, sOrV, orV, sNotV, notD, sIs, sFor, sWhile, iSeqS, itemsD, iRange, iZip, zipD, zip2D, iEnum, enumD, sComp, sVal, sCatF, catL, sListF, listL, sRef, sChain, chV, sSlice, sPart, sNoPart, intO, slD, sOwnIx, sOwnLen, sOwnPut, sTry, sPut, putD, pure_bindM, bad_bindM, exc_bindM, pureD, runD, startE, endD, fuelI, List.map_cons, List.map_nil, List.length_cons, List.length_nil, List.length_append, List.replicate, List.cons_append, List.nil_append, List.append_nil, List.set_cons_zero, List.set_cons_succ, List.getElem?_cons_zero, List.getElem?_cons_succ, wipeE, List.foldr, Nat.reduceAdd, Nat.reduceSub, Nat.reduceLeDiff, Nat.zero_add, Nat.add_zero, Nat.reduceLT, if_true, if_false, ite_true, ite_false, reduceIte, Bool.false_eq_true, eq_self, opNe_int, opEq_int, opLt, opLe, opGt, opGe, opCmp, opSub, opNeg, opAdd_int, ixD, atI_0, atI_1, atI_2, bTuple, bList, opIsN, opNotN, tyN, isTy, String.reduceBEq, Bool.true_or, Bool.and_false, Bool.or_false, Bool.false_or, Bool.true_and, Bool.false_and, Bool.and_true, Bool.not_true, Bool.not_false, bIs, forL, stepS, Sl.va.injEq, decide_eq_true_eq, eR, eS, la, mkT, lo]
  rw [show eQ (dotQ ((-(p.getLast?.getD 0) : Int) : Rat) p s) = .tup [.int (onT p s).num, .int (onT p s).den] from rfl]
  simp only [sSeq, sSkip, sBreak, sCont, sSet, sDrop, sRet, sRetN, sIf, iteS, sPar, setAll, sAsg, Tg.bind, gotE, sNew, sApp, appL, ownD, sSeal, sealE, sVar, sC, sCons, sNil, sOp2, sOp1, sCall, sCb, sTup, mkT, sLst, mkL1, sLstF, capL, sTst, truD, sAnd, sOr, iteB, kB, sNot, sIfE, iteE, sAndV, andV, sOrV, orV, sNotV, notD, sIs, sFor, sWhile, iSeqS, itemsD, iRange, iZip, zipD, zip2D, iEnum, enumD, sComp, sVal, sCatF, catL, sListF, listL, sRef, sChain, chV, sSlice, sPart, sNoPart, intO, slD, sOwnIx, sOwnLen, sOwnPut, sTry, sPut, putD, pure_bindM, bad_bindM, exc_bindM, pureD, runD, startE, endD, fuelI, List.map_cons, List.map_nil, List.length_cons, List.length_nil, List.length_append, List.replicate, List.cons_append, List.nil_append, List.append_nil, List.set_cons_zero, List.set_cons_succ, List.getElem?_cons_zero, List.getElem?_cons_succ, wipeE, List.foldr, Nat.reduceAdd, Nat.reduceSub, Nat.reduceLeDiff, Nat.zero_add, Nat.add_zero, Nat.reduceLT, if_true, if_false, ite_true, ite_false, reduceIte, Bool.false_eq_true, eq_self, opNe_int, opEq_int, opLt, opLe, opGt, opGe, opCmp, opSub, opNeg, opAdd_int, ixD, atI_0, atI_1, atI_2, bTuple, bList, opIsN, opNotN, tyN, isTy, String.reduceBEq, Bool.true_or, Bool.and_false, Bool.or_false, Bool.false_or, Bool.true_and, Bool.false_and, Bool.and_true, Bool.not_true, Bool.not_false, bIs, forL, stepS, Sl.va.injEq, decide_eq_true_eq, num_0]
  rfl
theorem divInt_0 {t b : Int} (hb : b ≠ 0) : (Rat.divInt t b = 0) ↔ t = 0 := by
  constructor
  · intro h
    obtain ⟨t', b', h1, h2, h3, h4, h5, h6⟩ := divInt_parts t hb
    rw [h] at h5
    have : b.sign * t' = 0 := h5.symm
    rcases Int.mul_eq_zero.mp this with e | e
    · exact absurd (Int.sign_eq_zero_iff_zero.mp e) hb
    · rw [h1, e, Int.zero_mul]
  · rintro rfl
    exact Rat.zero_divInt b
theorem law_on_loop {k : Nat} {v0 v1 : Sl} : ∀ {r : List Int} {s : List Rat} {t b : Int} {m : Nat}, b ≠ 0 → Sm m t → Sm m b → (∀ e ∈ r, e.natAbs ≤ 1000000) → (∀ q ∈ s, Qn k q) → 2 * m + 2 * (s.length * (k + 21)) + k + 21 ≤ 400000 → ∃ t' b' : Int, b' ≠ 0 ∧ Rat.divInt t' b' = dotQ (Rat.divInt t b) r s ∧ forL (.tp [4, 5]) [4, 5] L__law_is_on_0 (zipL (r.map .int) (s.map eQ)) [v0, v1, .va (.int t), .va (.int b), .no, .no] = M.pure (.nx, [v0, v1, .va (.int t'), .va (.int b'), .no, .no])
  | [], s, t, b, m, hb, ht, hb2, h1, h2, l => ⟨t, b, hb, by cases s <;> rfl, by cases s <;> rfl⟩
  | e :: r, [], t, b, m, hb, ht, hb2, h1, h2, l => ⟨t, b, hb, rfl, rfl⟩
  | e :: r, q :: s, t, b, m, hb, ht, hb2, h1, h2, l => by
    have q2 := h2 q (by simp)
    have g1 := h1 e (by simp)
    have s9 : Sm 20 e := by
      unfold Sm
      omega
    simp only [List.length_cons, Nat.add_mul, Nat.one_mul] at l
    have m1 := opMul_int ht q2.2 (by omega)
    have m2 := opMul_int s9 q2.1 (by omega)
    have m3 := opMul_int (s9.mul q2.1) hb2 (by omega)
    have m4 := opMul_int hb2 q2.2 (by omega)
    have st : Sm (m + (k + 21)) (t * q.den + e * q.num * b) := (Sm.add (n := m + k + 20) ((ht.mul q2.2).mono (by omega)) (((s9.mul q2.1).mul hb2).mono (by omega))).mono (by omega)
    have sb : Sm (m + (k + 21)) (b * q.den) := (hb2.mul q2.2).mono (by omega)
    obtain ⟨t', b', h3, h4, h5⟩ := law_on_loop (k := k) (v0 := v0) (v1 := v1) (r := r) (s := s) (Int.mul_ne_zero hb (den_ne q)) st sb (fun e he => h1 e (by simp [he])) (fun q hq => h2 q (by simp [hq])) (by omega)
    refine ⟨t', b', h3, ?_, ?_⟩
    · rw [h4]
      show _ = dotQ (Rat.divInt t b + (e : Rat) * q) r s
      rw [← e_int_q, Rat.divInt_add_divInt _ _ hb (den_ne q)]
    · simp only [List.map_cons, zipL, forL, Tg.bind, sSeq, sSkip, sBreak, sCont, sSet, sDrop, sRet, sRetN, sIf, iteS, sPar, setAll, sAsg, Tg.bind, gotE, sNew, sApp, appL, ownD, sSeal, sealE, sVar, sC, sCons, sNil, sOp2, sOp1, sCall, sCb, sTup, mkT, sLst, mkL1, sLstF, capL, sTst, truD, sAnd, sOr, iteB, kB, sNot, sIfE, iteE, sAndV, andV, sOrV, orV, sNotV, notD, sIs, sFor, sWhile, iSeqS, itemsD, iRange, iZip, zipD, zip2D, iEnum, enumD, sComp, sVal, sCatF, catL, sListF, listL, sRef, sChain, chV, sSlice, sPart, sNoPart, intO, slD, sOwnIx, sOwnLen, sOwnPut, sTry, sPut, putD, pure_bindM, bad_bindM, exc_bindM, pureD, runD, startE, endD, fuelI, List.map_cons, List.map_nil, List.length_cons, List.length_nil, List.length_append, List.replicate, List.cons_append, List.nil_append, List.append_nil, List.set_cons_zero, List.set_cons_succ, List.getElem?_cons_zero, List.getElem?_cons_succ, wipeE, List.foldr, Nat.reduceAdd, Nat.reduceSub, Nat.reduceLeDiff, Nat.zero_add, Nat.add_zero, Nat.reduceLT, if_true, if_false, ite_true, ite_false, reduceIte, Bool.false_eq_true, eq_self, opNe_int, opEq_int, opLt, opLe, opGt, opGe, opCmp, opSub, opNeg, opAdd_int, ixD, atI_0, atI_1, atI_2, bTuple, bList, opIsN, opNotN, tyN, isTy, String.reduceBEq, Bool.true_or, Bool.and_false, Bool.or_false, Bool.false_or, Bool.true_and, Bool.false_and, Bool.and_true, Bool.not_true, Bool.not_false, bIs, forL, stepS, Sl.va.injEq, decide_eq_true_eq, L__law_is_on_0]
      rw [show eQ q = .tup [.int q.num, .int q.den] from rfl]
      simp only [sSeq, sSkip, sBreak, sCont, sSet, sDrop, sRet, sRetN, sIf, iteS, sPar, setAll, sAsg, Tg.bind, gotE, sNew, sApp, appL, ownD, sSeal, sealE, sVar, sC, sCons, sNil, sOp2, sOp1, sCall, sCb, sTup, mkT, sLst, mkL1, sLstF, capL, sTst, truD, sAnd, sOr, iteB, kB, sNot, sIfE, iteE, sAndV, andV, sOrV, orV, sNotV, notD, sIs, sFor, sWhile, iSeqS, itemsD, iRange, iZip, zipD, zip2D, iEnum, enumD, sComp, sVal, sCatF, catL, sListF, listL, sRef, sChain, chV, sSlice, sPart, sNoPart, intO, slD, sOwnIx, sOwnLen, sOwnPut, sTry, sPut, putD, pure_bindM, bad_bindM, exc_bindM, pureD, runD, startE, endD, fuelI, List.map_cons, List.map_nil, List.length_cons, List.length_nil, List.length_append, List.replicate, List.cons_append, List.nil_append, List.append_nil, List.set_cons_zero, List.set_cons_succ, List.getElem?_cons_zero, List.getElem?_cons_succ, wipeE, List.foldr, Nat.reduceAdd, Nat.reduceSub, Nat.reduceLeDiff, Nat.zero_add, Nat.add_zero, Nat.reduceLT, if_true, if_false, ite_true, ite_false, reduceIte, Bool.false_eq_true, eq_self, opNe_int, opEq_int, opLt, opLe, opGt, opGe, opCmp, opSub, opNeg, opAdd_int, ixD, atI_0, atI_1, atI_2, bTuple, bList, opIsN, opNotN, tyN, isTy, String.reduceBEq, Bool.true_or, Bool.and_false, Bool.or_false, Bool.false_or, Bool.true_and, Bool.false_and, Bool.and_true, Bool.not_true, Bool.not_false, bIs, forL, stepS, Sl.va.injEq, decide_eq_true_eq, m1, m2, m3, m4]
      exact h5
theorem Good.qn {n : Nat} {s : List Rat} (g : Good n s) : ∀ q ∈ s, Qn (n + n) q := by
  obtain ⟨L, B, h0, hL, hB, hs⟩ := g
  exact fun q hq => (hs q hq).qn h0 hL hB
theorem e__law_is_on {m : Nat} {p : List Int} {s : List Rat} {n : Nat} (hp : PlOk m p) (hs : s.length ≤ 3) (g : Good n s) (l : n ≤ 1900) : m__law_is_on [eS s, eR p] = M.pure (.bl (onQ p s)) := by
  have hl := hp.last
  have hm : s.length * (n + n + 21) ≤ 3 * (n + n + 21) := Nat.mul_le_mul_right _ hs
  obtain ⟨t', b', h1, h2, h3⟩ := law_on_loop (k := n + n) (v0 := .va (eS s)) (v1 := .va (eR p)) (r := p) (s := s) (t := -(p.getLast?.getD 0)) (b := 1) (m := 21) (by decide) (by unfold Sm; omega) (by unfold Sm; decide) hp.ent g.qn (by omega)
  have la := atI_last hp.ne
  have e : (t' == 0) = onQ p s := by
    unfold onQ onT
    rw [int_divInt, ← h2, Bool.eq_iff_iff]
    simp only [beq_iff_eq, decide_eq_true_eq]
    exact (divInt_0 h1).symm
  simp only [eR, eS] at h3
  simp only [m__law_is_on, F__law_is_on, sSeq, sSkip, sBreak, sCont, sSet, sDrop, sRet, sRetN, sIf, iteS, sPar, setAll, sAsg, Tg.bind, gotE, sNew, sApp, appL, ownD, sSeal, sealE, sVar, sC, sCons, sNil, sOp2, sOp1, sCall, sCb, sTup, mkT, sLst, mkL1, sLstF, capL, sTst, truD, sAnd, sOr, iteB, kB, sNot, sIfE, iteE, sAndV, andV, sOrV, orV, sNotV, notD, sIs, sFor, sWhile, iSeqS, itemsD, iRange, iZip, zipD, zip2D, iEnum, enumD, sComp, sVal, sCatF, catL, sListF, listL, sRef, sChain, chV, sSlice, sPart, sNoPart, intO, slD, sOwnIx, sOwnLen, sOwnPut, sTry, sPut, putD, pure_bindM, bad_bindM, exc_bindM, pureD, runD, startE, endD, fuelI, List.map_cons, List.map_nil, List.length_cons, List.length_nil, List.length_append, List.replicate, List.cons_append, List.nil_append, List.append_nil, List.set_cons_zero, List.set_cons_succ, List.getElem?_cons_zero, List.getElem?_cons_succ, wipeE, List.foldr, Nat.reduceAdd, Nat.reduceSub, Nat.reduceLeDiff, Nat.zero_add, Nat.add_zero, Nat.reduceLT, if_true, if_false, ite_true, ite_false, reduceIte, Bool.false_eq_true, eq_self, opNe_int, opEq_int, opLt, opLe, opGt, opGe, opCmp, opSub, opNeg, opAdd_int, ixD, atI_0, atI_1, atI_2, bTuple, bList, opIsN, opNotN, tyN, isTy, String.reduceBEq, Bool.true_or, Bool.and_false, Bool.or_false, Bool.false_or, Bool.true_and, Bool.false_and, Bool.and_true, Bool.not_true, Bool.not_false, bIs, forL, stepS, Sl.va.injEq, decide_eq_true_eq, eR, eS, la, h3, e]
end Dt

set_option maxHeartbeats 4000000
namespace Dt
open PySem PySem.Spec PyProof.Rows L2
/-! ### rounds on a plane -/
def natsD (l : List Nat) : List D := l.map fun i : Nat => D.int i
theorem natsD_len (l : List Nat) : (natsD l).length = l.length := by simp [natsD]
def onL (T : Stp) (s : List Rat) (p : List Int) (k n : Nat) : List Nat := (List.range' k n).filter fun i => onQ p (afterQ T s i)
theorem onL_len (T : Stp) (s : List Rat) (p : List Int) (k n : Nat) : (onL T s p k n).length ≤ n := by
  unfold onL
  have := List.length_filter_le (fun i => onQ p (afterQ T s i)) (List.range' k n)
  rwa [List.length_range'] at this
theorem rangeN (n : Nat) : rangeD 0 n = natsD (List.range' 0 n) := by
  unfold rangeD natsD
  rw [List.range_eq_range']
  exact List.map_congr_left fun i hi => by rw [Int.zero_add]
theorem afterQ_succ {T : Stp} : ∀ {k : Nat} {s : List Rat}, afterQ T s (k + 1) = nextQ T (afterQ T s k)
  | 0, s => rfl
  | k + 1, s => afterQ_succ (k := k) (s := nextQ T s)
theorem onL_cons (T : Stp) (s : List Rat) (p : List Int) (k n : Nat) : onL T s p k (n + 1) = (if onQ p (afterQ T s k) then [k] else []) ++ onL T s p (k + 1) n := by
  unfold onL
  rw [List.range'_succ, List.filter_cons]
  split <;> rfl
theorem rounds_loop {T : Stp} (h : StpOk T) {m : Nat} {p : List Int} (hp : PlOk m p) {s : List Rat} {v1 v3 : Sl} : ∀ (n k : Nat) (acc : List D) {g : Nat}, Good g (afterQ T s k) → g + 6 * n ≤ 1900 → acc.length + n ≤ 1000000 → forL (.nm 6) [6] L_rounds_on_0 (natsD (List.range' k n)) [.va (eT T), v1, .va (eR p), v3, .ow acc, .va (eS (afterQ T s k)), .no] = M.pure (.nx, [.va (eT T), v1, .va (eR p), v3, .ow (acc ++ natsD (onL T s p k n)), .va (eS (afterQ T s (k + n))), .no])
  | 0, k, acc, g, hg, l, ha => by
    show M.pure _ = M.pure _
    simp [onL, natsD]
  | n + 1, k, acc, g, hg, l, ha => by
    have e1 := e_is_on hp hg (by omega)
    have e2 := e_next_stand h hg (by omega)
    have hg' := Good.next h hg
    rw [← afterQ_succ] at hg' e2
    have hal : acc.length < 1000000 := by omega
    rw [onL_cons, show natsD (List.range' k (n + 1)) = .int k :: natsD (List.range' (k + 1) n) by simp [natsD, List.range'_succ]]
    cases ho : onQ p (afterQ T s k) with
    | true =>
      rw [ho] at e1
      have ih := rounds_loop h hp (s := s) (v1 := v1) (v3 := v3) n (k + 1) (acc ++ [.int k]) hg' (by omega) (by simp; omega)
      simp only [forL, Tg.bind, sSeq, sSkip, sBreak, sCont, sSet, sDrop, sRet, sRetN, sIf, iteS, sPar, setAll, sAsg, Tg.bind, gotE, sNew, sApp, appL, ownD, sSeal, sealE, sVar, sC, sCons, sNil, sOp2, sOp1, sCall, sCb, sTup, mkT, sLst, mkL1, sLstF, capL, sTst, truD, sAnd, sOr, iteB, kB, sNot, sIfE, iteE, sAndV, andV, sOrV, orV, sNotV, notD, sIs, sFor, sWhile, iSeqS, itemsD, iRange, iZip, zipD, zip2D, iEnum, enumD, sComp, sVal, sCatF, catL, sListF, listL, sRef, sChain, chV, sSlice, sPart, sNoPart, intO, slD, sOwnIx, sOwnLen, sOwnPut, sTry, sPut, putD, pure_bindM, bad_bindM, exc_bindM, pureD, runD, startE, endD, fuelI, List.map_cons, List.map_nil, List.length_cons, List.length_nil, List.length_append, List.replicate, List.cons_append, List.nil_append, List.append_nil, List.set_cons_zero, List.set_cons_succ, List.getElem?_cons_zero, List.getElem?_cons_succ, wipeE, List.foldr, Nat.reduceAdd, Nat.reduceSub, Nat.reduceLeDiff, Nat.zero_add, Nat.add_zero, Nat.reduceLT, if_true, if_false, ite_true, ite_false, reduceIte, Bool.false_eq_true, eq_self, opNe_int, opEq_int, opLt, opLe, opGt, opGe, opCmp, opSub, opNeg, opAdd_int, ixD, atI_0, atI_1, atI_2, bTuple, bList, opIsN, opNotN, tyN, isTy, String.reduceBEq, Bool.true_or, Bool.and_false, Bool.or_false, Bool.false_or, Bool.true_and, Bool.false_and, Bool.and_true, Bool.not_true, Bool.not_false, bIs, forL, stepS, Sl.va.injEq, decide_eq_true_eq, L_rounds_on_0, e1, e2, hal]
      refine ih.trans ?_
      simp [natsD, Nat.add_assoc, Nat.add_comm 1 n]
    | false =>
      rw [ho] at e1
      have ih := rounds_loop h hp (s := s) (v1 := v1) (v3 := v3) n (k + 1) acc hg' (by omega) (by omega)
      simp only [forL, Tg.bind, sSeq, sSkip, sBreak, sCont, sSet, sDrop, sRet, sRetN, sIf, iteS, sPar, setAll, sAsg, Tg.bind, gotE, sNew, sApp, appL, ownD, sSeal, sealE, sVar, sC, sCons, sNil, sOp2, sOp1, sCall, sCb, sTup, mkT, sLst, mkL1, sLstF, capL, sTst, truD, sAnd, sOr, iteB, kB, sNot, sIfE, iteE, sAndV, andV, sOrV, orV, sNotV, notD, sIs, sFor, sWhile, iSeqS, itemsD, iRange, iZip, zipD, zip2D, iEnum, enumD, sComp, sVal, sCatF, catL, sListF, listL, sRef, sChain, chV, sSlice, sPart, sNoPart, intO, slD, sOwnIx, sOwnLen, sOwnPut, sTry, sPut, putD, pure_bindM, bad_bindM, exc_bindM, pureD, runD, startE, endD, fuelI, List.map_cons, List.map_nil, List.length_cons, List.length_nil, List.length_append, List.replicate, List.cons_append, List.nil_append, List.append_nil, List.set_cons_zero, List.set_cons_succ, List.getElem?_cons_zero, List.getElem?_cons_succ, wipeE, List.foldr, Nat.reduceAdd, Nat.reduceSub, Nat.reduceLeDiff, Nat.zero_add, Nat.add_zero, Nat.reduceLT, if_true, if_false, ite_true, ite_false, reduceIte, Bool.false_eq_true, eq_self, opNe_int, opEq_int, opLt, opLe, opGt, opGe, opCmp, opSub, opNeg, opAdd_int, ixD, atI_0, atI_1, atI_2, bTuple, bList, opIsN, opNotN, tyN, isTy, String.reduceBEq, Bool.true_or, Bool.and_false, Bool.or_false, Bool.false_or, Bool.true_and, Bool.false_and, Bool.and_true, Bool.not_true, Bool.not_false, bIs, forL, stepS, Sl.va.injEq, decide_eq_true_eq, L_rounds_on_0, e1, e2]
      refine ih.trans ?_
      simp [natsD, Nat.add_assoc, Nat.add_comm 1 n]
theorem e_rounds_on {T : Stp} (h : StpOk T) {m : Nat} {p : List Int} (hp : PlOk m p) {s : List Rat} {g n : Nat} (hg : Good g s) (l : g + 6 * (n + 1) ≤ 1900) : m_rounds_on [eT T, eS s, eR p, .int n] = M.pure (.lst (natsD (onL T s p 0 (n + 1)))) := by
  have lo := rounds_loop h hp (s := s) (v1 := .va (eS s)) (v3 := .va (.int n)) (n + 1) 0 [] hg l (by simp; omega)
  have hr : rangeS [.int ((n : Int) + 1)] = M.pure (rangeD 0 (n + 1)) := range_nat (k := n + 1) (by omega)
  have e0 : afterQ T s 0 = s := rfl
  rw [e0] at lo
  rw [← rangeN] at lo
  simp only [m_rounds_on, F_rounds_on, sParOV, sSeq, sSkip, sBreak, sCont, sSet, sDrop, sRet, sRetN, sIf, iteS, sPar, setAll, sAsg, Tg.bind, gotE, sNew, sApp, appL, ownD, sSeal, sealE, sVar, sC, sCons, sNil, sOp2, sOp1, sCall, sCb, sTup, mkT, sLst, mkL1, sLstF, capL, sTst, truD, sAnd, sOr, iteB, kB, sNot, sIfE, iteE, sAndV, andV, sOrV, orV, sNotV, notD, sIs, sFor, sWhile, iSeqS, itemsD, iRange, iZip, zipD, zip2D, iEnum, enumD, sComp, sVal, sCatF, catL, sListF, listL, sRef, sChain, chV, sSlice, sPart, sNoPart, intO, slD, sOwnIx, sOwnLen, sOwnPut, sTry, sPut, putD, pure_bindM, bad_bindM, exc_bindM, pureD, runD, startE, endD, fuelI, List.map_cons, List.map_nil, List.length_cons, List.length_nil, List.length_append, List.replicate, List.cons_append, List.nil_append, List.append_nil, List.set_cons_zero, List.set_cons_succ, List.getElem?_cons_zero, List.getElem?_cons_succ, wipeE, List.foldr, Nat.reduceAdd, Nat.reduceSub, Nat.reduceLeDiff, Nat.zero_add, Nat.add_zero, Nat.reduceLT, if_true, if_false, ite_true, ite_false, reduceIte, Bool.false_eq_true, eq_self, opNe_int, opEq_int, opLt, opLe, opGt, opGe, opCmp, opSub, opNeg, opAdd_int, ixD, atI_0, atI_1, atI_2, bTuple, bList, opIsN, opNotN, tyN, isTy, String.reduceBEq, Bool.true_or, Bool.and_false, Bool.or_false, Bool.false_or, Bool.true_and, Bool.false_and, Bool.and_true, Bool.not_true, Bool.not_false, bIs, forL, stepS, Sl.va.injEq, decide_eq_true_eq, hr]
  simp only [sSeq, sSkip, sBreak, sCont, sSet, sDrop, sRet, sRetN, sIf, iteS, sPar, setAll, sAsg, Tg.bind, gotE, sNew, sApp, appL, ownD, sSeal, sealE, sVar, sC, sCons, sNil, sOp2, sOp1, sCall, sCb, sTup, mkT, sLst, mkL1, sLstF, capL, sTst, truD, sAnd, sOr, iteB, kB, sNot, sIfE, iteE, sAndV, andV, sOrV, orV, sNotV, notD, sIs, sFor, sWhile, iSeqS, itemsD, iRange, iZip, zipD, zip2D, iEnum, enumD, sComp, sVal, sCatF, catL, sListF, listL, sRef, sChain, chV, sSlice, sPart, sNoPart, intO, slD, sOwnIx, sOwnLen, sOwnPut, sTry, sPut, putD, pure_bindM, bad_bindM, exc_bindM, pureD, runD, startE, endD, fuelI, List.map_cons, List.map_nil, List.length_cons, List.length_nil, List.length_append, List.replicate, List.cons_append, List.nil_append, List.append_nil, List.set_cons_zero, List.set_cons_succ, List.getElem?_cons_zero, List.getElem?_cons_succ, wipeE, List.foldr, Nat.reduceAdd, Nat.reduceSub, Nat.reduceLeDiff, Nat.zero_add, Nat.add_zero, Nat.reduceLT, if_true, if_false, ite_true, ite_false, reduceIte, Bool.false_eq_true, eq_self, opNe_int, opEq_int, opLt, opLe, opGt, opGe, opCmp, opSub, opNeg, opAdd_int, ixD, atI_0, atI_1, atI_2, bTuple, bList, opIsN, opNotN, tyN, isTy, String.reduceBEq, Bool.true_or, Bool.and_false, Bool.or_false, Bool.false_or, Bool.true_and, Bool.false_and, Bool.and_true, Bool.not_true, Bool.not_false, bIs, forL, stepS, Sl.va.injEq, decide_eq_true_eq] at lo
  rw [lo]
  simp only [sSeq, sSkip, sBreak, sCont, sSet, sDrop, sRet, sRetN, sIf, iteS, sPar, setAll, sAsg, Tg.bind, gotE, sNew, sApp, appL, ownD, sSeal, sealE, sVar, sC, sCons, sNil, sOp2, sOp1, sCall, sCb, sTup, mkT, sLst, mkL1, sLstF, capL, sTst, truD, sAnd, sOr, iteB, kB, sNot, sIfE, iteE, sAndV, andV, sOrV, orV, sNotV, notD, sIs, sFor, sWhile, iSeqS, itemsD, iRange, iZip, zipD, zip2D, iEnum, enumD, sComp, sVal, sCatF, catL, sListF, listL, sRef, sChain, chV, sSlice, sPart, sNoPart, intO, slD, sOwnIx, sOwnLen, sOwnPut, sTry, sPut, putD, pure_bindM, bad_bindM, exc_bindM, pureD, runD, startE, endD, fuelI, List.map_cons, List.map_nil, List.length_cons, List.length_nil, List.length_append, List.replicate, List.cons_append, List.nil_append, List.append_nil, List.set_cons_zero, List.set_cons_succ, List.getElem?_cons_zero, List.getElem?_cons_succ, wipeE, List.foldr, Nat.reduceAdd, Nat.reduceSub, Nat.reduceLeDiff, Nat.zero_add, Nat.add_zero, Nat.reduceLT, if_true, if_false, ite_true, ite_false, reduceIte, Bool.false_eq_true, eq_self, opNe_int, opEq_int, opLt, opLe, opGt, opGe, opCmp, opSub, opNeg, opAdd_int, ixD, atI_0, atI_1, atI_2, bTuple, bList, opIsN, opNotN, tyN, isTy, String.reduceBEq, Bool.true_or, Bool.and_false, Bool.or_false, Bool.false_or, Bool.true_and, Bool.false_and, Bool.and_true, Bool.not_true, Bool.not_false, bIs, forL, stepS, Sl.va.injEq, decide_eq_true_eq, sealE]
theorem isRowM_eR {n : Nat} {p : List Int} (h : PlOk n p) : isRowM (n + 1) 1000000 (eR p) = true := by
  show ((p.map D.int).length == n + 1 && (p.map D.int).all (isW (-1000000) 1000000)) = true
  rw [List.length_map, h.len, all_map D.int _ (fun e he => by
    have := h.ent e he
    show (decide (-1000000 ≤ e) && decide (e ≤ 1000000)) = true
    rw [decide_eq_true (by omega), decide_eq_true (by omega)]
    rfl)]
  simp
theorem e_need_stand_eT {T : Stp} (h : StpOk T) {d : D} (hd : plD d = true) : m_need_stand [eT T, d] = orE (isStand T.rows.length d) "InvalidStand" := by
  have := e_need_stand hd (b := .int T.b) (rows := T.rows.map eR) (by have := h.n3; simp; omega)
  rwa [List.length_map] at this
theorem e_need_plane_eT {T : Stp} (h : StpOk T) {d : D} (hd : plD d = true) : m_need_plane [eT T, d] = orE (isRowM (T.rows.length + 1) 1000000 d) "InvalidPlane" := by
  have := e_need_plane hd (b := .int T.b) (rows := T.rows.map eR) (by have := h.n3; simp; omega)
  rwa [List.length_map] at this
theorem orE_true (x : Str) : orE true x = M.pure .non := rfl
theorem orE_false (x : Str) : orE false x = M.exc ⟨x, none⟩ := rfl
theorem e_need_all {T : Stp} (h : StpOk T) {s d e : D} (hs : plD s = true) (hd : plD d = true) (he : plD e = true) : m_need_all [eT T, s, d, e] = (orE (isStand T.rows.length s) "InvalidStand" >>= fun _ => orE (isRowM (T.rows.length + 1) 1000000 d) "InvalidPlane" >>= fun _ => orE (isW 0 200 e) "InvalidNumber") := by
  simp only [m_need_all, F_need_all, sSeq, sSkip, sBreak, sCont, sSet, sDrop, sRet, sRetN, sIf, iteS, sPar, setAll, sAsg, Tg.bind, gotE, sNew, sApp, appL, ownD, sSeal, sealE, sVar, sC, sCons, sNil, sOp2, sOp1, sCall, sCb, sTup, mkT, sLst, mkL1, sLstF, capL, sTst, truD, sAnd, sOr, iteB, kB, sNot, sIfE, iteE, sAndV, andV, sOrV, orV, sNotV, notD, sIs, sFor, sWhile, iSeqS, itemsD, iRange, iZip, zipD, zip2D, iEnum, enumD, sComp, sVal, sCatF, catL, sListF, listL, sRef, sChain, chV, sSlice, sPart, sNoPart, intO, slD, sOwnIx, sOwnLen, sOwnPut, sTry, sPut, putD, pure_bindM, bad_bindM, exc_bindM, pureD, runD, startE, endD, fuelI, List.map_cons, List.map_nil, List.length_cons, List.length_nil, List.length_append, List.replicate, List.cons_append, List.nil_append, List.append_nil, List.set_cons_zero, List.set_cons_succ, List.getElem?_cons_zero, List.getElem?_cons_succ, wipeE, List.foldr, Nat.reduceAdd, Nat.reduceSub, Nat.reduceLeDiff, Nat.zero_add, Nat.add_zero, Nat.reduceLT, if_true, if_false, ite_true, ite_false, reduceIte, Bool.false_eq_true, eq_self, opNe_int, opEq_int, opLt, opLe, opGt, opGe, opCmp, opSub, opNeg, opAdd_int, ixD, atI_0, atI_1, atI_2, bTuple, bList, opIsN, opNotN, tyN, isTy, String.reduceBEq, Bool.true_or, Bool.and_false, Bool.or_false, Bool.false_or, Bool.true_and, Bool.false_and, Bool.and_true, Bool.not_true, Bool.not_false, bIs, forL, stepS, Sl.va.injEq, decide_eq_true_eq, e_need_step_ok h, e_need_stand_eT h hs, e_need_plane_eT h hd, e_need_number he, bind_assocM]
  cases isStand T.rows.length s <;> cases isRowM (T.rows.length + 1) 1000000 d <;> cases isW 0 200 e <;> rfl
theorem okEs_nats (l : List Nat) : okEs (natsD l) = true := okE_map (fun i : Nat => D.int i) (fun _ => rfl) l
theorem dpEs_nats (l : List Nat) : dpEs (natsD l) ≤ 0 := dpE_map (fun i : Nat => D.int i) (n := 0) (fun _ => Nat.le_refl 0) l
theorem eqD_nats (a b : List Nat) : eqD (.lst (natsD a)) (.lst (natsD b)) = decide (a = b) := eqDs_map (fun i : Nat => D.int i) (fun x y => by
  show ((x : Int) == (y : Int)) = _
  rw [len_int, Bool.eq_iff_iff]
  simp) a b
theorem eqOk_nats (a b : List Nat) : eqOk (.lst (natsD a)) (.lst (natsD b)) = true := eqOk_of2 (okEs_nats a) (okEs_nats b) (by show dpEs _ + 1 ≤ 64; have := dpEs_nats a; omega) (by show dpEs _ + 1 ≤ 64; have := dpEs_nats b; omega)
theorem opEq_nats (a b : List Nat) : opEq (.lst (natsD a)) (.lst (natsD b)) = M.pure (.bl (decide (a = b))) := by rw [opEq_of (eqOk_nats a b), eqD_nats]
theorem opNe_nats (a b : List Nat) : opNe (.lst (natsD a)) (.lst (natsD b)) = M.pure (.bl (!decide (a = b))) := by rw [opNe_of (eqOk_nats a b), eqD_nats]
def headN : List Nat → D
  | [] => .non
  | i :: _ => .int i
section
variable {T : Stp} (h : StpOk T) {p : List Int} (hp : PlOk T.rows.length p) {s : List Rat} (hs : isStand T.rows.length (eS s) = true) {g : Nat} (hg : Good g s)
include h hp hs hg
theorem e_all_on {n : Nat} (hn : n ≤ 200) (l : g + 6 * (n + 1) ≤ 1900) : m_all_on [eT T, eS s, eR p, .int n] = M.pure (.lst (natsD (onL T s p 0 (n + 1)))) := by
  have hw : isW 0 200 (.int n) = true := by
    show (decide ((0 : Int) ≤ n) && decide ((n : Int) ≤ 200)) = true
    rw [decide_eq_true (by omega), decide_eq_true (by omega)]
    rfl
  simp only [m_all_on, F_all_on, sSeq, sSkip, sBreak, sCont, sSet, sDrop, sRet, sRetN, sIf, iteS, sPar, setAll, sAsg, Tg.bind, gotE, sNew, sApp, appL, ownD, sSeal, sealE, sVar, sC, sCons, sNil, sOp2, sOp1, sCall, sCb, sTup, mkT, sLst, mkL1, sLstF, capL, sTst, truD, sAnd, sOr, iteB, kB, sNot, sIfE, iteE, sAndV, andV, sOrV, orV, sNotV, notD, sIs, sFor, sWhile, iSeqS, itemsD, iRange, iZip, zipD, zip2D, iEnum, enumD, sComp, sVal, sCatF, catL, sListF, listL, sRef, sChain, chV, sSlice, sPart, sNoPart, intO, slD, sOwnIx, sOwnLen, sOwnPut, sTry, sPut, putD, pure_bindM, bad_bindM, exc_bindM, pureD, runD, startE, endD, fuelI, List.map_cons, List.map_nil, List.length_cons, List.length_nil, List.length_append, List.replicate, List.cons_append, List.nil_append, List.append_nil, List.set_cons_zero, List.set_cons_succ, List.getElem?_cons_zero, List.getElem?_cons_succ, wipeE, List.foldr, Nat.reduceAdd, Nat.reduceSub, Nat.reduceLeDiff, Nat.zero_add, Nat.add_zero, Nat.reduceLT, if_true, if_false, ite_true, ite_false, reduceIte, Bool.false_eq_true, eq_self, opNe_int, opEq_int, opLt, opLe, opGt, opGe, opCmp, opSub, opNeg, opAdd_int, ixD, atI_0, atI_1, atI_2, bTuple, bList, opIsN, opNotN, tyN, isTy, String.reduceBEq, Bool.true_or, Bool.and_false, Bool.or_false, Bool.false_or, Bool.true_and, Bool.false_and, Bool.and_true, Bool.not_true, Bool.not_false, bIs, forL, stepS, Sl.va.injEq, decide_eq_true_eq, e_need_all h (pl_eS s) (pl_eR p) (rfl : plD (.int n) = true), hs, isRowM_eR hp, hw, orE_true, e_rounds_on h hp hg l]
theorem e_first_on {n : Nat} (hn : n ≤ 200) (l : g + 6 * (n + 1) ≤ 1900) : m_first_on [eT T, eS s, eR p, .int n] = M.pure (headN (onL T s p 0 (n + 1))) := by
  have hw : isW 0 200 (.int n) = true := by
    show (decide ((0 : Int) ≤ n) && decide ((n : Int) ≤ 200)) = true
    rw [decide_eq_true (by omega), decide_eq_true (by omega)]
    rfl
  have ne := opNe_nats (onL T s p 0 (n + 1)) []
  simp only [natsD, List.map_nil] at ne
  simp only [m_first_on, F_first_on, sSeq, sSkip, sBreak, sCont, sSet, sDrop, sRet, sRetN, sIf, iteS, sPar, setAll, sAsg, Tg.bind, gotE, sNew, sApp, appL, ownD, sSeal, sealE, sVar, sC, sCons, sNil, sOp2, sOp1, sCall, sCb, sTup, mkT, sLst, mkL1, sLstF, capL, sTst, truD, sAnd, sOr, iteB, kB, sNot, sIfE, iteE, sAndV, andV, sOrV, orV, sNotV, notD, sIs, sFor, sWhile, iSeqS, itemsD, iRange, iZip, zipD, zip2D, iEnum, enumD, sComp, sVal, sCatF, catL, sListF, listL, sRef, sChain, chV, sSlice, sPart, sNoPart, intO, slD, sOwnIx, sOwnLen, sOwnPut, sTry, sPut, putD, pure_bindM, bad_bindM, exc_bindM, pureD, runD, startE, endD, fuelI, List.map_cons, List.map_nil, List.length_cons, List.length_nil, List.length_append, List.replicate, List.cons_append, List.nil_append, List.append_nil, List.set_cons_zero, List.set_cons_succ, List.getElem?_cons_zero, List.getElem?_cons_succ, wipeE, List.foldr, Nat.reduceAdd, Nat.reduceSub, Nat.reduceLeDiff, Nat.zero_add, Nat.add_zero, Nat.reduceLT, if_true, if_false, ite_true, ite_false, reduceIte, Bool.false_eq_true, eq_self, opNe_int, opEq_int, opLt, opLe, opGt, opGe, opCmp, opSub, opNeg, opAdd_int, ixD, atI_0, atI_1, atI_2, bTuple, bList, opIsN, opNotN, tyN, isTy, String.reduceBEq, Bool.true_or, Bool.and_false, Bool.or_false, Bool.false_or, Bool.true_and, Bool.false_and, Bool.and_true, Bool.not_true, Bool.not_false, bIs, forL, stepS, Sl.va.injEq, decide_eq_true_eq, e_need_all h (pl_eS s) (pl_eR p) (rfl : plD (.int n) = true), hs, isRowM_eR hp, hw, orE_true, e_rounds_on h hp hg l, natsD, ne]
  cases onL T s p 0 (n + 1) with
  | nil => rfl
  | cons i t =>
    simp only [List.map_cons, reduceCtorEq, decide_false, sSeq, sSkip, sBreak, sCont, sSet, sDrop, sRet, sRetN, sIf, iteS, sPar, setAll, sAsg, Tg.bind, gotE, sNew, sApp, appL, ownD, sSeal, sealE, sVar, sC, sCons, sNil, sOp2, sOp1, sCall, sCb, sTup, mkT, sLst, mkL1, sLstF, capL, sTst, truD, sAnd, sOr, iteB, kB, sNot, sIfE, iteE, sAndV, andV, sOrV, orV, sNotV, notD, sIs, sFor, sWhile, iSeqS, itemsD, iRange, iZip, zipD, zip2D, iEnum, enumD, sComp, sVal, sCatF, catL, sListF, listL, sRef, sChain, chV, sSlice, sPart, sNoPart, intO, slD, sOwnIx, sOwnLen, sOwnPut, sTry, sPut, putD, pure_bindM, bad_bindM, exc_bindM, pureD, runD, startE, endD, fuelI, List.map_cons, List.map_nil, List.length_cons, List.length_nil, List.length_append, List.replicate, List.cons_append, List.nil_append, List.append_nil, List.set_cons_zero, List.set_cons_succ, List.getElem?_cons_zero, List.getElem?_cons_succ, wipeE, List.foldr, Nat.reduceAdd, Nat.reduceSub, Nat.reduceLeDiff, Nat.zero_add, Nat.add_zero, Nat.reduceLT, if_true, if_false, ite_true, ite_false, reduceIte, Bool.false_eq_true, eq_self, opNe_int, opEq_int, opLt, opLe, opGt, opGe, opCmp, opSub, opNeg, opAdd_int, ixD, atI_0, atI_1, atI_2, bTuple, bList, opIsN, opNotN, tyN, isTy, String.reduceBEq, Bool.true_or, Bool.and_false, Bool.or_false, Bool.false_or, Bool.true_and, Bool.false_and, Bool.and_true, Bool.not_true, Bool.not_false, bIs, forL, stepS, Sl.va.injEq, decide_eq_true_eq, headN]
theorem e_stays_on (l : g + 30 ≤ 1900) : m_stays_on [eT T, eS s, eR p] = M.pure (.bl (decide (onL T s p 0 5 = [0, 1, 2, 3, 4]))) := by
  have ne := opEq_nats (onL T s p 0 5) [0, 1, 2, 3, 4]
  have er := e_rounds_on h hp hg (n := 4) (by omega)
  simp only [natsD, List.map_cons, List.map_nil, Int.cast_ofNat_Int] at ne er
  simp only [m_stays_on, F_stays_on, sSeq, sSkip, sBreak, sCont, sSet, sDrop, sRet, sRetN, sIf, iteS, sPar, setAll, sAsg, Tg.bind, gotE, sNew, sApp, appL, ownD, sSeal, sealE, sVar, sC, sCons, sNil, sOp2, sOp1, sCall, sCb, sTup, mkT, sLst, mkL1, sLstF, capL, sTst, truD, sAnd, sOr, iteB, kB, sNot, sIfE, iteE, sAndV, andV, sOrV, orV, sNotV, notD, sIs, sFor, sWhile, iSeqS, itemsD, iRange, iZip, zipD, zip2D, iEnum, enumD, sComp, sVal, sCatF, catL, sListF, listL, sRef, sChain, chV, sSlice, sPart, sNoPart, intO, slD, sOwnIx, sOwnLen, sOwnPut, sTry, sPut, putD, pure_bindM, bad_bindM, exc_bindM, pureD, runD, startE, endD, fuelI, List.map_cons, List.map_nil, List.length_cons, List.length_nil, List.length_append, List.replicate, List.cons_append, List.nil_append, List.append_nil, List.set_cons_zero, List.set_cons_succ, List.getElem?_cons_zero, List.getElem?_cons_succ, wipeE, List.foldr, Nat.reduceAdd, Nat.reduceSub, Nat.reduceLeDiff, Nat.zero_add, Nat.add_zero, Nat.reduceLT, if_true, if_false, ite_true, ite_false, reduceIte, Bool.false_eq_true, eq_self, opNe_int, opEq_int, opLt, opLe, opGt, opGe, opCmp, opSub, opNeg, opAdd_int, ixD, atI_0, atI_1, atI_2, bTuple, bList, opIsN, opNotN, tyN, isTy, String.reduceBEq, Bool.true_or, Bool.and_false, Bool.or_false, Bool.false_or, Bool.true_and, Bool.false_and, Bool.and_true, Bool.not_true, Bool.not_false, bIs, forL, stepS, Sl.va.injEq, decide_eq_true_eq, e_need_all h (pl_eS s) (pl_eR p) (rfl : plD (.int 0) = true), hs, isRowM_eR hp, show isW 0 200 (.int 0) = true from rfl, orE_true, er, ne]
end
end Dt

set_option maxHeartbeats 4000000
namespace Dt
open PySem PySem.Spec PyProof.Rows L2
/-! ### what stays -/
theorem ch_rec {T : Stp} (h1 : 1 ≤ T.rows.length) (h3 : T.rows.length ≤ 3) (hl : ∀ r ∈ T.rows, r.length = T.rows.length) : ∃ t u d : Rat, ∀ (s : List Rat) (p : List Int), s.length = T.rows.length → T.rows.length ≤ p.length →
    dotQ 0 p (nextQ T (nextQ T (nextQ T s))) = t * dotQ 0 p (nextQ T (nextQ T s)) + u * dotQ 0 p (nextQ T s) + d * dotQ 0 p s := by
  obtain ⟨b, rows⟩ := T
  simp only at h1 h3 hl ⊢
  rcases rows with _ | ⟨r1, _ | ⟨r2, _ | ⟨r3, _ | ⟨r4, rows⟩⟩⟩⟩
  · simp at h1
  · have l1 := hl r1 (by simp)
    rcases r1 with _ | ⟨a, _ | ⟨x, r1⟩⟩ <;> simp at l1
    refine ⟨(a : Rat) / b, 0, 0, fun s p hs hp => ?_⟩
    rcases s with _ | ⟨x, _ | ⟨y, s⟩⟩ <;> simp at hs
    rcases p with _ | ⟨p0, p⟩ <;> simp at hp
    simp only [nextQ, dotQ, List.map_cons, List.map_nil]
    grind
  · have l1 := hl r1 (by simp)
    have l2 := hl r2 (by simp)
    rcases r1 with _ | ⟨a, _ | ⟨c, _ | ⟨x, r1⟩⟩⟩ <;> simp at l1
    rcases r2 with _ | ⟨d, _ | ⟨e, _ | ⟨x, r2⟩⟩⟩ <;> simp at l2
    refine ⟨((a : Rat) + e) / b, -((a : Rat) * e - c * d) / (b * b), 0, fun s p hs hp => ?_⟩
    rcases s with _ | ⟨x, _ | ⟨y, _ | ⟨z, s⟩⟩⟩ <;> simp at hs
    rcases p with _ | ⟨p0, _ | ⟨p1, p⟩⟩ <;> simp at hp
    have e1 : ∀ z : List Rat, dotQ (0 + (p0 : Rat) * x + (p1 : Rat) * y) p z = dotQ (0 + (p0 : Rat) * x + (p1 : Rat) * y) p z := fun _ => rfl
    have e2 : ∀ q : Rat, dotQ q p [] = q := by intro q; cases p <;> rfl
    have e3 : ∀ q : Rat, ∀ l, dotQ q [] l = q := by intro q l; cases l <;> rfl
    simp only [nextQ, dotQ, List.map_cons, List.map_nil, e2, e3]
    grind
  · have l1 := hl r1 (by simp)
    have l2 := hl r2 (by simp)
    have l3 := hl r3 (by simp)
    rcases r1 with _ | ⟨a11, _ | ⟨a12, _ | ⟨a13, _ | ⟨x, r1⟩⟩⟩⟩ <;> simp at l1
    rcases r2 with _ | ⟨a21, _ | ⟨a22, _ | ⟨a23, _ | ⟨x, r2⟩⟩⟩⟩ <;> simp at l2
    rcases r3 with _ | ⟨a31, _ | ⟨a32, _ | ⟨a33, _ | ⟨x, r3⟩⟩⟩⟩ <;> simp at l3
    refine ⟨((a11 : Rat) + a22 + a33) / b, -(((a11 : Rat) * a22 - a12 * a21) + (a11 * a33 - a13 * a31) + (a22 * a33 - a23 * a32)) / (b * b), ((a11 : Rat) * (a22 * a33 - a23 * a32) - a12 * (a21 * a33 - a23 * a31) + a13 * (a21 * a32 - a22 * a31)) / (b * b * b), fun s p hs hp => ?_⟩
    rcases s with _ | ⟨x, _ | ⟨y, _ | ⟨z, _ | ⟨w, s⟩⟩⟩⟩ <;> simp at hs
    rcases p with _ | ⟨p0, _ | ⟨p1, _ | ⟨p2, p⟩⟩⟩ <;> simp at hp
    have e2 : ∀ q : Rat, dotQ q p [] = q := by intro q; cases p <;> rfl
    simp only [nextQ, dotQ, List.map_cons, List.map_nil, e2, Rat.div_def]
    have hi : ((b : Rat) * b)⁻¹ = (b : Rat)⁻¹ * (b : Rat)⁻¹ := Rat.inv_mul_rev _ _
    have hi3 : ((b : Rat) * b * b)⁻¹ = (b : Rat)⁻¹ * (b : Rat)⁻¹ * (b : Rat)⁻¹ := by grind
    rw [hi, hi3]
    generalize (b : Rat)⁻¹ = i
    grind
  · simp at h3
theorem dotQ_add (a : Rat) : ∀ (p : List Int) (s : List Rat), dotQ a p s = a + dotQ 0 p s
  | [], s => by cases s <;> simp only [dotQ, Rat.add_zero]
  | e :: p, [] => by simp only [dotQ, Rat.add_zero]
  | e :: p, q :: s => by
    simp only [dotQ]
    rw [dotQ_add (a + e * q) p s, dotQ_add (0 + e * q) p s]
    grind
theorem stays {T : Stp} (h1 : 1 ≤ T.rows.length) (h3 : T.rows.length ≤ 3) (hl : ∀ r ∈ T.rows, r.length = T.rows.length) {s : List Rat} {p : List Int} {c : Rat} (hs : s.length = T.rows.length) (hp : T.rows.length ≤ p.length)
    (h : ∀ k < 4, dotQ (-c) p (afterQ T s k) = 0) : ∀ k, dotQ (-c) p (afterQ T s k) = 0 := by
  obtain ⟨t, u, d, hr⟩ := ch_rec h1 h3 hl
  have rec_ : ∀ k, dotQ 0 p (afterQ T s (k + 3)) = t * dotQ 0 p (afterQ T s (k + 2)) + u * dotQ 0 p (afterQ T s (k + 1)) + d * dotQ 0 p (afterQ T s k) := fun k => by
    rw [afterQ_succ (k := k + 2), afterQ_succ (k := k + 1), afterQ_succ (k := k)]
    exact hr _ p (afterQ_len k s hs) hp
  have h' : ∀ k < 4, dotQ 0 p (afterQ T s k) = c := fun k hk => by
    have := h k hk
    rw [dotQ_add] at this
    grind
  have hc : t * c + u * c + d * c = c := by
    have r0 := rec_ 0
    rw [h' 3 (by decide), h' 2 (by decide), h' 1 (by decide), h' 0 (by decide)] at r0
    exact r0.symm
  have all : ∀ k, dotQ 0 p (afterQ T s k) = c ∧ dotQ 0 p (afterQ T s (k + 1)) = c ∧ dotQ 0 p (afterQ T s (k + 2)) = c := fun k => by
    induction k with
    | zero => exact ⟨h' 0 (by decide), h' 1 (by decide), h' 2 (by decide)⟩
    | succ k ih =>
      refine ⟨ih.2.1, ih.2.2, ?_⟩
      rw [show k + 1 + 2 = k + 3 by omega, rec_ k, ih.1, ih.2.1, ih.2.2]
      exact hc
  intro k
  rw [dotQ_add, (all k).1]
  grind

theorem stays_eq {T : Stp} (h : StpOk T) {s : List Rat} {p : List Int} (hs : s.length = T.rows.length) (hp : PlOk T.rows.length p) : decide (onL T s p 0 5 = [0, 1, 2, 3, 4]) = ((onL T s p 0 41).length == 41) := by
  rw [Bool.eq_iff_iff]
  simp only [decide_eq_true_eq, beq_iff_eq]
  have hr : List.range' 0 5 = [0, 1, 2, 3, 4] := rfl
  unfold onL
  rw [← hr, List.filter_eq_self]
  have hl : ((List.range' 0 41).filter fun i => onQ p (afterQ T s i)).length = 41 ↔ ∀ i ∈ List.range' 0 41, onQ p (afterQ T s i) = true := by
    have := List.length_filter_eq_length_iff (p := fun i => onQ p (afterQ T s i)) (l := List.range' 0 41)
    rwa [List.length_range'] at this
  rw [hl]
  constructor
  · intro h5 i _
    unfold onQ onT at *
    rw [decide_eq_true_eq]
    have e : (((-(p.getLast?.getD 0) : Int)) : Rat) = -((p.getLast?.getD 0 : Int) : Rat) := by simp
    rw [e]
    refine stays h.n1 h.n3 h.len hs (by have := hp.len; omega) (fun k hk => ?_) i
    have := h5 k (by rw [List.mem_range']; exact ⟨k, by omega, by omega⟩)
    rw [decide_eq_true_eq, e] at this
    exact this
  · intro ha i hi
    refine ha i ?_
    rw [List.mem_range'] at hi ⊢
    obtain ⟨j, h1, h2⟩ := hi
    exact ⟨j, by omega, h2⟩
theorem onL_most (T : Stp) (s : List Rat) (p : List Int) {most : Nat} (hm : most ≤ 40) : (onL T s p 0 41).filter (fun i => decide (i ≤ most)) = onL T s p 0 (most + 1) := by
  unfold onL
  have e : List.range' 0 41 = List.range' 0 (most + 1) ++ List.range' (most + 1) (40 - most) := by
    have := List.range'_append_1 (s := 0) (m := most + 1) (n := 40 - most)
    rw [Nat.zero_add] at this
    rw [this]
    congr 1
    omega
  rw [e, List.filter_append, List.filter_append]
  have e1 : (((List.range' 0 (most + 1)).filter fun i => onQ p (afterQ T s i)).filter fun i => decide (i ≤ most)) = (List.range' 0 (most + 1)).filter fun i => onQ p (afterQ T s i) := by
    rw [List.filter_eq_self]
    intro i hi
    have := (List.mem_filter.mp hi).1
    rw [List.mem_range'] at this
    obtain ⟨j, h1, h2⟩ := this
    rw [decide_eq_true_eq]
    omega
  have e2 : (((List.range' (most + 1) (40 - most)).filter fun i => onQ p (afterQ T s i)).filter fun i => decide (i ≤ most)) = [] := by
    rw [List.filter_eq_nil_iff]
    intro i hi
    have := (List.mem_filter.mp hi).1
    rw [List.mem_range'] at this
    obtain ⟨j, h1, h2⟩ := this
    rw [decide_eq_true_eq]
    omega
  rw [e1, e2, List.append_nil]
/-! ### a drawn even step -/
theorem opAdd_lst {xs ys : List D} (h : xs.length + ys.length ≤ 1000000) : opAdd (.lst xs) (.lst ys) = M.pure (.lst (xs ++ ys)) := if_pos h
theorem wp_pickL {st : Sto} {k n : Nat} (h : Deck k n st) (hn : n < 1000000) (size : Nat) (hs : 0 < size) (hs2 : size < 2 ^ 40) {env : Env} {Fs : SA} (hF : Fs env = M.pure [.ref k, .int size]) : Wp (sCall m__law_pick Fs env) st fun d s' => (∃ j : Nat, d = .int j ∧ j < size) ∧ Deck k (n + 1) s' := wp_call hF (wp_pick h hn hs hs2)
theorem wp_even1 {st : Sto} {k n : Nat} (h : Deck k n st) (hn : n + 3 < 1000000) : Wp (m__law_even_step [.ref k, .int 1]) st fun d s' => (∃ T : Stp, d = eT T ∧ StpOk T ∧ T.rows.length = 1) ∧ Deck k (n + 3) s' := by
  unfold m__law_even_step
  refine wp_run ?_
  unfold F__law_even_step
  refine wp_seqK (wp_ifT rfl (wp_ret (wp_tup (wp_cons (Wp.pureE rfl (wp_cons (wp_tup (wp_cons (wp_tup (wp_cons (wp_call (ds := [.ref k, .lst [.int 1, .int 1, .int (-1), .int 0]]) rfl ((wp_one h (by omega) (by simp) (by simp)).mono fun d s' ⟨hd, h4⟩ => wp_nil ⟨by simp, wp_nil ⟨by simp, wp_nil ⟨by simp, ?_⟩⟩⟩))))))))))))
  refine ⟨_, _, rfl, ?_, h4.mono (by omega)⟩
  simp only [List.mem_cons, List.not_mem_nil, or_false] at hd
  rcases hd with rfl | rfl | rfl | rfl <;> exact ⟨⟨_, [[_]]⟩, rfl, ok1 (by decide) (by decide) (by decide), rfl⟩
theorem wp_even2 {st : Sto} {k n : Nat} (h : Deck k n st) (hn : n + 3 < 1000000) : Wp (m__law_even_step [.ref k, .int 2]) st fun d s' => (∃ T : Stp, d = eT T ∧ StpOk T ∧ T.rows.length = 2) ∧ Deck k (n + 3) s' := by
  unfold m__law_even_step
  refine wp_run ?_
  unfold F__law_even_step
  refine wp_seqK (wp_ifF rfl (Wp.pure ?_))
  refine wp_seqSet (wp_op2 ((wp_pickL h (by omega) 7 (by decide) (by decide) rfl).mono fun d s1 ⟨⟨j, e, hj⟩, hd⟩ => ?_))
  subst e
  refine Wp.pureE rfl (Wp.pureE (a := .int ((j : Int) - 3)) rfl ?_)
  obtain ⟨y, hy⟩ : ∃ y : Int, y = (j : Int) - 3 := ⟨_, rfl⟩
  rw [← hy]
  have hya : y.natAbs ≤ 3 := by omega
  refine wp_seqK (wp_ifT rfl ?_)
  refine wp_seqP (by simp only [startE, sSeq, sSkip, sBreak, sCont, sSet, sDrop, sRet, sRetN, sIf, iteS, sPar, setAll, sAsg, Tg.bind, gotE, sNew, sApp, appL, ownD, sSeal, sealE, sVar, sC, sCons, sNil, sOp2, sOp1, sCall, sCb, sTup, mkT, sLst, mkL1, sLstF, capL, sTst, truD, sAnd, sOr, iteB, kB, sNot, sIfE, iteE, sAndV, andV, sOrV, orV, sNotV, notD, sIs, sFor, sWhile, iSeqS, itemsD, iRange, iZip, zipD, zip2D, iEnum, enumD, sComp, sVal, sCatF, catL, sListF, listL, sRef, sChain, chV, sSlice, sPart, sNoPart, intO, slD, sOwnIx, sOwnLen, sOwnPut, sTry, sPut, putD, pure_bindM, bad_bindM, exc_bindM, pureD, runD, startE, endD, fuelI, List.map_cons, List.map_nil, List.length_cons, List.length_nil, List.length_append, List.replicate, List.cons_append, List.nil_append, List.append_nil, List.set_cons_zero, List.set_cons_succ, List.getElem?_cons_zero, List.getElem?_cons_succ, wipeE, List.foldr, Nat.reduceAdd, Nat.reduceSub, Nat.reduceLeDiff, Nat.zero_add, Nat.add_zero, Nat.reduceLT, if_true, if_false, ite_true, ite_false, reduceIte, Bool.false_eq_true, eq_self, opNe_int, opEq_int, opLt, opLe, opGt, opGe, opCmp, opSub, opNeg, opAdd_int, ixD, atI_0, atI_1, atI_2, bTuple, bList, opIsN, opNotN, tyN, isTy, String.reduceBEq, Bool.true_or, Bool.and_false, Bool.or_false, Bool.false_or, Bool.true_and, Bool.false_and, Bool.and_true, Bool.not_true, Bool.not_false, bIs, forL, stepS, Sl.va.injEq, decide_eq_true_eq]; rfl) ?_
  refine wp_seqP (by simp only [sSeq, sSkip, sBreak, sCont, sSet, sDrop, sRet, sRetN, sIf, iteS, sPar, setAll, sAsg, Tg.bind, gotE, sNew, sApp, appL, ownD, sSeal, sealE, sVar, sC, sCons, sNil, sOp2, sOp1, sCall, sCb, sTup, mkT, sLst, mkL1, sLstF, capL, sTst, truD, sAnd, sOr, iteB, kB, sNot, sIfE, iteE, sAndV, andV, sOrV, orV, sNotV, notD, sIs, sFor, sWhile, iSeqS, itemsD, iRange, iZip, zipD, zip2D, iEnum, enumD, sComp, sVal, sCatF, catL, sListF, listL, sRef, sChain, chV, sSlice, sPart, sNoPart, intO, slD, sOwnIx, sOwnLen, sOwnPut, sTry, sPut, putD, pure_bindM, bad_bindM, exc_bindM, pureD, runD, startE, endD, fuelI, List.map_cons, List.map_nil, List.length_cons, List.length_nil, List.length_append, List.replicate, List.cons_append, List.nil_append, List.append_nil, List.set_cons_zero, List.set_cons_succ, List.getElem?_cons_zero, List.getElem?_cons_succ, wipeE, List.foldr, Nat.reduceAdd, Nat.reduceSub, Nat.reduceLeDiff, Nat.zero_add, Nat.add_zero, Nat.reduceLT, if_true, if_false, ite_true, ite_false, reduceIte, Bool.false_eq_true, eq_self, opNe_int, opEq_int, opLt, opLe, opGt, opGe, opCmp, opSub, opNeg, opAdd_int, ixD, atI_0, atI_1, atI_2, bTuple, bList, opIsN, opNotN, tyN, isTy, String.reduceBEq, Bool.true_or, Bool.and_false, Bool.or_false, Bool.false_or, Bool.true_and, Bool.false_and, Bool.and_true, Bool.not_true, Bool.not_false, bIs, forL, stepS, Sl.va.injEq, decide_eq_true_eq]; rfl) ?_
  refine wp_ret (wp_tup (wp_cons (Wp.pureE rfl (wp_cons (wp_callW (wp_cons (Wp.pureE rfl (wp_cons (Wp.pureE (by simp only [sSeq, sSkip, sBreak, sCont, sSet, sDrop, sRet, sRetN, sIf, iteS, sPar, setAll, sAsg, Tg.bind, gotE, sNew, sApp, appL, ownD, sSeal, sealE, sVar, sC, sCons, sNil, sOp2, sOp1, sCall, sCb, sTup, mkT, sLst, mkL1, sLstF, capL, sTst, truD, sAnd, sOr, iteB, kB, sNot, sIfE, iteE, sAndV, andV, sOrV, orV, sNotV, notD, sIs, sFor, sWhile, iSeqS, itemsD, iRange, iZip, zipD, zip2D, iEnum, enumD, sComp, sVal, sCatF, catL, sListF, listL, sRef, sChain, chV, sSlice, sPart, sNoPart, intO, slD, sOwnIx, sOwnLen, sOwnPut, sTry, sPut, putD, pure_bindM, bad_bindM, exc_bindM, pureD, runD, startE, endD, fuelI, List.map_cons, List.map_nil, List.length_cons, List.length_nil, List.length_append, List.replicate, List.cons_append, List.nil_append, List.append_nil, List.set_cons_zero, List.set_cons_succ, List.getElem?_cons_zero, List.getElem?_cons_succ, wipeE, List.foldr, Nat.reduceAdd, Nat.reduceSub, Nat.reduceLeDiff, Nat.zero_add, Nat.add_zero, Nat.reduceLT, if_true, if_false, ite_true, ite_false, reduceIte, Bool.false_eq_true, eq_self, opNe_int, opEq_int, opLt, opLe, opGt, opGe, opCmp, opSub, opNeg, opAdd_int, ixD, atI_0, atI_1, atI_2, bTuple, bList, opIsN, opNotN, tyN, isTy, String.reduceBEq, Bool.true_or, Bool.and_false, Bool.or_false, Bool.false_or, Bool.true_and, Bool.false_and, Bool.and_true, Bool.not_true, Bool.not_false, bIs, forL, stepS, Sl.va.injEq, decide_eq_true_eq]; rfl) (wp_nil ?_))))))))))
  refine (wp_one hd (by omega) (by simp) (by simp)).mono fun d s' ⟨hd, h4⟩ => wp_nil ⟨by simp, ?_⟩
  refine ⟨_, _, rfl, ?_, h4.mono (by omega)⟩
  simp only [List.mem_append, List.cons_append, List.nil_append, List.mem_cons, List.not_mem_nil, or_false] at hd
  rcases hd with rfl | rfl | rfl | rfl | rfl | rfl | rfl | rfl | rfl <;> exact ⟨⟨_, [[_, _], [_, _]]⟩, rfl, ok2 (by decide) (by decide) (by omega), rfl⟩
theorem wp_even3 {st : Sto} {k n : Nat} (h : Deck k n st) (hn : n + 3 < 1000000) : Wp (m__law_even_step [.ref k, .int 3]) st fun d s' => (∃ T : Stp, d = eT T ∧ StpOk T ∧ T.rows.length = 3) ∧ Deck k (n + 3) s' := by
  unfold m__law_even_step
  refine wp_run ?_
  unfold F__law_even_step
  refine wp_seqK (wp_ifF rfl (Wp.pure ?_))
  refine wp_seqSet (wp_op2 ((wp_pickL h (by omega) 7 (by decide) (by decide) rfl).mono fun d s1 ⟨⟨j, e, hj⟩, hd⟩ => ?_))
  subst e
  refine Wp.pureE rfl (Wp.pureE (a := .int ((j : Int) - 3)) rfl ?_)
  obtain ⟨y, hy⟩ : ∃ y : Int, y = (j : Int) - 3 := ⟨_, rfl⟩
  rw [← hy]
  have hya : y.natAbs ≤ 3 := by omega
  refine wp_seqK (wp_ifF rfl (Wp.pure ?_))
  refine wp_seqSet (wp_op2 ((wp_pickL hd (by omega) 5 (by decide) (by decide) rfl).mono fun d s1 ⟨⟨j2, e, hj2⟩, hd⟩ => ?_))
  subst e
  refine Wp.pureE rfl (Wp.pureE (a := .int ((j2 : Int) - 2)) rfl ?_)
  obtain ⟨z, hz⟩ : ∃ z : Int, z = (j2 : Int) - 2 := ⟨_, rfl⟩
  rw [← hz]
  have hza : z.natAbs ≤ 3 := by omega
  refine wp_seqP (by simp only [startE, sSeq, sSkip, sBreak, sCont, sSet, sDrop, sRet, sRetN, sIf, iteS, sPar, setAll, sAsg, Tg.bind, gotE, sNew, sApp, appL, ownD, sSeal, sealE, sVar, sC, sCons, sNil, sOp2, sOp1, sCall, sCb, sTup, mkT, sLst, mkL1, sLstF, capL, sTst, truD, sAnd, sOr, iteB, kB, sNot, sIfE, iteE, sAndV, andV, sOrV, orV, sNotV, notD, sIs, sFor, sWhile, iSeqS, itemsD, iRange, iZip, zipD, zip2D, iEnum, enumD, sComp, sVal, sCatF, catL, sListF, listL, sRef, sChain, chV, sSlice, sPart, sNoPart, intO, slD, sOwnIx, sOwnLen, sOwnPut, sTry, sPut, putD, pure_bindM, bad_bindM, exc_bindM, pureD, runD, startE, endD, fuelI, List.map_cons, List.map_nil, List.length_cons, List.length_nil, List.length_append, List.replicate, List.cons_append, List.nil_append, List.append_nil, List.set_cons_zero, List.set_cons_succ, List.getElem?_cons_zero, List.getElem?_cons_succ, wipeE, List.foldr, Nat.reduceAdd, Nat.reduceSub, Nat.reduceLeDiff, Nat.zero_add, Nat.add_zero, Nat.reduceLT, if_true, if_false, ite_true, ite_false, reduceIte, Bool.false_eq_true, eq_self, opNe_int, opEq_int, opLt, opLe, opGt, opGe, opCmp, opSub, opNeg, opAdd_int, ixD, atI_0, atI_1, atI_2, bTuple, bList, opIsN, opNotN, tyN, isTy, String.reduceBEq, Bool.true_or, Bool.and_false, Bool.or_false, Bool.false_or, Bool.true_and, Bool.false_and, Bool.and_true, Bool.not_true, Bool.not_false, bIs, forL, stepS, Sl.va.injEq, decide_eq_true_eq]; rfl) ?_
  refine wp_seqP (by simp only [sSeq, sSkip, sBreak, sCont, sSet, sDrop, sRet, sRetN, sIf, iteS, sPar, setAll, sAsg, Tg.bind, gotE, sNew, sApp, appL, ownD, sSeal, sealE, sVar, sC, sCons, sNil, sOp2, sOp1, sCall, sCb, sTup, mkT, sLst, mkL1, sLstF, capL, sTst, truD, sAnd, sOr, iteB, kB, sNot, sIfE, iteE, sAndV, andV, sOrV, orV, sNotV, notD, sIs, sFor, sWhile, iSeqS, itemsD, iRange, iZip, zipD, zip2D, iEnum, enumD, sComp, sVal, sCatF, catL, sListF, listL, sRef, sChain, chV, sSlice, sPart, sNoPart, intO, slD, sOwnIx, sOwnLen, sOwnPut, sTry, sPut, putD, pure_bindM, bad_bindM, exc_bindM, pureD, runD, startE, endD, fuelI, List.map_cons, List.map_nil, List.length_cons, List.length_nil, List.length_append, List.replicate, List.cons_append, List.nil_append, List.append_nil, List.set_cons_zero, List.set_cons_succ, List.getElem?_cons_zero, List.getElem?_cons_succ, wipeE, List.foldr, Nat.reduceAdd, Nat.reduceSub, Nat.reduceLeDiff, Nat.zero_add, Nat.add_zero, Nat.reduceLT, if_true, if_false, ite_true, ite_false, reduceIte, Bool.false_eq_true, eq_self, opNe_int, opEq_int, opLt, opLe, opGt, opGe, opCmp, opSub, opNeg, opAdd_int, ixD, atI_0, atI_1, atI_2, bTuple, bList, opIsN, opNotN, tyN, isTy, String.reduceBEq, Bool.true_or, Bool.and_false, Bool.or_false, Bool.false_or, Bool.true_and, Bool.false_and, Bool.and_true, Bool.not_true, Bool.not_false, bIs, forL, stepS, Sl.va.injEq, decide_eq_true_eq]; rfl) ?_
  refine wp_seqP (by simp only [sSeq, sSkip, sBreak, sCont, sSet, sDrop, sRet, sRetN, sIf, iteS, sPar, setAll, sAsg, Tg.bind, gotE, sNew, sApp, appL, ownD, sSeal, sealE, sVar, sC, sCons, sNil, sOp2, sOp1, sCall, sCb, sTup, mkT, sLst, mkL1, sLstF, capL, sTst, truD, sAnd, sOr, iteB, kB, sNot, sIfE, iteE, sAndV, andV, sOrV, orV, sNotV, notD, sIs, sFor, sWhile, iSeqS, itemsD, iRange, iZip, zipD, zip2D, iEnum, enumD, sComp, sVal, sCatF, catL, sListF, listL, sRef, sChain, chV, sSlice, sPart, sNoPart, intO, slD, sOwnIx, sOwnLen, sOwnPut, sTry, sPut, putD, pure_bindM, bad_bindM, exc_bindM, pureD, runD, startE, endD, fuelI, List.map_cons, List.map_nil, List.length_cons, List.length_nil, List.length_append, List.replicate, List.cons_append, List.nil_append, List.append_nil, List.set_cons_zero, List.set_cons_succ, List.getElem?_cons_zero, List.getElem?_cons_succ, wipeE, List.foldr, Nat.reduceAdd, Nat.reduceSub, Nat.reduceLeDiff, Nat.zero_add, Nat.add_zero, Nat.reduceLT, if_true, if_false, ite_true, ite_false, reduceIte, Bool.false_eq_true, eq_self, opNe_int, opEq_int, opLt, opLe, opGt, opGe, opCmp, opSub, opNeg, opAdd_int, ixD, atI_0, atI_1, atI_2, bTuple, bList, opIsN, opNotN, tyN, isTy, String.reduceBEq, Bool.true_or, Bool.and_false, Bool.or_false, Bool.false_or, Bool.true_and, Bool.false_and, Bool.and_true, Bool.not_true, Bool.not_false, bIs, forL, stepS, Sl.va.injEq, decide_eq_true_eq]; rfl) ?_
  refine wp_ret (wp_tup (wp_cons (Wp.pureE rfl (wp_cons (wp_callW (wp_cons (Wp.pureE rfl (wp_cons (Wp.pureE (by simp only [sSeq, sSkip, sBreak, sCont, sSet, sDrop, sRet, sRetN, sIf, iteS, sPar, setAll, sAsg, Tg.bind, gotE, sNew, sApp, appL, ownD, sSeal, sealE, sVar, sC, sCons, sNil, sOp2, sOp1, sCall, sCb, sTup, mkT, sLst, mkL1, sLstF, capL, sTst, truD, sAnd, sOr, iteB, kB, sNot, sIfE, iteE, sAndV, andV, sOrV, orV, sNotV, notD, sIs, sFor, sWhile, iSeqS, itemsD, iRange, iZip, zipD, zip2D, iEnum, enumD, sComp, sVal, sCatF, catL, sListF, listL, sRef, sChain, chV, sSlice, sPart, sNoPart, intO, slD, sOwnIx, sOwnLen, sOwnPut, sTry, sPut, putD, pure_bindM, bad_bindM, exc_bindM, pureD, runD, startE, endD, fuelI, List.map_cons, List.map_nil, List.length_cons, List.length_nil, List.length_append, List.replicate, List.cons_append, List.nil_append, List.append_nil, List.set_cons_zero, List.set_cons_succ, List.getElem?_cons_zero, List.getElem?_cons_succ, wipeE, List.foldr, Nat.reduceAdd, Nat.reduceSub, Nat.reduceLeDiff, Nat.zero_add, Nat.add_zero, Nat.reduceLT, if_true, if_false, ite_true, ite_false, reduceIte, Bool.false_eq_true, eq_self, opNe_int, opEq_int, opLt, opLe, opGt, opGe, opCmp, opSub, opNeg, opAdd_int, ixD, atI_0, atI_1, atI_2, bTuple, bList, opIsN, opNotN, tyN, isTy, String.reduceBEq, Bool.true_or, Bool.and_false, Bool.or_false, Bool.false_or, Bool.true_and, Bool.false_and, Bool.and_true, Bool.not_true, Bool.not_false, bIs, forL, stepS, Sl.va.injEq, decide_eq_true_eq]; rfl) (wp_nil ?_))))))))))
  refine (wp_one hd (by omega) (by simp) (by simp)).mono fun d s' ⟨hd, h4⟩ => wp_nil ⟨by simp, ?_⟩
  refine ⟨_, _, rfl, ?_, h4.mono (by omega)⟩
  simp only [List.mem_append, List.cons_append, List.nil_append, List.mem_cons, List.not_mem_nil, or_false] at hd
  rcases hd with rfl | rfl | rfl | rfl | rfl | rfl | rfl <;> exact ⟨⟨_, [[_, _, _], [_, _, _], [_, _, _]]⟩, rfl, ok3 (by decide) (by decide) (by omega), rfl⟩
theorem wp_even {st : Sto} {k n size : Nat} (h : Deck k n st) (hn : n + 3 < 1000000) (h1 : 1 ≤ size) (h3 : size ≤ 3) : Wp (m__law_even_step [.ref k, .int size]) st fun d s' => (∃ T : Stp, d = eT T ∧ StpOk T ∧ T.rows.length = size) ∧ Deck k (n + 3) s' := by
  have : size = 1 ∨ size = 2 ∨ size = 3 := by omega
  rcases this with rfl | rfl | rfl
  · exact wp_even1 h hn
  · exact wp_even2 h hn
  · exact wp_even3 h hn
end Dt

set_option maxHeartbeats 4000000
namespace Dt
open PySem PySem.Spec PyProof.Rows L2
theorem wp_ifW {c : SB} {A B : SS} {env : Env} {st : Sto} {Q : Ctl × Env → Sto → Prop} (h : Wp (c env) st fun b s => Wp (iteS A B b env) s Q) : Wp (sIf c A B env) st Q := by
  unfold sIf
  exact Wp.bind h
theorem wp_tst {F : SE} {env : Env} {st : Sto} {Q : Bool → Sto → Prop} (h : Wp (F env) st fun d s => Wp (truD d) s Q) : Wp (sTst F env) st Q := by
  unfold sTst
  exact Wp.bind h
/-! ### a drawn plane -/
theorem wp_lead {st : Sto} {k n size : Nat} (h : Deck k n st) (hn : n + size < 1000000) {env : Env} (h0 : env[0]? = some (.va (.ref k))) (hl : 5 < env.length) : Wp (cmpT (.nm 5) [5] sYes E__law_a_plane_0 (rangeD 0 size) env) st fun d s' => (∃ r : List Int, d = .lst (r.map .int) ∧ r.length = size ∧ ∀ e ∈ r, e.natAbs ≤ 3) ∧ Deck k (n + size) s' := by
  have g0 : ∀ x, ((env.set 5 .no).set 5 x)[0]? = some (.va (.ref k)) := fun x => by
    rw [List.getElem?_set_ne (by decide), List.getElem?_set_ne (by decide)]
    exact h0
  have := wp_cmpT (t := .nm 5) (vs := [5]) (G := E__law_a_plane_0) (env := env) (fun i acc st => acc.length = i ∧ (∀ x ∈ acc, ∃ e : Int, x = .int e ∧ e.natAbs ≤ 3) ∧ Deck k (n + i) st) (ds := rangeD 0 size) (by rw [rangeD_len]; omega) (st := st) (fun d hd i acc st hi ⟨h1, h2, h3⟩ => ?_) ⟨rfl, fun x hx => absurd hx List.not_mem_nil, h⟩
  · refine this.mono fun d s' ⟨l, e, h1, h2, h3⟩ => ?_
    rw [rangeD_len] at h1 h3
    obtain ⟨r, rfl, h4⟩ := pull D.int (fun e => e.natAbs ≤ 3) h2
    exact ⟨⟨r, e, by simpa using h1, h4⟩, h3⟩
  · rw [rangeD_len] at hi
    refine ⟨_, rfl, ?_⟩
    refine wp_op2 (wp_call (ds := [.ref k, .int (7 : Nat)]) (by simp only [wipeE, List.foldr, sSeq, sSkip, sBreak, sCont, sSet, sDrop, sRet, sRetN, sIf, iteS, sPar, setAll, sAsg, Tg.bind, gotE, sNew, sApp, appL, ownD, sSeal, sealE, sVar, sC, sCons, sNil, sOp2, sOp1, sCall, sCb, sTup, mkT, sLst, mkL1, sLstF, capL, sTst, truD, sAnd, sOr, iteB, kB, sNot, sIfE, iteE, sAndV, andV, sOrV, orV, sNotV, notD, sIs, sFor, sWhile, iSeqS, itemsD, iRange, iZip, zipD, zip2D, iEnum, enumD, sComp, sVal, sCatF, catL, sListF, listL, sRef, sChain, chV, sSlice, sPart, sNoPart, intO, slD, sOwnIx, sOwnLen, sOwnPut, sTry, sPut, putD, pure_bindM, bad_bindM, exc_bindM, pureD, runD, startE, endD, fuelI, List.map_cons, List.map_nil, List.length_cons, List.length_nil, List.length_append, List.replicate, List.cons_append, List.nil_append, List.append_nil, List.set_cons_zero, List.set_cons_succ, List.getElem?_cons_zero, List.getElem?_cons_succ, wipeE, List.foldr, Nat.reduceAdd, Nat.reduceSub, Nat.reduceLeDiff, Nat.zero_add, Nat.add_zero, Nat.reduceLT, if_true, if_false, ite_true, ite_false, reduceIte, Bool.false_eq_true, eq_self, opNe_int, opEq_int, opLt, opLe, opGt, opGe, opCmp, opSub, opNeg, opAdd_int, ixD, atI_0, atI_1, atI_2, bTuple, bList, opIsN, opNotN, tyN, isTy, String.reduceBEq, Bool.true_or, Bool.and_false, Bool.or_false, Bool.false_or, Bool.true_and, Bool.false_and, Bool.and_true, Bool.not_true, Bool.not_false, bIs, forL, stepS, Sl.va.injEq, decide_eq_true_eq, g0]; rfl) ((wp_pick h3 (by omega) (size := 7) (by decide) (by decide)).mono fun d s' ⟨⟨j, e, hj⟩, hd⟩ => ?_))
    subst e
    exact Wp.pureE rfl (Wp.pureE (a := .int ((j : Int) - 3)) rfl ⟨by simp [h1], mem_snoc h2 ⟨_, rfl, by omega⟩, hd⟩)
theorem plane_loop {L B n A : Nat} (h0 : 0 < L) (hL : L < 2 ^ n) {v0 v1 v2 v3 v4 v5 v6 : Sl} : ∀ {r : List Int} {s : List Rat} {a : Rat}, Gd L A a → (∀ e ∈ r, e.natAbs ≤ 9) → (∀ q ∈ s, Gd L B q) → (A + r.length * (9 * B)) + 9 * B < 2 ^ n → n ≤ 1999 → forL (.tp [9, 10]) [9, 10] L__law_a_plane_0 (zipL (r.map .int) (s.map eQ)) [v0, v1, v2, v3, v4, v5, v6, .va (.int a.num), .va (.int a.den), .no, .no] = M.pure (.nx, [v0, v1, v2, v3, v4, v5, v6, .va (.int (dotQ a r s).num), .va (.int (dotQ a r s).den), .no, .no])
  | [], s, a, h, h1, h2, h3, l => by
    cases s <;> rfl
  | e :: r, [], a, h, h1, h2, h3, l => rfl
  | e :: r, q :: s, a, h, h1, h2, h3, l => by
    have g2 := h2 q (by simp)
    have g1 := h1 e (by simp)
    have g3 := g2.smul h0 g1
    simp only [List.length_cons, Nat.add_mul, Nat.one_mul] at h3
    have q1 : Qn (n + n) a := h.qn h0 hL (by omega)
    have q2 : Qn (n + n) q := g2.qn h0 hL (by omega)
    have s9 : Sm 4 e := by
      unfold Sm
      omega
    have ih := plane_loop (v0 := v0) (v1 := v1) (v2 := v2) (v3 := v3) (v4 := v4) (v5 := v5) (v6 := v6) (B := B) h0 hL (A := A + 9 * B) (r := r) (s := s) (Gd.add h0 h g3) (fun e he => h1 e (by simp [he])) (fun q hq => h2 q (by simp [hq])) (by omega) l
    have m1 := opMul_int q1.1 q2.2 (by omega)
    have m2 := opMul_int s9 q2.1 (by omega)
    have m3 := opMul_int (s9.mul q2.1) q1.2 (by omega)
    have m4 := opMul_int q1.2 q2.2 (by omega)
    have hd0 : (a.den : Int) * q.den ≠ 0 := Int.mul_ne_zero (den_ne a) (den_ne q)
    have ss : Sm (4 + (n + n) + (n + n) + 1) (a.num * q.den + e * q.num * a.den) := Sm.add ((q1.1.mul q2.2).mono (by omega)) ((s9.mul q2.1).mul q1.2)
    have lw := e__law_low (t := a.num * q.den + e * q.num * a.den) hd0 (q1.2.mul q2.2) (by omega) ss (by omega)
    have hsum : Rat.divInt (a.num * q.den + e * q.num * a.den) (a.den * q.den) = a + (e : Rat) * q := by
      rw [← e_int_q, ← Rat.divInt_add_divInt _ _ (den_ne a) (den_ne q), Rat.num_divInt_den]
    rw [hsum] at lw
    simp only [List.map_cons, zipL, forL, Tg.bind, sSeq, sSkip, sBreak, sCont, sSet, sDrop, sRet, sRetN, sIf, iteS, sPar, setAll, sAsg, Tg.bind, gotE, sNew, sApp, appL, ownD, sSeal, sealE, sVar, sC, sCons, sNil, sOp2, sOp1, sCall, sCb, sTup, mkT, sLst, mkL1, sLstF, capL, sTst, truD, sAnd, sOr, iteB, kB, sNot, sIfE, iteE, sAndV, andV, sOrV, orV, sNotV, notD, sIs, sFor, sWhile, iSeqS, itemsD, iRange, iZip, zipD, zip2D, iEnum, enumD, sComp, sVal, sCatF, catL, sListF, listL, sRef, sChain, chV, sSlice, sPart, sNoPart, intO, slD, sOwnIx, sOwnLen, sOwnPut, sTry, sPut, putD, pure_bindM, bad_bindM, exc_bindM, pureD, runD, startE, endD, fuelI, List.map_cons, List.map_nil, List.length_cons, List.length_nil, List.length_append, List.replicate, List.cons_append, List.nil_append, List.append_nil, List.set_cons_zero, List.set_cons_succ, List.getElem?_cons_zero, List.getElem?_cons_succ, wipeE, List.foldr, Nat.reduceAdd, Nat.reduceSub, Nat.reduceLeDiff, Nat.zero_add, Nat.add_zero, Nat.reduceLT, if_true, if_false, ite_true, ite_false, reduceIte, Bool.false_eq_true, eq_self, opNe_int, opEq_int, opLt, opLe, opGt, opGe, opCmp, opSub, opNeg, opAdd_int, ixD, atI_0, atI_1, atI_2, bTuple, bList, opIsN, opNotN, tyN, isTy, String.reduceBEq, Bool.true_or, Bool.and_false, Bool.or_false, Bool.false_or, Bool.true_and, Bool.false_and, Bool.and_true, Bool.not_true, Bool.not_false, bIs, forL, stepS, Sl.va.injEq, decide_eq_true_eq, L__law_a_plane_0]
    rw [show eQ q = .tup [.int q.num, .int q.den] from rfl]
    simp only [sSeq, sSkip, sBreak, sCont, sSet, sDrop, sRet, sRetN, sIf, iteS, sPar, setAll, sAsg, Tg.bind, gotE, sNew, sApp, appL, ownD, sSeal, sealE, sVar, sC, sCons, sNil, sOp2, sOp1, sCall, sCb, sTup, mkT, sLst, mkL1, sLstF, capL, sTst, truD, sAnd, sOr, iteB, kB, sNot, sIfE, iteE, sAndV, andV, sOrV, orV, sNotV, notD, sIs, sFor, sWhile, iSeqS, itemsD, iRange, iZip, zipD, zip2D, iEnum, enumD, sComp, sVal, sCatF, catL, sListF, listL, sRef, sChain, chV, sSlice, sPart, sNoPart, intO, slD, sOwnIx, sOwnLen, sOwnPut, sTry, sPut, putD, pure_bindM, bad_bindM, exc_bindM, pureD, runD, startE, endD, fuelI, List.map_cons, List.map_nil, List.length_cons, List.length_nil, List.length_append, List.replicate, List.cons_append, List.nil_append, List.append_nil, List.set_cons_zero, List.set_cons_succ, List.getElem?_cons_zero, List.getElem?_cons_succ, wipeE, List.foldr, Nat.reduceAdd, Nat.reduceSub, Nat.reduceLeDiff, Nat.zero_add, Nat.add_zero, Nat.reduceLT, if_true, if_false, ite_true, ite_false, reduceIte, Bool.false_eq_true, eq_self, opNe_int, opEq_int, opLt, opLe, opGt, opGe, opCmp, opSub, opNeg, opAdd_int, ixD, atI_0, atI_1, atI_2, bTuple, bList, opIsN, opNotN, tyN, isTy, String.reduceBEq, Bool.true_or, Bool.and_false, Bool.or_false, Bool.false_or, Bool.true_and, Bool.false_and, Bool.and_true, Bool.not_true, Bool.not_false, bIs, forL, stepS, Sl.va.injEq, decide_eq_true_eq, m1, m2, m3, m4, lw]
    rw [show eQ (a + (e : Rat) * q) = .tup [.int (a + (e : Rat) * q).num, .int (a + (e : Rat) * q).den] from rfl]
    simp only [sSeq, sSkip, sBreak, sCont, sSet, sDrop, sRet, sRetN, sIf, iteS, sPar, setAll, sAsg, Tg.bind, gotE, sNew, sApp, appL, ownD, sSeal, sealE, sVar, sC, sCons, sNil, sOp2, sOp1, sCall, sCb, sTup, mkT, sLst, mkL1, sLstF, capL, sTst, truD, sAnd, sOr, iteB, kB, sNot, sIfE, iteE, sAndV, andV, sOrV, orV, sNotV, notD, sIs, sFor, sWhile, iSeqS, itemsD, iRange, iZip, zipD, zip2D, iEnum, enumD, sComp, sVal, sCatF, catL, sListF, listL, sRef, sChain, chV, sSlice, sPart, sNoPart, intO, slD, sOwnIx, sOwnLen, sOwnPut, sTry, sPut, putD, pure_bindM, bad_bindM, exc_bindM, pureD, runD, startE, endD, fuelI, List.map_cons, List.map_nil, List.length_cons, List.length_nil, List.length_append, List.replicate, List.cons_append, List.nil_append, List.append_nil, List.set_cons_zero, List.set_cons_succ, List.getElem?_cons_zero, List.getElem?_cons_succ, wipeE, List.foldr, Nat.reduceAdd, Nat.reduceSub, Nat.reduceLeDiff, Nat.zero_add, Nat.add_zero, Nat.reduceLT, if_true, if_false, ite_true, ite_false, reduceIte, Bool.false_eq_true, eq_self, opNe_int, opEq_int, opLt, opLe, opGt, opGe, opCmp, opSub, opNeg, opAdd_int, ixD, atI_0, atI_1, atI_2, bTuple, bList, opIsN, opNotN, tyN, isTy, String.reduceBEq, Bool.true_or, Bool.and_false, Bool.or_false, Bool.false_or, Bool.true_and, Bool.false_and, Bool.and_true, Bool.not_true, Bool.not_false, bIs, forL, stepS, Sl.va.injEq, decide_eq_true_eq]
    exact ih
theorem pow_5 : opPow (.int 10) (.int 5) = M.pure (.int 100000) := rfl
theorem mul_0 {n : Nat} (h3 : n ≤ 3) (hn : 1 ≤ n) : opMul (.tup [.int 0]) (.int n) = M.pure (.tup ((List.replicate n (0 : Int)).map .int)) := by
  have : n = 1 ∨ n = 2 ∨ n = 3 := by omega
  rcases this with rfl | rfl | rfl <;> rfl
theorem plane_of {n : Nat} (h3 : n ≤ 3) {r : List Int} {t : Int} (hr : r.length = n) (he : ∀ e ∈ r, e.natAbs ≤ 1000000) (ht : t.natAbs ≤ 1000000) : PlOk n (r ++ [t]) := ⟨by simp [hr], h3, mem_snoc he ht⟩
theorem add_plane {r : List Int} {t : Int} (h : r.length ≤ 3) : opAdd (.tup (r.map .int)) (.tup [.int t]) = M.pure (eR (r ++ [t])) := by
  rw [opAdd_tup (by simp; omega)]
  unfold eR
  rw [List.map_append]
  rfl
theorem wp_plane {st : Sto} {k n : Nat} {T : Stp} (hT : StpOk T) {s : List Rat} (hs : s.length = T.rows.length) (hg : Good 10 s) (h : Deck k n st) (hn : n + 10 < 1000000) : Wp (m__law_a_plane [.ref k, eT T, eS s]) st fun d s' => (∃ p : List Int, d = eR p ∧ PlOk T.rows.length p) ∧ Deck k (n + 10) s' := by
  have h1 := hT.n1
  have h3 := hT.n3
  unfold m__law_a_plane
  refine wp_run ?_
  unfold F__law_a_plane
  rw [show startE 11 [.ref k, eT T, eS s] = [.va (.ref k), .va (eT T), .va (.tup (s.map eQ)), .no, .no, .no, .no, .no, .no, .no, .no] from rfl]
  refine wp_seqP (e2 := [.va (.ref k), .va (eT T), .va (.tup (s.map eQ)), .va (.int s.length), .no, .no, .no, .no, .no, .no, .no]) (by simp only [sSeq, sSkip, sBreak, sCont, sSet, sDrop, sRet, sRetN, sIf, iteS, sPar, setAll, sAsg, Tg.bind, gotE, sNew, sApp, appL, ownD, sSeal, sealE, sVar, sC, sCons, sNil, sOp2, sOp1, sCall, sCb, sTup, mkT, sLst, mkL1, sLstF, capL, sTst, truD, sAnd, sOr, iteB, kB, sNot, sIfE, iteE, sAndV, andV, sOrV, orV, sNotV, notD, sIs, sFor, sWhile, iSeqS, itemsD, iRange, iZip, zipD, zip2D, iEnum, enumD, sComp, sVal, sCatF, catL, sListF, listL, sRef, sChain, chV, sSlice, sPart, sNoPart, intO, slD, sOwnIx, sOwnLen, sOwnPut, sTry, sPut, putD, pure_bindM, bad_bindM, exc_bindM, pureD, runD, startE, endD, fuelI, List.map_cons, List.map_nil, List.length_cons, List.length_nil, List.length_append, List.replicate, List.cons_append, List.nil_append, List.append_nil, List.set_cons_zero, List.set_cons_succ, List.getElem?_cons_zero, List.getElem?_cons_succ, wipeE, List.foldr, Nat.reduceAdd, Nat.reduceSub, Nat.reduceLeDiff, Nat.zero_add, Nat.add_zero, Nat.reduceLT, if_true, if_false, ite_true, ite_false, reduceIte, Bool.false_eq_true, eq_self, opNe_int, opEq_int, opLt, opLe, opGt, opGe, opCmp, opSub, opNeg, opAdd_int, ixD, atI_0, atI_1, atI_2, bTuple, bList, opIsN, opNotN, tyN, isTy, String.reduceBEq, Bool.true_or, Bool.and_false, Bool.or_false, Bool.false_or, Bool.true_and, Bool.false_and, Bool.and_true, Bool.not_true, Bool.not_false, bIs, forL, stepS, Sl.va.injEq, decide_eq_true_eq, bLen, List.length_map]) ?_
  refine wp_seqSet (wp_cb (wp_cons (wp_comp (ds := rangeD 0 s.length) (by simp only [sSeq, sSkip, sBreak, sCont, sSet, sDrop, sRet, sRetN, sIf, iteS, sPar, setAll, sAsg, Tg.bind, gotE, sNew, sApp, appL, ownD, sSeal, sealE, sVar, sC, sCons, sNil, sOp2, sOp1, sCall, sCb, sTup, mkT, sLst, mkL1, sLstF, capL, sTst, truD, sAnd, sOr, iteB, kB, sNot, sIfE, iteE, sAndV, andV, sOrV, orV, sNotV, notD, sIs, sFor, sWhile, iSeqS, itemsD, iRange, iZip, zipD, zip2D, iEnum, enumD, sComp, sVal, sCatF, catL, sListF, listL, sRef, sChain, chV, sSlice, sPart, sNoPart, intO, slD, sOwnIx, sOwnLen, sOwnPut, sTry, sPut, putD, pure_bindM, bad_bindM, exc_bindM, pureD, runD, startE, endD, fuelI, List.map_cons, List.map_nil, List.length_cons, List.length_nil, List.length_append, List.replicate, List.cons_append, List.nil_append, List.append_nil, List.set_cons_zero, List.set_cons_succ, List.getElem?_cons_zero, List.getElem?_cons_succ, wipeE, List.foldr, Nat.reduceAdd, Nat.reduceSub, Nat.reduceLeDiff, Nat.zero_add, Nat.add_zero, Nat.reduceLT, if_true, if_false, ite_true, ite_false, reduceIte, Bool.false_eq_true, eq_self, opNe_int, opEq_int, opLt, opLe, opGt, opGe, opCmp, opSub, opNeg, opAdd_int, ixD, atI_0, atI_1, atI_2, bTuple, bList, opIsN, opNotN, tyN, isTy, String.reduceBEq, Bool.true_or, Bool.and_false, Bool.or_false, Bool.false_or, Bool.true_and, Bool.false_and, Bool.and_true, Bool.not_true, Bool.not_false, bIs, forL, stepS, Sl.va.injEq, decide_eq_true_eq, range_nat (by omega : s.length < 1000000000)]) ((wp_lead h (by omega) rfl (by simp)).mono fun d s1 ⟨⟨r, e, hr, hre⟩, hd⟩ => wp_nil (Wp.pureE (a := .tup (r.map .int)) (by rw [e]; rfl) ?_)))))
  subst e
  rw [show ([Sl.va (.ref k), .va (eT T), .va (.tup (s.map eQ)), .va (.int s.length), .no, .no, .no, .no, .no, .no, .no] : Env).set 4 (.va (.tup (r.map .int))) = [.va (.ref k), .va (eT T), .va (.tup (s.map eQ)), .va (.int s.length), .va (.tup (r.map .int)), .no, .no, .no, .no, .no, .no] from rfl]
  refine wp_seqK (wp_ifW (wp_tst (wp_op2 (wp_call (ds := [.ref k, .int (4 : Nat)]) rfl ((wp_pick hd (by omega) (size := 4) (by decide) (by decide)).mono fun d s2 ⟨⟨j, e, hj⟩, hd2⟩ => ?_)))))
  subst e
  refine Wp.pureE rfl (Wp.pureE (opEq_int _ _) (Wp.pureE rfl ?_))
  have hre' : ∀ e ∈ r, e.natAbs ≤ 1000000 := fun e he => by have := hre e he; omega
  cases hb : ((j : Int) == 0) with
  | true =>
    refine wp_ret (wp_op2 (Wp.pureE (a := .tup ((List.replicate s.length (0 : Int)).map .int)) (by simp only [sSeq, sSkip, sBreak, sCont, sSet, sDrop, sRet, sRetN, sIf, iteS, sPar, setAll, sAsg, Tg.bind, gotE, sNew, sApp, appL, ownD, sSeal, sealE, sVar, sC, sCons, sNil, sOp2, sOp1, sCall, sCb, sTup, mkT, sLst, mkL1, sLstF, capL, sTst, truD, sAnd, sOr, iteB, kB, sNot, sIfE, iteE, sAndV, andV, sOrV, orV, sNotV, notD, sIs, sFor, sWhile, iSeqS, itemsD, iRange, iZip, zipD, zip2D, iEnum, enumD, sComp, sVal, sCatF, catL, sListF, listL, sRef, sChain, chV, sSlice, sPart, sNoPart, intO, slD, sOwnIx, sOwnLen, sOwnPut, sTry, sPut, putD, pure_bindM, bad_bindM, exc_bindM, pureD, runD, startE, endD, fuelI, List.map_cons, List.map_nil, List.length_cons, List.length_nil, List.length_append, List.replicate, List.cons_append, List.nil_append, List.append_nil, List.set_cons_zero, List.set_cons_succ, List.getElem?_cons_zero, List.getElem?_cons_succ, wipeE, List.foldr, Nat.reduceAdd, Nat.reduceSub, Nat.reduceLeDiff, Nat.zero_add, Nat.add_zero, Nat.reduceLT, if_true, if_false, ite_true, ite_false, reduceIte, Bool.false_eq_true, eq_self, opNe_int, opEq_int, opLt, opLe, opGt, opGe, opCmp, opSub, opNeg, opAdd_int, ixD, atI_0, atI_1, atI_2, bTuple, bList, opIsN, opNotN, tyN, isTy, String.reduceBEq, Bool.true_or, Bool.and_false, Bool.or_false, Bool.false_or, Bool.true_and, Bool.false_and, Bool.and_true, Bool.not_true, Bool.not_false, bIs, forL, stepS, Sl.va.injEq, decide_eq_true_eq, mul_0 (by omega : s.length ≤ 3) (by omega)]) (wp_tup (wp_cons (wp_call (ds := [.ref k, .int (2 : Nat)]) rfl ((wp_pick hd2 (by omega) (size := 2) (by decide) (by decide)).mono fun d s3 ⟨⟨j2, e, hj2⟩, hd3⟩ => wp_nil ⟨by simp, ?_⟩))))))
    subst e
    exact Wp.pureE (add_plane (by simp; omega)) ⟨_, _, rfl, ⟨_, rfl, plane_of h3 (by simp [hs]) (fun e he => by rw [List.eq_of_mem_replicate he]; decide) (by omega)⟩, hd3.mono (by omega)⟩
  | false =>
    refine Wp.pure ?_
    refine wp_seqSet (wp_callW (wp_cons (Wp.pureE rfl (wp_cons (Wp.pureE rfl (wp_cons (wp_call (ds := [.ref k, .int (6 : Nat)]) rfl ((wp_pick hd2 (by omega) (size := 6) (by decide) (by decide)).mono fun d s3 ⟨⟨j2, e, hj2⟩, hd3⟩ => wp_nil ?_))))))))
    subst e
    refine Wp.pureE (e__law_after (k := j2) hT hg (by omega)) ?_
    have hg2 := Good.after hT (k := j2) hg
    obtain ⟨L, B, h0, hL, hB, hq⟩ := hg2
    have hpw : 2 ^ (10 + 6 * j2) * 64 = 2 ^ (10 + 6 * j2 + 6) := by rw [Nat.pow_add _ _ 6]
    have hpos : 1 ≤ 2 ^ (10 + 6 * j2) := Nat.one_le_two_pow
    have hlm : r.length * (9 * B) ≤ 3 * (9 * B) := Nat.mul_le_mul_right _ (by omega)
    have lo := plane_loop (L := L) (B := B) (n := 10 + 6 * j2 + 6) h0 (by omega) (v0 := .va (.ref k)) (v1 := .va (eT T)) (v2 := .va (.tup (s.map eQ))) (v3 := .va (.int s.length)) (v4 := .va (.tup (r.map .int))) (v5 := .no) (v6 := .va (.tup ((afterQ T s j2).map eQ))) (r := r) (s := afterQ T s j2) (A := 0) (a := 0) (gd_0 (L := L)) (fun e he => by have := hre e he; omega) hq (by omega) (by omega)
    have gd := dot_gd h0 (m := 9) (r := r) (s := afterQ T s j2) (a := 0) (gd_0 (L := L)) (fun e he => by have := hre e he; omega) hq
    have qd : Qn ((10 + 6 * j2 + 6) + (10 + 6 * j2 + 6)) (dotQ 0 r (afterQ T s j2)) := gd.qn h0 (by omega) (by omega)
    rw [show (0 : Rat).num = 0 from rfl, show ((0 : Rat).den : Int) = 1 from rfl] at lo
    obtain ⟨q, hq0⟩ : ∃ q, q = dotQ 0 r (afterQ T s j2) := ⟨_, rfl⟩
    rw [← hq0] at lo qd
    rw [show ([Sl.va (.ref k), .va (eT T), .va (.tup (s.map eQ)), .va (.int s.length), .va (.tup (r.map .int)), .no, .no, .no, .no, .no, .no] : Env).set 6 (.va (eS (afterQ T s j2))) = [.va (.ref k), .va (eT T), .va (.tup (s.map eQ)), .va (.int s.length), .va (.tup (r.map .int)), .no, .va (.tup ((afterQ T s j2).map eQ)), .no, .no, .no, .no] from rfl]
    refine wp_seqP (by simp only [sSeq, sSkip, sBreak, sCont, sSet, sDrop, sRet, sRetN, sIf, iteS, sPar, setAll, sAsg, Tg.bind, gotE, sNew, sApp, appL, ownD, sSeal, sealE, sVar, sC, sCons, sNil, sOp2, sOp1, sCall, sCb, sTup, mkT, sLst, mkL1, sLstF, capL, sTst, truD, sAnd, sOr, iteB, kB, sNot, sIfE, iteE, sAndV, andV, sOrV, orV, sNotV, notD, sIs, sFor, sWhile, iSeqS, itemsD, iRange, iZip, zipD, zip2D, iEnum, enumD, sComp, sVal, sCatF, catL, sListF, listL, sRef, sChain, chV, sSlice, sPart, sNoPart, intO, slD, sOwnIx, sOwnLen, sOwnPut, sTry, sPut, putD, pure_bindM, bad_bindM, exc_bindM, pureD, runD, startE, endD, fuelI, List.map_cons, List.map_nil, List.length_cons, List.length_nil, List.length_append, List.replicate, List.cons_append, List.nil_append, List.append_nil, List.set_cons_zero, List.set_cons_succ, List.getElem?_cons_zero, List.getElem?_cons_succ, wipeE, List.foldr, Nat.reduceAdd, Nat.reduceSub, Nat.reduceLeDiff, Nat.zero_add, Nat.add_zero, Nat.reduceLT, if_true, if_false, ite_true, ite_false, reduceIte, Bool.false_eq_true, eq_self, opNe_int, opEq_int, opLt, opLe, opGt, opGe, opCmp, opSub, opNeg, opAdd_int, ixD, atI_0, atI_1, atI_2, bTuple, bList, opIsN, opNotN, tyN, isTy, String.reduceBEq, Bool.true_or, Bool.and_false, Bool.or_false, Bool.false_or, Bool.true_and, Bool.false_and, Bool.and_true, Bool.not_true, Bool.not_false, bIs, forL, stepS, Sl.va.injEq, decide_eq_true_eq]; rfl) ?_
    refine wp_seqP (by simp only [sSeq, sSkip, sBreak, sCont, sSet, sDrop, sRet, sRetN, sIf, iteS, sPar, setAll, sAsg, Tg.bind, gotE, sNew, sApp, appL, ownD, sSeal, sealE, sVar, sC, sCons, sNil, sOp2, sOp1, sCall, sCb, sTup, mkT, sLst, mkL1, sLstF, capL, sTst, truD, sAnd, sOr, iteB, kB, sNot, sIfE, iteE, sAndV, andV, sOrV, orV, sNotV, notD, sIs, sFor, sWhile, iSeqS, itemsD, iRange, iZip, zipD, zip2D, iEnum, enumD, sComp, sVal, sCatF, catL, sListF, listL, sRef, sChain, chV, sSlice, sPart, sNoPart, intO, slD, sOwnIx, sOwnLen, sOwnPut, sTry, sPut, putD, pure_bindM, bad_bindM, exc_bindM, pureD, runD, startE, endD, fuelI, List.map_cons, List.map_nil, List.length_cons, List.length_nil, List.length_append, List.replicate, List.cons_append, List.nil_append, List.append_nil, List.set_cons_zero, List.set_cons_succ, List.getElem?_cons_zero, List.getElem?_cons_succ, wipeE, List.foldr, Nat.reduceAdd, Nat.reduceSub, Nat.reduceLeDiff, Nat.zero_add, Nat.add_zero, Nat.reduceLT, if_true, if_false, ite_true, ite_false, reduceIte, Bool.false_eq_true, eq_self, opNe_int, opEq_int, opLt, opLe, opGt, opGe, opCmp, opSub, opNeg, opAdd_int, ixD, atI_0, atI_1, atI_2, bTuple, bList, opIsN, opNotN, tyN, isTy, String.reduceBEq, Bool.true_or, Bool.and_false, Bool.or_false, Bool.false_or, Bool.true_and, Bool.false_and, Bool.and_true, Bool.not_true, Bool.not_false, bIs, forL, stepS, Sl.va.injEq, decide_eq_true_eq, lo]; rfl) ?_
    have p6 : opPow (.int 10) (.int 6) = M.pure (.int 1000000) := rfl
    by_cases c1 : (1000000 : Int) < (q.num.natAbs : Int)
    · refine wp_seqK (wp_ifT (by simp only [sSeq, sSkip, sBreak, sCont, sSet, sDrop, sRet, sRetN, sIf, iteS, sPar, setAll, sAsg, Tg.bind, gotE, sNew, sApp, appL, ownD, sSeal, sealE, sVar, sC, sCons, sNil, sOp2, sOp1, sCall, sCb, sTup, mkT, sLst, mkL1, sLstF, capL, sTst, truD, sAnd, sOr, iteB, kB, sNot, sIfE, iteE, sAndV, andV, sOrV, orV, sNotV, notD, sIs, sFor, sWhile, iSeqS, itemsD, iRange, iZip, zipD, zip2D, iEnum, enumD, sComp, sVal, sCatF, catL, sListF, listL, sRef, sChain, chV, sSlice, sPart, sNoPart, intO, slD, sOwnIx, sOwnLen, sOwnPut, sTry, sPut, putD, pure_bindM, bad_bindM, exc_bindM, pureD, runD, startE, endD, fuelI, List.map_cons, List.map_nil, List.length_cons, List.length_nil, List.length_append, List.replicate, List.cons_append, List.nil_append, List.append_nil, List.set_cons_zero, List.set_cons_succ, List.getElem?_cons_zero, List.getElem?_cons_succ, wipeE, List.foldr, Nat.reduceAdd, Nat.reduceSub, Nat.reduceLeDiff, Nat.zero_add, Nat.add_zero, Nat.reduceLT, if_true, if_false, ite_true, ite_false, reduceIte, Bool.false_eq_true, eq_self, opNe_int, opEq_int, opLt, opLe, opGt, opGe, opCmp, opSub, opNeg, opAdd_int, ixD, atI_0, atI_1, atI_2, bTuple, bList, opIsN, opNotN, tyN, isTy, String.reduceBEq, Bool.true_or, Bool.and_false, Bool.or_false, Bool.false_or, Bool.true_and, Bool.false_and, Bool.and_true, Bool.not_true, Bool.not_false, bIs, forL, stepS, Sl.va.injEq, decide_eq_true_eq, bAbs_int, p6, c1, decide_true]) (wp_ret (Wp.pureE (by simp only [sSeq, sSkip, sBreak, sCont, sSet, sDrop, sRet, sRetN, sIf, iteS, sPar, setAll, sAsg, Tg.bind, gotE, sNew, sApp, appL, ownD, sSeal, sealE, sVar, sC, sCons, sNil, sOp2, sOp1, sCall, sCb, sTup, mkT, sLst, mkL1, sLstF, capL, sTst, truD, sAnd, sOr, iteB, kB, sNot, sIfE, iteE, sAndV, andV, sOrV, orV, sNotV, notD, sIs, sFor, sWhile, iSeqS, itemsD, iRange, iZip, zipD, zip2D, iEnum, enumD, sComp, sVal, sCatF, catL, sListF, listL, sRef, sChain, chV, sSlice, sPart, sNoPart, intO, slD, sOwnIx, sOwnLen, sOwnPut, sTry, sPut, putD, pure_bindM, bad_bindM, exc_bindM, pureD, runD, startE, endD, fuelI, List.map_cons, List.map_nil, List.length_cons, List.length_nil, List.length_append, List.replicate, List.cons_append, List.nil_append, List.append_nil, List.set_cons_zero, List.set_cons_succ, List.getElem?_cons_zero, List.getElem?_cons_succ, wipeE, List.foldr, Nat.reduceAdd, Nat.reduceSub, Nat.reduceLeDiff, Nat.zero_add, Nat.add_zero, Nat.reduceLT, if_true, if_false, ite_true, ite_false, reduceIte, Bool.false_eq_true, eq_self, opNe_int, opEq_int, opLt, opLe, opGt, opGe, opCmp, opSub, opNeg, opAdd_int, ixD, atI_0, atI_1, atI_2, bTuple, bList, opIsN, opNotN, tyN, isTy, String.reduceBEq, Bool.true_or, Bool.and_false, Bool.or_false, Bool.false_or, Bool.true_and, Bool.false_and, Bool.and_true, Bool.not_true, Bool.not_false, bIs, forL, stepS, Sl.va.injEq, decide_eq_true_eq, add_plane (by omega : r.length ≤ 3)]; rfl) ?_)))
      exact ⟨_, _, rfl, ⟨_, rfl, plane_of h3 (by omega) hre' (by decide)⟩, hd3.mono (by omega)⟩
    · by_cases c2 : (100000 : Int) < (q.den : Int)
      · refine wp_seqK (wp_ifT (by simp only [sSeq, sSkip, sBreak, sCont, sSet, sDrop, sRet, sRetN, sIf, iteS, sPar, setAll, sAsg, Tg.bind, gotE, sNew, sApp, appL, ownD, sSeal, sealE, sVar, sC, sCons, sNil, sOp2, sOp1, sCall, sCb, sTup, mkT, sLst, mkL1, sLstF, capL, sTst, truD, sAnd, sOr, iteB, kB, sNot, sIfE, iteE, sAndV, andV, sOrV, orV, sNotV, notD, sIs, sFor, sWhile, iSeqS, itemsD, iRange, iZip, zipD, zip2D, iEnum, enumD, sComp, sVal, sCatF, catL, sListF, listL, sRef, sChain, chV, sSlice, sPart, sNoPart, intO, slD, sOwnIx, sOwnLen, sOwnPut, sTry, sPut, putD, pure_bindM, bad_bindM, exc_bindM, pureD, runD, startE, endD, fuelI, List.map_cons, List.map_nil, List.length_cons, List.length_nil, List.length_append, List.replicate, List.cons_append, List.nil_append, List.append_nil, List.set_cons_zero, List.set_cons_succ, List.getElem?_cons_zero, List.getElem?_cons_succ, wipeE, List.foldr, Nat.reduceAdd, Nat.reduceSub, Nat.reduceLeDiff, Nat.zero_add, Nat.add_zero, Nat.reduceLT, if_true, if_false, ite_true, ite_false, reduceIte, Bool.false_eq_true, eq_self, opNe_int, opEq_int, opLt, opLe, opGt, opGe, opCmp, opSub, opNeg, opAdd_int, ixD, atI_0, atI_1, atI_2, bTuple, bList, opIsN, opNotN, tyN, isTy, String.reduceBEq, Bool.true_or, Bool.and_false, Bool.or_false, Bool.false_or, Bool.true_and, Bool.false_and, Bool.and_true, Bool.not_true, Bool.not_false, bIs, forL, stepS, Sl.va.injEq, decide_eq_true_eq, bAbs_int, p6, pow_5, c1, c2, decide_true, decide_false]) (wp_ret (Wp.pureE (by simp only [sSeq, sSkip, sBreak, sCont, sSet, sDrop, sRet, sRetN, sIf, iteS, sPar, setAll, sAsg, Tg.bind, gotE, sNew, sApp, appL, ownD, sSeal, sealE, sVar, sC, sCons, sNil, sOp2, sOp1, sCall, sCb, sTup, mkT, sLst, mkL1, sLstF, capL, sTst, truD, sAnd, sOr, iteB, kB, sNot, sIfE, iteE, sAndV, andV, sOrV, orV, sNotV, notD, sIs, sFor, sWhile, iSeqS, itemsD, iRange, iZip, zipD, zip2D, iEnum, enumD, sComp, sVal, sCatF, catL, sListF, listL, sRef, sChain, chV, sSlice, sPart, sNoPart, intO, slD, sOwnIx, sOwnLen, sOwnPut, sTry, sPut, putD, pure_bindM, bad_bindM, exc_bindM, pureD, runD, startE, endD, fuelI, List.map_cons, List.map_nil, List.length_cons, List.length_nil, List.length_append, List.replicate, List.cons_append, List.nil_append, List.append_nil, List.set_cons_zero, List.set_cons_succ, List.getElem?_cons_zero, List.getElem?_cons_succ, wipeE, List.foldr, Nat.reduceAdd, Nat.reduceSub, Nat.reduceLeDiff, Nat.zero_add, Nat.add_zero, Nat.reduceLT, if_true, if_false, ite_true, ite_false, reduceIte, Bool.false_eq_true, eq_self, opNe_int, opEq_int, opLt, opLe, opGt, opGe, opCmp, opSub, opNeg, opAdd_int, ixD, atI_0, atI_1, atI_2, bTuple, bList, opIsN, opNotN, tyN, isTy, String.reduceBEq, Bool.true_or, Bool.and_false, Bool.or_false, Bool.false_or, Bool.true_and, Bool.false_and, Bool.and_true, Bool.not_true, Bool.not_false, bIs, forL, stepS, Sl.va.injEq, decide_eq_true_eq, add_plane (by omega : r.length ≤ 3)]; rfl) ?_)))
        exact ⟨_, _, rfl, ⟨_, rfl, plane_of h3 (by omega) hre' (by decide)⟩, hd3.mono (by omega)⟩
      · refine wp_seqK (wp_ifF (by simp only [sSeq, sSkip, sBreak, sCont, sSet, sDrop, sRet, sRetN, sIf, iteS, sPar, setAll, sAsg, Tg.bind, gotE, sNew, sApp, appL, ownD, sSeal, sealE, sVar, sC, sCons, sNil, sOp2, sOp1, sCall, sCb, sTup, mkT, sLst, mkL1, sLstF, capL, sTst, truD, sAnd, sOr, iteB, kB, sNot, sIfE, iteE, sAndV, andV, sOrV, orV, sNotV, notD, sIs, sFor, sWhile, iSeqS, itemsD, iRange, iZip, zipD, zip2D, iEnum, enumD, sComp, sVal, sCatF, catL, sListF, listL, sRef, sChain, chV, sSlice, sPart, sNoPart, intO, slD, sOwnIx, sOwnLen, sOwnPut, sTry, sPut, putD, pure_bindM, bad_bindM, exc_bindM, pureD, runD, startE, endD, fuelI, List.map_cons, List.map_nil, List.length_cons, List.length_nil, List.length_append, List.replicate, List.cons_append, List.nil_append, List.append_nil, List.set_cons_zero, List.set_cons_succ, List.getElem?_cons_zero, List.getElem?_cons_succ, wipeE, List.foldr, Nat.reduceAdd, Nat.reduceSub, Nat.reduceLeDiff, Nat.zero_add, Nat.add_zero, Nat.reduceLT, if_true, if_false, ite_true, ite_false, reduceIte, Bool.false_eq_true, eq_self, opNe_int, opEq_int, opLt, opLe, opGt, opGe, opCmp, opSub, opNeg, opAdd_int, ixD, atI_0, atI_1, atI_2, bTuple, bList, opIsN, opNotN, tyN, isTy, String.reduceBEq, Bool.true_or, Bool.and_false, Bool.or_false, Bool.false_or, Bool.true_and, Bool.false_and, Bool.and_true, Bool.not_true, Bool.not_false, bIs, forL, stepS, Sl.va.injEq, decide_eq_true_eq, bAbs_int, p6, pow_5, c1, c2, decide_true, decide_false]) (Wp.pure ?_))
        have hm : ∀ e ∈ r, opMul (.int e) (.int (q.den : Int)) = M.pure (.int (e * q.den)) := fun e he => opMul_int (n := 4) (by have := hre e he; unfold Sm; omega) qd.2 (by omega)
        have cm := cmpT_mapF (t := .nm 9) (vs := [9]) (G := E__law_a_plane_1) (env := [.va (.ref k), .va (eT T), .va (.tup (s.map eQ)), .va (.int s.length), .va (.tup (r.map .int)), .no, .va (.tup ((afterQ T s j2).map eQ)), .va (.int q.num), .va (.int q.den), .no, .no]) (fun e : Int => D.int e) (fun e => D.int (e * q.den)) (ds := r) (by omega) (fun e he => ⟨_, rfl, by simp only [E__law_a_plane_1, sSeq, sSkip, sBreak, sCont, sSet, sDrop, sRet, sRetN, sIf, iteS, sPar, setAll, sAsg, Tg.bind, gotE, sNew, sApp, appL, ownD, sSeal, sealE, sVar, sC, sCons, sNil, sOp2, sOp1, sCall, sCb, sTup, mkT, sLst, mkL1, sLstF, capL, sTst, truD, sAnd, sOr, iteB, kB, sNot, sIfE, iteE, sAndV, andV, sOrV, orV, sNotV, notD, sIs, sFor, sWhile, iSeqS, itemsD, iRange, iZip, zipD, zip2D, iEnum, enumD, sComp, sVal, sCatF, catL, sListF, listL, sRef, sChain, chV, sSlice, sPart, sNoPart, intO, slD, sOwnIx, sOwnLen, sOwnPut, sTry, sPut, putD, pure_bindM, bad_bindM, exc_bindM, pureD, runD, startE, endD, fuelI, List.map_cons, List.map_nil, List.length_cons, List.length_nil, List.length_append, List.replicate, List.cons_append, List.nil_append, List.append_nil, List.set_cons_zero, List.set_cons_succ, List.getElem?_cons_zero, List.getElem?_cons_succ, wipeE, List.foldr, Nat.reduceAdd, Nat.reduceSub, Nat.reduceLeDiff, Nat.zero_add, Nat.add_zero, Nat.reduceLT, if_true, if_false, ite_true, ite_false, reduceIte, Bool.false_eq_true, eq_self, opNe_int, opEq_int, opLt, opLe, opGt, opGe, opCmp, opSub, opNeg, opAdd_int, ixD, atI_0, atI_1, atI_2, bTuple, bList, opIsN, opNotN, tyN, isTy, String.reduceBEq, Bool.true_or, Bool.and_false, Bool.or_false, Bool.false_or, Bool.true_and, Bool.false_and, Bool.and_true, Bool.not_true, Bool.not_false, bIs, forL, stepS, Sl.va.injEq, decide_eq_true_eq, hm e he]⟩)
        have ad := add_plane (r := r.map fun e => e * (q.den : Int)) (t := q.num) (by simp; omega)
        rw [List.map_map] at ad
        refine wp_ret (Wp.pureE (by simp only [sSeq, sSkip, sBreak, sCont, sSet, sDrop, sRet, sRetN, sIf, iteS, sPar, setAll, sAsg, Tg.bind, gotE, sNew, sApp, appL, ownD, sSeal, sealE, sVar, sC, sCons, sNil, sOp2, sOp1, sCall, sCb, sTup, mkT, sLst, mkL1, sLstF, capL, sTst, truD, sAnd, sOr, iteB, kB, sNot, sIfE, iteE, sAndV, andV, sOrV, orV, sNotV, notD, sIs, sFor, sWhile, iSeqS, itemsD, iRange, iZip, zipD, zip2D, iEnum, enumD, sComp, sVal, sCatF, catL, sListF, listL, sRef, sChain, chV, sSlice, sPart, sNoPart, intO, slD, sOwnIx, sOwnLen, sOwnPut, sTry, sPut, putD, pure_bindM, bad_bindM, exc_bindM, pureD, runD, startE, endD, fuelI, List.map_cons, List.map_nil, List.length_cons, List.length_nil, List.length_append, List.replicate, List.cons_append, List.nil_append, List.append_nil, List.set_cons_zero, List.set_cons_succ, List.getElem?_cons_zero, List.getElem?_cons_succ, wipeE, List.foldr, Nat.reduceAdd, Nat.reduceSub, Nat.reduceLeDiff, Nat.zero_add, Nat.add_zero, Nat.reduceLT, if_true, if_false, ite_true, ite_false, reduceIte, Bool.false_eq_true, eq_self, opNe_int, opEq_int, opLt, opLe, opGt, opGe, opCmp, opSub, opNeg, opAdd_int, ixD, atI_0, atI_1, atI_2, bTuple, bList, opIsN, opNotN, tyN, isTy, String.reduceBEq, Bool.true_or, Bool.and_false, Bool.or_false, Bool.false_or, Bool.true_and, Bool.false_and, Bool.and_true, Bool.not_true, Bool.not_false, bIs, forL, stepS, Sl.va.injEq, decide_eq_true_eq, cm]; exact ad) ?_)
        exact ⟨_, _, rfl, ⟨_, rfl, plane_of h3 (by simp; omega) (fun e he => by
          obtain ⟨x, hx, rfl⟩ := List.mem_map.mp he
          have h4 := hre x hx
          have h5 : x.natAbs * q.den ≤ 3 * q.den := Nat.mul_le_mul_right _ h4
          rw [Int.natAbs_mul, Int.natAbs_natCast]
          omega) (by omega)⟩, hd3.mono (by omega)⟩
end Dt

set_option maxHeartbeats 4000000
namespace Dt
open PySem PySem.Spec PyProof.Rows L2
def e7 (v0 v1 v2 v3 v4 v5 v6 v7 v8 v9 v10 v11 v12 v13 v14 : Sl) : Env := [v0, v1, v2, v3, v4, v5, v6, v7, v8, v9, v10, v11, v12, v13, v14, .no, .no, .no, .no, .no, .no, .no, .no, .no, .no, .no]
theorem due7 {T : Stp} (h : StpOk T) {p : List Int} (hp : PlOk T.rows.length p) {s : List Rat} (hs : s.length = T.rows.length) {v0 v1 v2 v3 v4 v6 v8 v12 v13 v14 : Sl} : ∀ (n k : Nat) (acc : List D) {g : Nat}, Good g (afterQ T s k) → g + 6 * n ≤ 1900 → acc.length + n ≤ 1000000 → forL (.nm 11) [11] L_law_k07_0 (natsD (List.range' k n)) (e7 v0 v1 v2 v3 v4 (.va (eT T)) v6 (.va (eR p)) v8 (.ow acc) (.va (eS (afterQ T s k))) .no v12 v13 v14) = M.pure (.nx, e7 v0 v1 v2 v3 v4 (.va (eT T)) v6 (.va (eR p)) v8 (.ow (acc ++ natsD (onL T s p k n))) (.va (eS (afterQ T s (k + n)))) .no v12 v13 v14)
  | 0, k, acc, g, hg, l, ha => by
    show M.pure _ = M.pure _
    simp [onL, natsD]
  | n + 1, k, acc, g, hg, l, ha => by
    have e1 := e__law_is_on hp (by rw [afterQ_len k s hs]; exact h.n3) hg (by omega)
    have e2 := e__law_next h hg (by omega)
    have hg' := Good.next h hg
    rw [← afterQ_succ] at hg' e2
    have hal : acc.length < 1000000 := by omega
    rw [onL_cons, show natsD (List.range' k (n + 1)) = .int k :: natsD (List.range' (k + 1) n) by simp [natsD, List.range'_succ]]
    cases ho : onQ p (afterQ T s k) with
    | true =>
      rw [ho] at e1
      have ih := due7 h hp hs (v0 := v0) (v1 := v1) (v2 := v2) (v3 := v3) (v4 := v4) (v6 := v6) (v8 := v8) (v12 := v12) (v13 := v13) (v14 := v14) n (k + 1) (acc ++ [.int k]) hg' (by omega) (by simp; omega)
      simp only [e7] at ih
      simp only [forL, Tg.bind, e7, sSeq, sSkip, sBreak, sCont, sSet, sDrop, sRet, sRetN, sIf, iteS, sPar, setAll, sAsg, Tg.bind, gotE, sNew, sApp, appL, ownD, sSeal, sealE, sVar, sC, sCons, sNil, sOp2, sOp1, sCall, sCb, sTup, mkT, sLst, mkL1, sLstF, capL, sTst, truD, sAnd, sOr, iteB, kB, sNot, sIfE, iteE, sAndV, andV, sOrV, orV, sNotV, notD, sIs, sFor, sWhile, iSeqS, itemsD, iRange, iZip, zipD, zip2D, iEnum, enumD, sComp, sVal, sCatF, catL, sListF, listL, sRef, sChain, chV, sSlice, sPart, sNoPart, intO, slD, sOwnIx, sOwnLen, sOwnPut, sTry, sPut, putD, pure_bindM, bad_bindM, exc_bindM, pureD, runD, startE, endD, fuelI, List.map_cons, List.map_nil, List.length_cons, List.length_nil, List.length_append, List.replicate, List.cons_append, List.nil_append, List.append_nil, List.set_cons_zero, List.set_cons_succ, List.getElem?_cons_zero, List.getElem?_cons_succ, wipeE, List.foldr, Nat.reduceAdd, Nat.reduceSub, Nat.reduceLeDiff, Nat.zero_add, Nat.add_zero, Nat.reduceLT, if_true, if_false, ite_true, ite_false, reduceIte, Bool.false_eq_true, eq_self, opNe_int, opEq_int, opLt, opLe, opGt, opGe, opCmp, opSub, opNeg, opAdd_int, ixD, atI_0, atI_1, atI_2, bTuple, bList, opIsN, opNotN, tyN, isTy, String.reduceBEq, Bool.true_or, Bool.and_false, Bool.or_false, Bool.false_or, Bool.true_and, Bool.false_and, Bool.and_true, Bool.not_true, Bool.not_false, bIs, forL, stepS, Sl.va.injEq, decide_eq_true_eq, L_law_k07_0, e1, e2, hal]
      refine ih.trans ?_
      simp [natsD, Nat.add_assoc, Nat.add_comm 1 n]
    | false =>
      rw [ho] at e1
      have ih := due7 h hp hs (v0 := v0) (v1 := v1) (v2 := v2) (v3 := v3) (v4 := v4) (v6 := v6) (v8 := v8) (v12 := v12) (v13 := v13) (v14 := v14) n (k + 1) acc hg' (by omega) (by omega)
      simp only [e7] at ih
      simp only [forL, Tg.bind, e7, sSeq, sSkip, sBreak, sCont, sSet, sDrop, sRet, sRetN, sIf, iteS, sPar, setAll, sAsg, Tg.bind, gotE, sNew, sApp, appL, ownD, sSeal, sealE, sVar, sC, sCons, sNil, sOp2, sOp1, sCall, sCb, sTup, mkT, sLst, mkL1, sLstF, capL, sTst, truD, sAnd, sOr, iteB, kB, sNot, sIfE, iteE, sAndV, andV, sOrV, orV, sNotV, notD, sIs, sFor, sWhile, iSeqS, itemsD, iRange, iZip, zipD, zip2D, iEnum, enumD, sComp, sVal, sCatF, catL, sListF, listL, sRef, sChain, chV, sSlice, sPart, sNoPart, intO, slD, sOwnIx, sOwnLen, sOwnPut, sTry, sPut, putD, pure_bindM, bad_bindM, exc_bindM, pureD, runD, startE, endD, fuelI, List.map_cons, List.map_nil, List.length_cons, List.length_nil, List.length_append, List.replicate, List.cons_append, List.nil_append, List.append_nil, List.set_cons_zero, List.set_cons_succ, List.getElem?_cons_zero, List.getElem?_cons_succ, wipeE, List.foldr, Nat.reduceAdd, Nat.reduceSub, Nat.reduceLeDiff, Nat.zero_add, Nat.add_zero, Nat.reduceLT, if_true, if_false, ite_true, ite_false, reduceIte, Bool.false_eq_true, eq_self, opNe_int, opEq_int, opLt, opLe, opGt, opGe, opCmp, opSub, opNeg, opAdd_int, ixD, atI_0, atI_1, atI_2, bTuple, bList, opIsN, opNotN, tyN, isTy, String.reduceBEq, Bool.true_or, Bool.and_false, Bool.or_false, Bool.false_or, Bool.true_and, Bool.false_and, Bool.and_true, Bool.not_true, Bool.not_false, bIs, forL, stepS, Sl.va.injEq, decide_eq_true_eq, L_law_k07_0, e1, e2]
      refine ih.trans ?_
      simp [natsD, Nat.add_assoc, Nat.add_comm 1 n]
theorem stE.fitM {q : Rat} {m : Nat} (h : stE q m) (hm : m ≤ 1000) : fitQ q = true := by
  have g := h.gd
  have h1 : q.den ≤ 30 := Nat.le_of_dvd (by decide) g.1
  have h2 := g.2
  have h3 : m * q.den ≤ 1000 * 30 := Nat.mul_le_mul hm h1
  simp only [fitQ, Bool.and_eq_true, decide_eq_true_eq]
  omega
theorem same_nats {l : List Nat} (h : l.length ≤ 1000) : m__law_same 9 [.lst (natsD l), .lst (natsD l)] = M.pure (.bl true) := by
  refine e__law_same 9 ?_ (okEs_nats l) ?_ (by decide)
  · show (decide _ && smDs _) = true
    have : ∀ l : List Nat, smDs (natsD l) = true := fun l => by
      induction l with
      | nil => rfl
      | cons a l ih => exact ih
    rw [decide_eq_true (by rw [natsD_len]; omega), this]
    rfl
  · show dpEs _ + 1 < 9
    have := dpEs_nats l
    omega
theorem same_head (l : List Nat) : m__law_same 9 [headN l, headN l] = M.pure (.bl true) := by
  cases l with
  | nil => exact e__law_same 9 rfl rfl (by decide) (by decide)
  | cons i l => exact e__law_same 9 rfl rfl (by show 0 < 9; decide) (by decide)
theorem same_bool (b : Bool) : m__law_same 9 [.bl b, .bl b] = M.pure (.bl true) := e__law_same 9 rfl rfl (by show 0 < 9; decide) (by decide)
theorem wp_turn7 {st : Sto} {k n : Nat} (h : Deck k n st) (hn : n + 60 < 1000000) {v0 v1 v3 w4 w5 w6 w7 : Sl} : Wp (L_law_k07_1 (e7 v0 v1 (.va (.ref k)) v3 w4 w5 w6 w7 .no .no .no .no .no .no .no)) st fun ce s' => ∃ e2, ce = (.nx, e2) ∧ (∃ (T : Stp) (s : List Rat) (p : List Int), StpOk T ∧ s.length = T.rows.length ∧ (∀ q ∈ s, stE q 6) ∧ PlOk T.rows.length p ∧ wipeE [3, 8, 9, 10, 11, 12, 13] e2 = e7 v0 v1 (.va (.ref k)) .no (.va (.int T.rows.length)) (.va (eT T)) (.va (eS s)) (.va (eR p)) .no .no .no .no .no .no .no) ∧ Deck k (n + 60) s' := by
  unfold L_law_k07_1
  refine wp_seqSet (wp_op2 (Wp.pureE rfl (wp_call (ds := [.ref k, .int (3 : Nat)]) rfl ((wp_pick h (by omega) (size := 3) (by decide) (by decide)).mono fun d s1 ⟨⟨j, e, hj⟩, hd1⟩ => ?_))))
  subst e
  refine Wp.pureE (a := .int ((1 + j : Nat) : Int)) (by rw [opAdd_int]; congr 2) ?_
  refine wp_seqSet (wp_callW (wp_cons (Wp.pureE rfl (wp_cons (wp_lst (wp_cons (wp_call (ds := [.ref k, .int ((1 + j : Nat) : Int), .int (2 : Nat)]) rfl ((wp_a_step hd1 (m := 2) (size := 1 + j) (by omega) (by decide) (by omega) (by omega)).mono fun d s2 ⟨⟨T1, e, hT1, hl1, _, _⟩, hd2⟩ => wp_cons (wp_call (ds := [.ref k, .int ((1 + j : Nat) : Int)]) rfl ((wp_even hd2 (size := 1 + j) (by omega) (by omega) (by omega)).mono fun d' s3 ⟨⟨T2, e', hT2, hl2⟩, hd3⟩ => wp_nil ⟨by simp, wp_nil ?_⟩))))))))))
  refine (wp_one hd3 (by omega) (by simp) (by simp)).mono fun d s4 ⟨hm, hd4⟩ => ?_
  obtain ⟨T, rfl, hT, hl⟩ : ∃ T, d = eT T ∧ StpOk T ∧ T.rows.length = 1 + j := by
    simp only [List.mem_cons, List.not_mem_nil, or_false] at hm
    rcases hm with rfl | rfl
    · exact ⟨T1, e, hT1, hl1⟩
    · exact ⟨T2, e', hT2, hl2⟩
  have h1 := hT.n1
  have h3 := hT.n3
  refine wp_seqSet (wp_call (ds := [.ref k, .int ((1 + j : Nat) : Int), .int (6 : Nat)]) rfl ((wp_stand hd4 (m := 6) (size := 1 + j) (by omega) (by decide) (by omega)).mono fun d s5 ⟨⟨s, e, hs1, hs2⟩, hd5⟩ => ?_))
  subst e
  rw [← hl] at hs1
  have hg : Good 10 s := stE.good hs2 (by decide)
  refine wp_seq (wp_asg (wp_tup (wp_cons (wp_call (ds := [.ref k, eT T, eS s]) rfl ((wp_plane hT hs1 hg hd5 (by omega)).mono fun d s6 ⟨⟨p, e, hp⟩, hd6⟩ => wp_cons (wp_call (ds := [.ref k, .int (30 : Nat)]) rfl ((wp_pick hd6 (by omega) (size := 30) (by decide) (by decide)).mono fun d' s7 ⟨⟨most, e', hmost⟩, hd7⟩ => wp_nil ⟨by simp, _, rfl, _, rfl, ?_⟩)))))))
  subst e e'
  have hD : Deck k (n + 60) s7 := hd7.mono (by omega)
  have hst : isStand T.rows.length (eS s) = true := isStand_fit hs1 fun q hq => (hs2 q hq).fitM (by decide)
  rw [← hl]
  have lo := due7 hT hp hs1 (v0 := v0) (v1 := v1) (v2 := .va (.ref k)) (v3 := v3) (v4 := .va (.int T.rows.length)) (v6 := .va (eS s)) (v8 := .va (.int most)) (v12 := .no) (v13 := .no) (v14 := .no) 41 0 [] hg (by decide) (by decide)
  rw [show afterQ T s 0 = s from rfl, ← rangeN] at lo
  have eall := e_all_on hT hp hst hg (n := most) (by omega) (by omega)
  have efst := e_first_on hT hp hst hg (n := most) (by omega) (by omega)
  have esty := e_stays_on hT hp hst hg (by omega)
  have hlen := onL_len T s p 0 (most + 1)
  have fl := cmpT_filtF (t := .nm 11) (vs := [11]) (I := I_law_k07_0) (G := E_law_k07_0) (env := e7 v0 v1 (.va (.ref k)) v3 (.va (.int T.rows.length)) (.va (eT T)) (.va (eS s)) (.va (eR p)) (.va (.int most)) (.va (.lst (natsD (onL T s p 0 41)))) (.va (eS (afterQ T s (0 + 41)))) .no .no .no .no) (fun i : Nat => D.int i) (fun i => decide (i ≤ most)) (fun i : Nat => D.int i) (ds := onL T s p 0 41) (by have := onL_len T s p 0 41; omega) (fun i hi => ⟨_, rfl, by
    simp only [I_law_k07_0, e7, sSeq, sSkip, sBreak, sCont, sSet, sDrop, sRet, sRetN, sIf, iteS, sPar, setAll, sAsg, Tg.bind, gotE, sNew, sApp, appL, ownD, sSeal, sealE, sVar, sC, sCons, sNil, sOp2, sOp1, sCall, sCb, sTup, mkT, sLst, mkL1, sLstF, capL, sTst, truD, sAnd, sOr, iteB, kB, sNot, sIfE, iteE, sAndV, andV, sOrV, orV, sNotV, notD, sIs, sFor, sWhile, iSeqS, itemsD, iRange, iZip, zipD, zip2D, iEnum, enumD, sComp, sVal, sCatF, catL, sListF, listL, sRef, sChain, chV, sSlice, sPart, sNoPart, intO, slD, sOwnIx, sOwnLen, sOwnPut, sTry, sPut, putD, pure_bindM, bad_bindM, exc_bindM, pureD, runD, startE, endD, fuelI, List.map_cons, List.map_nil, List.length_cons, List.length_nil, List.length_append, List.replicate, List.cons_append, List.nil_append, List.append_nil, List.set_cons_zero, List.set_cons_succ, List.getElem?_cons_zero, List.getElem?_cons_succ, wipeE, List.foldr, Nat.reduceAdd, Nat.reduceSub, Nat.reduceLeDiff, Nat.zero_add, Nat.add_zero, Nat.reduceLT, if_true, if_false, ite_true, ite_false, reduceIte, Bool.false_eq_true, eq_self, opNe_int, opEq_int, opLt, opLe, opGt, opGe, opCmp, opSub, opNeg, opAdd_int, ixD, atI_0, atI_1, atI_2, bTuple, bList, opIsN, opNotN, tyN, isTy, String.reduceBEq, Bool.true_or, Bool.and_false, Bool.or_false, Bool.false_or, Bool.true_and, Bool.false_and, Bool.and_true, Bool.not_true, Bool.not_false, bIs, forL, stepS, Sl.va.injEq, decide_eq_true_eq]
    congr 1
    rw [Bool.eq_iff_iff]
    simp only [decide_eq_true_eq]
    omega, fun _ => rfl⟩)
  rw [onL_most T s p (by omega)] at fl
  have ne := opNe_nats (onL T s p 0 (most + 1)) []
  refine wp_seqP (e2 := e7 v0 v1 (.va (.ref k)) v3 (.va (.int T.rows.length)) (.va (eT T)) (.va (eS s)) (.va (eR p)) (.va (.int most)) (.ow []) (.va (eS s)) .no .no .no .no) rfl ?_
  refine wp_seqP (e2 := e7 v0 v1 (.va (.ref k)) v3 (.va (.int T.rows.length)) (.va (eT T)) (.va (eS s)) (.va (eR p)) (.va (.int most)) (.ow (natsD (onL T s p 0 41))) (.va (eS (afterQ T s (0 + 41)))) .no .no .no .no) lo ?_
  refine wp_seal (e2 := e7 v0 v1 (.va (.ref k)) v3 (.va (.int T.rows.length)) (.va (eT T)) (.va (eS s)) (.va (eR p)) (.va (.int most)) (.va (.lst (natsD (onL T s p 0 41)))) (.va (eS (afterQ T s (0 + 41)))) .no .no .no .no) rfl ?_
  refine wp_seqSet (wp_comp (ds := natsD (onL T s p 0 41)) rfl (Wp.pureE fl ?_))
  have sn := same_nats (l := onL T s p 0 (most + 1)) (by omega)
  have sh := same_head (onL T s p 0 (most + 1))
  have sb := same_bool ((onL T s p 0 41).length == 41)
  rw [stays_eq hT hs1 hp] at esty
  have ln : (((natsD (onL T s p 0 41)).length : Int) == 41) = ((onL T s p 0 41).length == 41) := by
    rw [natsD_len]
    exact len_int _ 41
  generalize hL1 : onL T s p 0 (most + 1) = l1 at *
  generalize hL2 : onL T s p 0 41 = l2 at *
  refine wp_seqP (e2 := e7 v0 v1 (.va (.ref k)) v3 (.va (.int T.rows.length)) (.va (eT T)) (.va (eS s)) (.va (eR p)) (.va (.int most)) (.va (.lst (natsD l2))) (.va (eS (afterQ T s (0 + 41)))) .no (.va (.lst (natsD l1))) .no .no) (by simp only [e7, natsD, sSeq, sSkip, sBreak, sCont, sSet, sDrop, sRet, sRetN, sIf, iteS, sPar, setAll, sAsg, Tg.bind, gotE, sNew, sApp, appL, ownD, sSeal, sealE, sVar, sC, sCons, sNil, sOp2, sOp1, sCall, sCb, sTup, mkT, sLst, mkL1, sLstF, capL, sTst, truD, sAnd, sOr, iteB, kB, sNot, sIfE, iteE, sAndV, andV, sOrV, orV, sNotV, notD, sIs, sFor, sWhile, iSeqS, itemsD, iRange, iZip, zipD, zip2D, iEnum, enumD, sComp, sVal, sCatF, catL, sListF, listL, sRef, sChain, chV, sSlice, sPart, sNoPart, intO, slD, sOwnIx, sOwnLen, sOwnPut, sTry, sPut, putD, pure_bindM, bad_bindM, exc_bindM, pureD, runD, startE, endD, fuelI, List.map_cons, List.map_nil, List.length_cons, List.length_nil, List.length_append, List.replicate, List.cons_append, List.nil_append, List.append_nil, List.set_cons_zero, List.set_cons_succ, List.getElem?_cons_zero, List.getElem?_cons_succ, wipeE, List.foldr, Nat.reduceAdd, Nat.reduceSub, Nat.reduceLeDiff, Nat.zero_add, Nat.add_zero, Nat.reduceLT, if_true, if_false, ite_true, ite_false, reduceIte, Bool.false_eq_true, eq_self, opNe_int, opEq_int, opLt, opLe, opGt, opGe, opCmp, opSub, opNeg, opAdd_int, ixD, atI_0, atI_1, atI_2, bTuple, bList, opIsN, opNotN, tyN, isTy, String.reduceBEq, Bool.true_or, Bool.and_false, Bool.or_false, Bool.false_or, Bool.true_and, Bool.false_and, Bool.and_true, Bool.not_true, Bool.not_false, bIs, forL, stepS, Sl.va.injEq, decide_eq_true_eq] at eall sn ⊢; simp only [sSeq, sSkip, sBreak, sCont, sSet, sDrop, sRet, sRetN, sIf, iteS, sPar, setAll, sAsg, Tg.bind, gotE, sNew, sApp, appL, ownD, sSeal, sealE, sVar, sC, sCons, sNil, sOp2, sOp1, sCall, sCb, sTup, mkT, sLst, mkL1, sLstF, capL, sTst, truD, sAnd, sOr, iteB, kB, sNot, sIfE, iteE, sAndV, andV, sOrV, orV, sNotV, notD, sIs, sFor, sWhile, iSeqS, itemsD, iRange, iZip, zipD, zip2D, iEnum, enumD, sComp, sVal, sCatF, catL, sListF, listL, sRef, sChain, chV, sSlice, sPart, sNoPart, intO, slD, sOwnIx, sOwnLen, sOwnPut, sTry, sPut, putD, pure_bindM, bad_bindM, exc_bindM, pureD, runD, startE, endD, fuelI, List.map_cons, List.map_nil, List.length_cons, List.length_nil, List.length_append, List.replicate, List.cons_append, List.nil_append, List.append_nil, List.set_cons_zero, List.set_cons_succ, List.getElem?_cons_zero, List.getElem?_cons_succ, wipeE, List.foldr, Nat.reduceAdd, Nat.reduceSub, Nat.reduceLeDiff, Nat.zero_add, Nat.add_zero, Nat.reduceLT, if_true, if_false, ite_true, ite_false, reduceIte, Bool.false_eq_true, eq_self, opNe_int, opEq_int, opLt, opLe, opGt, opGe, opCmp, opSub, opNeg, opAdd_int, ixD, atI_0, atI_1, atI_2, bTuple, bList, opIsN, opNotN, tyN, isTy, String.reduceBEq, Bool.true_or, Bool.and_false, Bool.or_false, Bool.false_or, Bool.true_and, Bool.false_and, Bool.and_true, Bool.not_true, Bool.not_false, bIs, forL, stepS, Sl.va.injEq, decide_eq_true_eq, eall, sn]) ?_
  refine wp_seqP (e2 := e7 v0 v1 (.va (.ref k)) v3 (.va (.int T.rows.length)) (.va (eT T)) (.va (eS s)) (.va (eR p)) (.va (.int most)) (.va (.lst (natsD l2))) (.va (eS (afterQ T s (0 + 41)))) .no (.va (.lst (natsD l1))) (.va (headN l1)) .no) (by
    simp only [natsD, List.map_nil] at ne
    simp only [e7, natsD, sSeq, sSkip, sBreak, sCont, sSet, sDrop, sRet, sRetN, sIf, iteS, sPar, setAll, sAsg, Tg.bind, gotE, sNew, sApp, appL, ownD, sSeal, sealE, sVar, sC, sCons, sNil, sOp2, sOp1, sCall, sCb, sTup, mkT, sLst, mkL1, sLstF, capL, sTst, truD, sAnd, sOr, iteB, kB, sNot, sIfE, iteE, sAndV, andV, sOrV, orV, sNotV, notD, sIs, sFor, sWhile, iSeqS, itemsD, iRange, iZip, zipD, zip2D, iEnum, enumD, sComp, sVal, sCatF, catL, sListF, listL, sRef, sChain, chV, sSlice, sPart, sNoPart, intO, slD, sOwnIx, sOwnLen, sOwnPut, sTry, sPut, putD, pure_bindM, bad_bindM, exc_bindM, pureD, runD, startE, endD, fuelI, List.map_cons, List.map_nil, List.length_cons, List.length_nil, List.length_append, List.replicate, List.cons_append, List.nil_append, List.append_nil, List.set_cons_zero, List.set_cons_succ, List.getElem?_cons_zero, List.getElem?_cons_succ, wipeE, List.foldr, Nat.reduceAdd, Nat.reduceSub, Nat.reduceLeDiff, Nat.zero_add, Nat.add_zero, Nat.reduceLT, if_true, if_false, ite_true, ite_false, reduceIte, Bool.false_eq_true, eq_self, opNe_int, opEq_int, opLt, opLe, opGt, opGe, opCmp, opSub, opNeg, opAdd_int, ixD, atI_0, atI_1, atI_2, bTuple, bList, opIsN, opNotN, tyN, isTy, String.reduceBEq, Bool.true_or, Bool.and_false, Bool.or_false, Bool.false_or, Bool.true_and, Bool.false_and, Bool.and_true, Bool.not_true, Bool.not_false, bIs, forL, stepS, Sl.va.injEq, decide_eq_true_eq, ne]
    cases l1 with
    | nil => rfl
    | cons i t => simp only [List.map_cons, reduceCtorEq, decide_false, sSeq, sSkip, sBreak, sCont, sSet, sDrop, sRet, sRetN, sIf, iteS, sPar, setAll, sAsg, Tg.bind, gotE, sNew, sApp, appL, ownD, sSeal, sealE, sVar, sC, sCons, sNil, sOp2, sOp1, sCall, sCb, sTup, mkT, sLst, mkL1, sLstF, capL, sTst, truD, sAnd, sOr, iteB, kB, sNot, sIfE, iteE, sAndV, andV, sOrV, orV, sNotV, notD, sIs, sFor, sWhile, iSeqS, itemsD, iRange, iZip, zipD, zip2D, iEnum, enumD, sComp, sVal, sCatF, catL, sListF, listL, sRef, sChain, chV, sSlice, sPart, sNoPart, intO, slD, sOwnIx, sOwnLen, sOwnPut, sTry, sPut, putD, pure_bindM, bad_bindM, exc_bindM, pureD, runD, startE, endD, fuelI, List.map_cons, List.map_nil, List.length_cons, List.length_nil, List.length_append, List.replicate, List.cons_append, List.nil_append, List.append_nil, List.set_cons_zero, List.set_cons_succ, List.getElem?_cons_zero, List.getElem?_cons_succ, wipeE, List.foldr, Nat.reduceAdd, Nat.reduceSub, Nat.reduceLeDiff, Nat.zero_add, Nat.add_zero, Nat.reduceLT, if_true, if_false, ite_true, ite_false, reduceIte, Bool.false_eq_true, eq_self, opNe_int, opEq_int, opLt, opLe, opGt, opGe, opCmp, opSub, opNeg, opAdd_int, ixD, atI_0, atI_1, atI_2, bTuple, bList, opIsN, opNotN, tyN, isTy, String.reduceBEq, Bool.true_or, Bool.and_false, Bool.or_false, Bool.false_or, Bool.true_and, Bool.false_and, Bool.and_true, Bool.not_true, Bool.not_false, bIs, forL, stepS, Sl.va.injEq, decide_eq_true_eq, headN]) ?_
  refine wp_seqP (e2 := e7 v0 v1 (.va (.ref k)) v3 (.va (.int T.rows.length)) (.va (eT T)) (.va (eS s)) (.va (eR p)) (.va (.int most)) (.va (.lst (natsD l2))) (.va (eS (afterQ T s (0 + 41)))) .no (.va (.lst (natsD l1))) (.va (headN l1)) .no) (by simp only [e7, sSeq, sSkip, sBreak, sCont, sSet, sDrop, sRet, sRetN, sIf, iteS, sPar, setAll, sAsg, Tg.bind, gotE, sNew, sApp, appL, ownD, sSeal, sealE, sVar, sC, sCons, sNil, sOp2, sOp1, sCall, sCb, sTup, mkT, sLst, mkL1, sLstF, capL, sTst, truD, sAnd, sOr, iteB, kB, sNot, sIfE, iteE, sAndV, andV, sOrV, orV, sNotV, notD, sIs, sFor, sWhile, iSeqS, itemsD, iRange, iZip, zipD, zip2D, iEnum, enumD, sComp, sVal, sCatF, catL, sListF, listL, sRef, sChain, chV, sSlice, sPart, sNoPart, intO, slD, sOwnIx, sOwnLen, sOwnPut, sTry, sPut, putD, pure_bindM, bad_bindM, exc_bindM, pureD, runD, startE, endD, fuelI, List.map_cons, List.map_nil, List.length_cons, List.length_nil, List.length_append, List.replicate, List.cons_append, List.nil_append, List.append_nil, List.set_cons_zero, List.set_cons_succ, List.getElem?_cons_zero, List.getElem?_cons_succ, wipeE, List.foldr, Nat.reduceAdd, Nat.reduceSub, Nat.reduceLeDiff, Nat.zero_add, Nat.add_zero, Nat.reduceLT, if_true, if_false, ite_true, ite_false, reduceIte, Bool.false_eq_true, eq_self, opNe_int, opEq_int, opLt, opLe, opGt, opGe, opCmp, opSub, opNeg, opAdd_int, ixD, atI_0, atI_1, atI_2, bTuple, bList, opIsN, opNotN, tyN, isTy, String.reduceBEq, Bool.true_or, Bool.and_false, Bool.or_false, Bool.false_or, Bool.true_and, Bool.false_and, Bool.and_true, Bool.not_true, Bool.not_false, bIs, forL, stepS, Sl.va.injEq, decide_eq_true_eq, efst, sh]) ?_
  refine Wp.pureE (a := (.nx, e7 v0 v1 (.va (.ref k)) v3 (.va (.int T.rows.length)) (.va (eT T)) (.va (eS s)) (.va (eR p)) (.va (.int most)) (.va (.lst (natsD l2))) (.va (eS (afterQ T s (0 + 41)))) .no (.va (.lst (natsD l1))) (.va (headN l1)) .no)) (by simp only [e7, sSeq, sSkip, sBreak, sCont, sSet, sDrop, sRet, sRetN, sIf, iteS, sPar, setAll, sAsg, Tg.bind, gotE, sNew, sApp, appL, ownD, sSeal, sealE, sVar, sC, sCons, sNil, sOp2, sOp1, sCall, sCb, sTup, mkT, sLst, mkL1, sLstF, capL, sTst, truD, sAnd, sOr, iteB, kB, sNot, sIfE, iteE, sAndV, andV, sOrV, orV, sNotV, notD, sIs, sFor, sWhile, iSeqS, itemsD, iRange, iZip, zipD, zip2D, iEnum, enumD, sComp, sVal, sCatF, catL, sListF, listL, sRef, sChain, chV, sSlice, sPart, sNoPart, intO, slD, sOwnIx, sOwnLen, sOwnPut, sTry, sPut, putD, pure_bindM, bad_bindM, exc_bindM, pureD, runD, startE, endD, fuelI, List.map_cons, List.map_nil, List.length_cons, List.length_nil, List.length_append, List.replicate, List.cons_append, List.nil_append, List.append_nil, List.set_cons_zero, List.set_cons_succ, List.getElem?_cons_zero, List.getElem?_cons_succ, wipeE, List.foldr, Nat.reduceAdd, Nat.reduceSub, Nat.reduceLeDiff, Nat.zero_add, Nat.add_zero, Nat.reduceLT, if_true, if_false, ite_true, ite_false, reduceIte, Bool.false_eq_true, eq_self, opNe_int, opEq_int, opLt, opLe, opGt, opGe, opCmp, opSub, opNeg, opAdd_int, ixD, atI_0, atI_1, atI_2, bTuple, bList, opIsN, opNotN, tyN, isTy, String.reduceBEq, Bool.true_or, Bool.and_false, Bool.or_false, Bool.false_or, Bool.true_and, Bool.false_and, Bool.and_true, Bool.not_true, Bool.not_false, bIs, forL, stepS, Sl.va.injEq, decide_eq_true_eq, bLen, esty, ln, sb]) ⟨_, rfl, ⟨T, s, p, hT, hs1, hs2, hp, by simp only [e7, sSeq, sSkip, sBreak, sCont, sSet, sDrop, sRet, sRetN, sIf, iteS, sPar, setAll, sAsg, Tg.bind, gotE, sNew, sApp, appL, ownD, sSeal, sealE, sVar, sC, sCons, sNil, sOp2, sOp1, sCall, sCb, sTup, mkT, sLst, mkL1, sLstF, capL, sTst, truD, sAnd, sOr, iteB, kB, sNot, sIfE, iteE, sAndV, andV, sOrV, orV, sNotV, notD, sIs, sFor, sWhile, iSeqS, itemsD, iRange, iZip, zipD, zip2D, iEnum, enumD, sComp, sVal, sCatF, catL, sListF, listL, sRef, sChain, chV, sSlice, sPart, sNoPart, intO, slD, sOwnIx, sOwnLen, sOwnPut, sTry, sPut, putD, pure_bindM, bad_bindM, exc_bindM, pureD, runD, startE, endD, fuelI, List.map_cons, List.map_nil, List.length_cons, List.length_nil, List.length_append, List.replicate, List.cons_append, List.nil_append, List.append_nil, List.set_cons_zero, List.set_cons_succ, List.getElem?_cons_zero, List.getElem?_cons_succ, wipeE, List.foldr, Nat.reduceAdd, Nat.reduceSub, Nat.reduceLeDiff, Nat.zero_add, Nat.add_zero, Nat.reduceLT, if_true, if_false, ite_true, ite_false, reduceIte, Bool.false_eq_true, eq_self, opNe_int, opEq_int, opLt, opLe, opGt, opGe, opCmp, opSub, opNeg, opAdd_int, ixD, atI_0, atI_1, atI_2, bTuple, bList, opIsN, opNotN, tyN, isTy, String.reduceBEq, Bool.true_or, Bool.and_false, Bool.or_false, Bool.false_or, Bool.true_and, Bool.false_and, Bool.and_true, Bool.not_true, Bool.not_false, bIs, forL, stepS, Sl.va.injEq, decide_eq_true_eq]⟩, hD⟩
end Dt

set_option maxHeartbeats 4000000
namespace Dt
open PySem PySem.Spec PyProof.Rows L2
section
variable {T : Stp} (h : StpOk T) {s : List Rat} (hs : isStand T.rows.length (eS s) = true)
include h hs
theorem e_first_bad {o : D} (hp : plD o = true) (hv : isRowM (T.rows.length + 1) 1000000 o = false) : m_first_on [eT T, eS s, o, .non] = M.exc ⟨"InvalidPlane", none⟩ := by
  simp only [m_first_on, F_first_on, sSeq, sSkip, sBreak, sCont, sSet, sDrop, sRet, sRetN, sIf, iteS, sPar, setAll, sAsg, Tg.bind, gotE, sNew, sApp, appL, ownD, sSeal, sealE, sVar, sC, sCons, sNil, sOp2, sOp1, sCall, sCb, sTup, mkT, sLst, mkL1, sLstF, capL, sTst, truD, sAnd, sOr, iteB, kB, sNot, sIfE, iteE, sAndV, andV, sOrV, orV, sNotV, notD, sIs, sFor, sWhile, iSeqS, itemsD, iRange, iZip, zipD, zip2D, iEnum, enumD, sComp, sVal, sCatF, catL, sListF, listL, sRef, sChain, chV, sSlice, sPart, sNoPart, intO, slD, sOwnIx, sOwnLen, sOwnPut, sTry, sPut, putD, pure_bindM, bad_bindM, exc_bindM, pureD, runD, startE, endD, fuelI, List.map_cons, List.map_nil, List.length_cons, List.length_nil, List.length_append, List.replicate, List.cons_append, List.nil_append, List.append_nil, List.set_cons_zero, List.set_cons_succ, List.getElem?_cons_zero, List.getElem?_cons_succ, wipeE, List.foldr, Nat.reduceAdd, Nat.reduceSub, Nat.reduceLeDiff, Nat.zero_add, Nat.add_zero, Nat.reduceLT, if_true, if_false, ite_true, ite_false, reduceIte, Bool.false_eq_true, eq_self, opNe_int, opEq_int, opLt, opLe, opGt, opGe, opCmp, opSub, opNeg, opAdd_int, ixD, atI_0, atI_1, atI_2, bTuple, bList, opIsN, opNotN, tyN, isTy, String.reduceBEq, Bool.true_or, Bool.and_false, Bool.or_false, Bool.false_or, Bool.true_and, Bool.false_and, Bool.and_true, Bool.not_true, Bool.not_false, bIs, forL, stepS, Sl.va.injEq, decide_eq_true_eq, e_need_all h (pl_eS s) hp (rfl : plD .non = true), hs, hv, orE_true, orE_false]
theorem e_stays_bad {o : D} (hp : plD o = true) (hv : isRowM (T.rows.length + 1) 1000000 o = false) : m_stays_on [eT T, eS s, o] = M.exc ⟨"InvalidPlane", none⟩ := by
  simp only [m_stays_on, F_stays_on, sSeq, sSkip, sBreak, sCont, sSet, sDrop, sRet, sRetN, sIf, iteS, sPar, setAll, sAsg, Tg.bind, gotE, sNew, sApp, appL, ownD, sSeal, sealE, sVar, sC, sCons, sNil, sOp2, sOp1, sCall, sCb, sTup, mkT, sLst, mkL1, sLstF, capL, sTst, truD, sAnd, sOr, iteB, kB, sNot, sIfE, iteE, sAndV, andV, sOrV, orV, sNotV, notD, sIs, sFor, sWhile, iSeqS, itemsD, iRange, iZip, zipD, zip2D, iEnum, enumD, sComp, sVal, sCatF, catL, sListF, listL, sRef, sChain, chV, sSlice, sPart, sNoPart, intO, slD, sOwnIx, sOwnLen, sOwnPut, sTry, sPut, putD, pure_bindM, bad_bindM, exc_bindM, pureD, runD, startE, endD, fuelI, List.map_cons, List.map_nil, List.length_cons, List.length_nil, List.length_append, List.replicate, List.cons_append, List.nil_append, List.append_nil, List.set_cons_zero, List.set_cons_succ, List.getElem?_cons_zero, List.getElem?_cons_succ, wipeE, List.foldr, Nat.reduceAdd, Nat.reduceSub, Nat.reduceLeDiff, Nat.zero_add, Nat.add_zero, Nat.reduceLT, if_true, if_false, ite_true, ite_false, reduceIte, Bool.false_eq_true, eq_self, opNe_int, opEq_int, opLt, opLe, opGt, opGe, opCmp, opSub, opNeg, opAdd_int, ixD, atI_0, atI_1, atI_2, bTuple, bList, opIsN, opNotN, tyN, isTy, String.reduceBEq, Bool.true_or, Bool.and_false, Bool.or_false, Bool.false_or, Bool.true_and, Bool.false_and, Bool.and_true, Bool.not_true, Bool.not_false, bIs, forL, stepS, Sl.va.injEq, decide_eq_true_eq, e_need_all h (pl_eS s) hp (rfl : plD (.int 0) = true), hs, hv, orE_true, orE_false]
theorem e_all_bad {p : List Int} (hpl : PlOk T.rows.length p) {o : D} (hp : plD o = true) (hv : isW 0 200 o = false) : m_all_on [eT T, eS s, eR p, o] = M.exc ⟨"InvalidNumber", none⟩ := by
  simp only [m_all_on, F_all_on, sSeq, sSkip, sBreak, sCont, sSet, sDrop, sRet, sRetN, sIf, iteS, sPar, setAll, sAsg, Tg.bind, gotE, sNew, sApp, appL, ownD, sSeal, sealE, sVar, sC, sCons, sNil, sOp2, sOp1, sCall, sCb, sTup, mkT, sLst, mkL1, sLstF, capL, sTst, truD, sAnd, sOr, iteB, kB, sNot, sIfE, iteE, sAndV, andV, sOrV, orV, sNotV, notD, sIs, sFor, sWhile, iSeqS, itemsD, iRange, iZip, zipD, zip2D, iEnum, enumD, sComp, sVal, sCatF, catL, sListF, listL, sRef, sChain, chV, sSlice, sPart, sNoPart, intO, slD, sOwnIx, sOwnLen, sOwnPut, sTry, sPut, putD, pure_bindM, bad_bindM, exc_bindM, pureD, runD, startE, endD, fuelI, List.map_cons, List.map_nil, List.length_cons, List.length_nil, List.length_append, List.replicate, List.cons_append, List.nil_append, List.append_nil, List.set_cons_zero, List.set_cons_succ, List.getElem?_cons_zero, List.getElem?_cons_succ, wipeE, List.foldr, Nat.reduceAdd, Nat.reduceSub, Nat.reduceLeDiff, Nat.zero_add, Nat.add_zero, Nat.reduceLT, if_true, if_false, ite_true, ite_false, reduceIte, Bool.false_eq_true, eq_self, opNe_int, opEq_int, opLt, opLe, opGt, opGe, opCmp, opSub, opNeg, opAdd_int, ixD, atI_0, atI_1, atI_2, bTuple, bList, opIsN, opNotN, tyN, isTy, String.reduceBEq, Bool.true_or, Bool.and_false, Bool.or_false, Bool.false_or, Bool.true_and, Bool.false_and, Bool.and_true, Bool.not_true, Bool.not_false, bIs, forL, stepS, Sl.va.injEq, decide_eq_true_eq, e_need_all h (pl_eS s) (pl_eR p) hp, hs, isRowM_eR hpl, hv, orE_true, orE_false]
theorem odds7 {v0 v1 v2 v4 v7 v12 : Sl} : ∀ {os : List D}, os.all (fun o => plD o && !isRowM (T.rows.length + 1) 1000000 o) = true → forL (.nm 14) [14] L_law_k07_2 os (e7 v0 v1 v2 .no v4 (.va (eT T)) (.va (eS s)) v7 .no .no .no .no v12 .no .no) = M.pure (.nx, e7 v0 v1 v2 .no v4 (.va (eT T)) (.va (eS s)) v7 .no .no .no .no v12 .no .no)
  | [], _ => rfl
  | o :: os, hos => by
    simp only [List.all_cons, Bool.and_eq_true, Bool.not_eq_true'] at hos
    have ih := odds7 (os := os) (by simpa using hos.2) (v0 := v0) (v1 := v1) (v2 := v2) (v4 := v4) (v7 := v7) (v12 := v12)
    have e1 := e_first_bad h hs hos.1.1 hos.1.2
    have e2 := e_stays_bad h hs hos.1.1 hos.1.2
    simp only [e7] at ih
    simp only [forL, Tg.bind, L_law_k07_2, e7, sSeq, sSkip, sBreak, sCont, sSet, sDrop, sRet, sRetN, sIf, iteS, sPar, setAll, sAsg, Tg.bind, gotE, sNew, sApp, appL, ownD, sSeal, sealE, sVar, sC, sCons, sNil, sOp2, sOp1, sCall, sCb, sTup, mkT, sLst, mkL1, sLstF, capL, sTst, truD, sAnd, sOr, iteB, kB, sNot, sIfE, iteE, sAndV, andV, sOrV, orV, sNotV, notD, sIs, sFor, sWhile, iSeqS, itemsD, iRange, iZip, zipD, zip2D, iEnum, enumD, sComp, sVal, sCatF, catL, sListF, listL, sRef, sChain, chV, sSlice, sPart, sNoPart, intO, slD, sOwnIx, sOwnLen, sOwnPut, sTry, sPut, putD, pure_bindM, bad_bindM, exc_bindM, pureD, runD, startE, endD, fuelI, List.map_cons, List.map_nil, List.length_cons, List.length_nil, List.length_append, List.replicate, List.cons_append, List.nil_append, List.append_nil, List.set_cons_zero, List.set_cons_succ, List.getElem?_cons_zero, List.getElem?_cons_succ, wipeE, List.foldr, Nat.reduceAdd, Nat.reduceSub, Nat.reduceLeDiff, Nat.zero_add, Nat.add_zero, Nat.reduceLT, if_true, if_false, ite_true, ite_false, reduceIte, Bool.false_eq_true, eq_self, opNe_int, opEq_int, opLt, opLe, opGt, opGe, opCmp, opSub, opNeg, opAdd_int, ixD, atI_0, atI_1, atI_2, bTuple, bList, opIsN, opNotN, tyN, isTy, String.reduceBEq, Bool.true_or, Bool.and_false, Bool.or_false, Bool.false_or, Bool.true_and, Bool.false_and, Bool.and_true, Bool.not_true, Bool.not_false, bIs, forL, stepS, Sl.va.injEq, decide_eq_true_eq, e1, e2, try_plane, ne_plane]
    exact ih
theorem odds7b {p : List Int} (hpl : PlOk T.rows.length p) {v0 v1 v2 v4 v12 : Sl} : ∀ {os : List D}, os.all (fun o => plD o && !isW 0 200 o) = true → forL (.nm 14) [14] L_law_k07_3 os (e7 v0 v1 v2 .no v4 (.va (eT T)) (.va (eS s)) (.va (eR p)) .no .no .no .no v12 .no .no) = M.pure (.nx, e7 v0 v1 v2 .no v4 (.va (eT T)) (.va (eS s)) (.va (eR p)) .no .no .no .no v12 .no .no)
  | [], _ => rfl
  | o :: os, hos => by
    simp only [List.all_cons, Bool.and_eq_true, Bool.not_eq_true'] at hos
    have ih := odds7b hpl (os := os) (by simpa using hos.2) (v0 := v0) (v1 := v1) (v2 := v2) (v4 := v4) (v12 := v12)
    have e1 := e_all_bad h hs hpl hos.1.1 hos.1.2
    simp only [e7] at ih
    simp only [forL, Tg.bind, L_law_k07_3, e7, sSeq, sSkip, sBreak, sCont, sSet, sDrop, sRet, sRetN, sIf, iteS, sPar, setAll, sAsg, Tg.bind, gotE, sNew, sApp, appL, ownD, sSeal, sealE, sVar, sC, sCons, sNil, sOp2, sOp1, sCall, sCb, sTup, mkT, sLst, mkL1, sLstF, capL, sTst, truD, sAnd, sOr, iteB, kB, sNot, sIfE, iteE, sAndV, andV, sOrV, orV, sNotV, notD, sIs, sFor, sWhile, iSeqS, itemsD, iRange, iZip, zipD, zip2D, iEnum, enumD, sComp, sVal, sCatF, catL, sListF, listL, sRef, sChain, chV, sSlice, sPart, sNoPart, intO, slD, sOwnIx, sOwnLen, sOwnPut, sTry, sPut, putD, pure_bindM, bad_bindM, exc_bindM, pureD, runD, startE, endD, fuelI, List.map_cons, List.map_nil, List.length_cons, List.length_nil, List.length_append, List.replicate, List.cons_append, List.nil_append, List.append_nil, List.set_cons_zero, List.set_cons_succ, List.getElem?_cons_zero, List.getElem?_cons_succ, wipeE, List.foldr, Nat.reduceAdd, Nat.reduceSub, Nat.reduceLeDiff, Nat.zero_add, Nat.add_zero, Nat.reduceLT, if_true, if_false, ite_true, ite_false, reduceIte, Bool.false_eq_true, eq_self, opNe_int, opEq_int, opLt, opLe, opGt, opGe, opCmp, opSub, opNeg, opAdd_int, ixD, atI_0, atI_1, atI_2, bTuple, bList, opIsN, opNotN, tyN, isTy, String.reduceBEq, Bool.true_or, Bool.and_false, Bool.or_false, Bool.false_or, Bool.true_and, Bool.false_and, Bool.and_true, Bool.not_true, Bool.not_false, bIs, forL, stepS, Sl.va.injEq, decide_eq_true_eq, e1, try_number, ne_number]
    exact ih
theorem e_first_nostand : m_first_on [eT T, .non, .non, .non] = M.exc ⟨"InvalidStand", none⟩ := by
  simp only [m_first_on, F_first_on, sSeq, sSkip, sBreak, sCont, sSet, sDrop, sRet, sRetN, sIf, iteS, sPar, setAll, sAsg, Tg.bind, gotE, sNew, sApp, appL, ownD, sSeal, sealE, sVar, sC, sCons, sNil, sOp2, sOp1, sCall, sCb, sTup, mkT, sLst, mkL1, sLstF, capL, sTst, truD, sAnd, sOr, iteB, kB, sNot, sIfE, iteE, sAndV, andV, sOrV, orV, sNotV, notD, sIs, sFor, sWhile, iSeqS, itemsD, iRange, iZip, zipD, zip2D, iEnum, enumD, sComp, sVal, sCatF, catL, sListF, listL, sRef, sChain, chV, sSlice, sPart, sNoPart, intO, slD, sOwnIx, sOwnLen, sOwnPut, sTry, sPut, putD, pure_bindM, bad_bindM, exc_bindM, pureD, runD, startE, endD, fuelI, List.map_cons, List.map_nil, List.length_cons, List.length_nil, List.length_append, List.replicate, List.cons_append, List.nil_append, List.append_nil, List.set_cons_zero, List.set_cons_succ, List.getElem?_cons_zero, List.getElem?_cons_succ, wipeE, List.foldr, Nat.reduceAdd, Nat.reduceSub, Nat.reduceLeDiff, Nat.zero_add, Nat.add_zero, Nat.reduceLT, if_true, if_false, ite_true, ite_false, reduceIte, Bool.false_eq_true, eq_self, opNe_int, opEq_int, opLt, opLe, opGt, opGe, opCmp, opSub, opNeg, opAdd_int, ixD, atI_0, atI_1, atI_2, bTuple, bList, opIsN, opNotN, tyN, isTy, String.reduceBEq, Bool.true_or, Bool.and_false, Bool.or_false, Bool.false_or, Bool.true_and, Bool.false_and, Bool.and_true, Bool.not_true, Bool.not_false, bIs, forL, stepS, Sl.va.injEq, decide_eq_true_eq, e_need_all h (rfl : plD .non = true) (rfl : plD .non = true) (rfl : plD .non = true), show isStand T.rows.length .non = false from rfl, orE_false]
end
theorem e_all_nostep : m_all_on [.non, .non, .non, .non] = M.exc ⟨"InvalidStep", none⟩ := by
  simp only [m_all_on, F_all_on, m_need_all, F_need_all, sSeq, sSkip, sBreak, sCont, sSet, sDrop, sRet, sRetN, sIf, iteS, sPar, setAll, sAsg, Tg.bind, gotE, sNew, sApp, appL, ownD, sSeal, sealE, sVar, sC, sCons, sNil, sOp2, sOp1, sCall, sCb, sTup, mkT, sLst, mkL1, sLstF, capL, sTst, truD, sAnd, sOr, iteB, kB, sNot, sIfE, iteE, sAndV, andV, sOrV, orV, sNotV, notD, sIs, sFor, sWhile, iSeqS, itemsD, iRange, iZip, zipD, zip2D, iEnum, enumD, sComp, sVal, sCatF, catL, sListF, listL, sRef, sChain, chV, sSlice, sPart, sNoPart, intO, slD, sOwnIx, sOwnLen, sOwnPut, sTry, sPut, putD, pure_bindM, bad_bindM, exc_bindM, pureD, runD, startE, endD, fuelI, List.map_cons, List.map_nil, List.length_cons, List.length_nil, List.length_append, List.replicate, List.cons_append, List.nil_append, List.append_nil, List.set_cons_zero, List.set_cons_succ, List.getElem?_cons_zero, List.getElem?_cons_succ, wipeE, List.foldr, Nat.reduceAdd, Nat.reduceSub, Nat.reduceLeDiff, Nat.zero_add, Nat.add_zero, Nat.reduceLT, if_true, if_false, ite_true, ite_false, reduceIte, Bool.false_eq_true, eq_self, opNe_int, opEq_int, opLt, opLe, opGt, opGe, opCmp, opSub, opNeg, opAdd_int, ixD, atI_0, atI_1, atI_2, bTuple, bList, opIsN, opNotN, tyN, isTy, String.reduceBEq, Bool.true_or, Bool.and_false, Bool.or_false, Bool.false_or, Bool.true_and, Bool.false_and, Bool.and_true, Bool.not_true, Bool.not_false, bIs, forL, stepS, Sl.va.injEq, decide_eq_true_eq, e_need_step (d := .non) rfl, show isStep .non = false from rfl, orE_false]
theorem wp_turns7 {st : Sto} {k : Nat} (h : Deck k 7 st) {v0 v1 w4 w5 w6 w7 : Sl} : Wp (forL (.nm 3) [3, 8, 9, 10, 11, 12, 13] L_law_k07_1 (rangeD 0 6) (e7 v0 v1 (.va (.ref k)) .no w4 w5 w6 w7 .no .no .no .no .no .no .no)) st fun ce s' => ∃ (T : Stp) (s : List Rat) (p : List Int), StpOk T ∧ s.length = T.rows.length ∧ (∀ q ∈ s, stE q 6) ∧ PlOk T.rows.length p ∧ ce = (.nx, e7 v0 v1 (.va (.ref k)) .no (.va (.int T.rows.length)) (.va (eT T)) (.va (eS s)) (.va (eR p)) .no .no .no .no .no .no .no) ∧ s'.all noRefO = true := by
  have := wp_forI (t := .nm 3) (wp := [3, 8, 9, 10, 11, 12, 13]) (body := L_law_k07_1) (N := 6) (fun i env st => ∃ w4 w5 w6 w7, env = e7 v0 v1 (.va (.ref k)) .no w4 w5 w6 w7 .no .no .no .no .no .no .no ∧ (i = 0 ∨ ∃ (T : Stp) (s : List Rat) (p : List Int), StpOk T ∧ s.length = T.rows.length ∧ (∀ q ∈ s, stE q 6) ∧ PlOk T.rows.length p ∧ w4 = .va (.int T.rows.length) ∧ w5 = .va (eT T) ∧ w6 = .va (eS s) ∧ w7 = .va (eR p)) ∧ Deck k (7 + 60 * i) st) (rangeD 0 6) 0 (e7 v0 v1 (.va (.ref k)) .no w4 w5 w6 w7 .no .no .no .no .no .no .no) st (by rw [rangeD_len]; omega) (fun d hd i env st hi ⟨w4, w5, w6, w7, he, _, h3⟩ => ?_) ⟨w4, w5, w6, w7, rfl, .inl rfl, h⟩
  · refine this.mono fun ce s' ⟨e2, hc, w4, w5, w6, w7, he, hw, hd⟩ => ?_
    rw [rangeD_len] at hw
    rcases hw with hw | ⟨T, s, p, hT, hs, hs2, hp, rfl, rfl, rfl, rfl⟩
    · omega
    · exact ⟨T, s, p, hT, hs, hs2, hp, by rw [hc, he], hd.1⟩
  · subst he
    refine ⟨_, rfl, (wp_turn7 h3 (by omega) (v0 := v0) (v1 := v1) (v3 := .va d) (w4 := w4) (w5 := w5) (w6 := w6) (w7 := w7)).mono fun ce s' ⟨e2, hc, ⟨T, s, p, hT, hs, hs2, hp, hw⟩, hd⟩ => ⟨e2, hc, _, _, _, _, hw, .inr ⟨T, s, p, hT, hs, hs2, hp, rfl, rfl, rfl, rfl⟩, hd⟩⟩
theorem wp_cell7 {st : Sto} (h : st.all noRefO = true) (cell : Int) {v0 w4 w5 w6 w7 : Sl} : Wp (L_law_k07_4 (e7 v0 (.va (.int cell)) .no .no w4 w5 w6 w7 .no .no .no .no .no .no .no)) st fun ce s' => ∃ e2 w4 w5 w6 w7, ce = (.nx, e2) ∧ wipeE [1, 2, 3, 8, 9, 10, 11, 12, 13, 14] e2 = e7 v0 .no .no .no w4 w5 w6 w7 .no .no .no .no .no .no .no ∧ s'.all noRefO = true := by
  unfold L_law_k07_4
  refine wp_seqCall rfl ((wp_deck cell 7 h).mono fun d s1 ⟨e, hd⟩ => ?_)
  subst e
  have wt := wp_turns7 hd (v0 := v0) (v1 := .va (.int cell)) (w4 := w4) (w5 := w5) (w6 := w6) (w7 := w7)
  refine wp_seqFor (ds := rangeD 0 6) rfl (wt.mono fun ce s2 ⟨T, s, p, hT, hs, hs2, hp, hce, hss⟩ => ⟨_, hce, ?_⟩)
  have h1 := hT.n1
  have h3 := hT.n3
  have hst : isStand T.rows.length (eS s) = true := isStand_fit hs fun q hq => (hs2 q hq).fitM (by decide)
  have o1 := fun v4 v12 (os : List D) hos => odds7 hT hst (v0 := v0) (v1 := .va (.int cell)) (v2 := .va (.ref st.length)) (v4 := v4) (v7 := .va (eR p)) (v12 := v12) (os := os) hos
  have o2 := fun v4 v12 => odds7b hT hst hp (v0 := v0) (v1 := .va (.int cell)) (v2 := .va (.ref st.length)) (v4 := v4) (v12 := v12) (os := [.non, .int (-1), .int 201, .bl true]) (by kernel_rfl)
  have e1 := e_first_nostand hT hst
  have key : ∀ N : Nat, N = T.rows.length → N = 1 ∨ N = 2 ∨ N = 3 := fun N hN => by omega
  obtain ⟨N, hN⟩ : ∃ N, N = T.rows.length := ⟨_, rfl⟩
  rw [← hN] at o1 ⊢
  have fin : ∀ v12, Wp (sSeq (sIf (sTst (sOp2 opNe (sTry (sCall m_first_on (sCons (sVar 5) (sCons (sC .non) (sCons (sC .non) (sCons (sC .non) (sNil))))))) (sC (.str "stand +")))) (sRet (sC (.bl false))) (sSkip))
      (sIf (sTst (sOp2 opNe (sTry (sCall m_all_on (sCons (sC .non) (sCons (sC .non) (sCons (sC .non) (sCons (sC .non) (sNil))))))) (sC (.str "step +")))) (sRet (sC (.bl false))) (sSkip)) (e7 v0 (.va (.int cell)) (.va (.ref st.length)) .no (.va (.int N)) (.va (eT T)) (.va (eS s)) (.va (eR p)) .no .no .no .no v12 .no .no)) s2 fun ce s' => ∃ e2 w4 w5 w6 w7, ce = (.nx, e2) ∧ wipeE [1, 2, 3, 8, 9, 10, 11, 12, 13, 14] e2 = e7 v0 .no .no .no w4 w5 w6 w7 .no .no .no .no .no .no .no ∧ s'.all noRefO = true := fun v12 => by
    refine wp_seqP (by simp only [e7, sSeq, sSkip, sBreak, sCont, sSet, sDrop, sRet, sRetN, sIf, iteS, sPar, setAll, sAsg, Tg.bind, gotE, sNew, sApp, appL, ownD, sSeal, sealE, sVar, sC, sCons, sNil, sOp2, sOp1, sCall, sCb, sTup, mkT, sLst, mkL1, sLstF, capL, sTst, truD, sAnd, sOr, iteB, kB, sNot, sIfE, iteE, sAndV, andV, sOrV, orV, sNotV, notD, sIs, sFor, sWhile, iSeqS, itemsD, iRange, iZip, zipD, zip2D, iEnum, enumD, sComp, sVal, sCatF, catL, sListF, listL, sRef, sChain, chV, sSlice, sPart, sNoPart, intO, slD, sOwnIx, sOwnLen, sOwnPut, sTry, sPut, putD, pure_bindM, bad_bindM, exc_bindM, pureD, runD, startE, endD, fuelI, List.map_cons, List.map_nil, List.length_cons, List.length_nil, List.length_append, List.replicate, List.cons_append, List.nil_append, List.append_nil, List.set_cons_zero, List.set_cons_succ, List.getElem?_cons_zero, List.getElem?_cons_succ, wipeE, List.foldr, Nat.reduceAdd, Nat.reduceSub, Nat.reduceLeDiff, Nat.zero_add, Nat.add_zero, Nat.reduceLT, if_true, if_false, ite_true, ite_false, reduceIte, Bool.false_eq_true, eq_self, opNe_int, opEq_int, opLt, opLe, opGt, opGe, opCmp, opSub, opNeg, opAdd_int, ixD, atI_0, atI_1, atI_2, bTuple, bList, opIsN, opNotN, tyN, isTy, String.reduceBEq, Bool.true_or, Bool.and_false, Bool.or_false, Bool.false_or, Bool.true_and, Bool.false_and, Bool.and_true, Bool.not_true, Bool.not_false, bIs, forL, stepS, Sl.va.injEq, decide_eq_true_eq, e1, try_stand, ne_stand]; rfl) ?_
    exact Wp.pureE (by simp only [sSeq, sSkip, sBreak, sCont, sSet, sDrop, sRet, sRetN, sIf, iteS, sPar, setAll, sAsg, Tg.bind, gotE, sNew, sApp, appL, ownD, sSeal, sealE, sVar, sC, sCons, sNil, sOp2, sOp1, sCall, sCb, sTup, mkT, sLst, mkL1, sLstF, capL, sTst, truD, sAnd, sOr, iteB, kB, sNot, sIfE, iteE, sAndV, andV, sOrV, orV, sNotV, notD, sIs, sFor, sWhile, iSeqS, itemsD, iRange, iZip, zipD, zip2D, iEnum, enumD, sComp, sVal, sCatF, catL, sListF, listL, sRef, sChain, chV, sSlice, sPart, sNoPart, intO, slD, sOwnIx, sOwnLen, sOwnPut, sTry, sPut, putD, pure_bindM, bad_bindM, exc_bindM, pureD, runD, startE, endD, fuelI, List.map_cons, List.map_nil, List.length_cons, List.length_nil, List.length_append, List.replicate, List.cons_append, List.nil_append, List.append_nil, List.set_cons_zero, List.set_cons_succ, List.getElem?_cons_zero, List.getElem?_cons_succ, wipeE, List.foldr, Nat.reduceAdd, Nat.reduceSub, Nat.reduceLeDiff, Nat.zero_add, Nat.add_zero, Nat.reduceLT, if_true, if_false, ite_true, ite_false, reduceIte, Bool.false_eq_true, eq_self, opNe_int, opEq_int, opLt, opLe, opGt, opGe, opCmp, opSub, opNeg, opAdd_int, ixD, atI_0, atI_1, atI_2, bTuple, bList, opIsN, opNotN, tyN, isTy, String.reduceBEq, Bool.true_or, Bool.and_false, Bool.or_false, Bool.false_or, Bool.true_and, Bool.false_and, Bool.and_true, Bool.not_true, Bool.not_false, bIs, forL, stepS, Sl.va.injEq, decide_eq_true_eq, e_all_nostep, try_step, ne_step]; rfl) ⟨_, _, _, _, _, rfl, by simp only [e7, sSeq, sSkip, sBreak, sCont, sSet, sDrop, sRet, sRetN, sIf, iteS, sPar, setAll, sAsg, Tg.bind, gotE, sNew, sApp, appL, ownD, sSeal, sealE, sVar, sC, sCons, sNil, sOp2, sOp1, sCall, sCb, sTup, mkT, sLst, mkL1, sLstF, capL, sTst, truD, sAnd, sOr, iteB, kB, sNot, sIfE, iteE, sAndV, andV, sOrV, orV, sNotV, notD, sIs, sFor, sWhile, iSeqS, itemsD, iRange, iZip, zipD, zip2D, iEnum, enumD, sComp, sVal, sCatF, catL, sListF, listL, sRef, sChain, chV, sSlice, sPart, sNoPart, intO, slD, sOwnIx, sOwnLen, sOwnPut, sTry, sPut, putD, pure_bindM, bad_bindM, exc_bindM, pureD, runD, startE, endD, fuelI, List.map_cons, List.map_nil, List.length_cons, List.length_nil, List.length_append, List.replicate, List.cons_append, List.nil_append, List.append_nil, List.set_cons_zero, List.set_cons_succ, List.getElem?_cons_zero, List.getElem?_cons_succ, wipeE, List.foldr, Nat.reduceAdd, Nat.reduceSub, Nat.reduceLeDiff, Nat.zero_add, Nat.add_zero, Nat.reduceLT, if_true, if_false, ite_true, ite_false, reduceIte, Bool.false_eq_true, eq_self, opNe_int, opEq_int, opLt, opLe, opGt, opGe, opCmp, opSub, opNeg, opAdd_int, ixD, atI_0, atI_1, atI_2, bTuple, bList, opIsN, opNotN, tyN, isTy, String.reduceBEq, Bool.true_or, Bool.and_false, Bool.or_false, Bool.false_or, Bool.true_and, Bool.false_and, Bool.and_true, Bool.not_true, Bool.not_false, bIs, forL, stepS, Sl.va.injEq, decide_eq_true_eq]; rfl, hss⟩
  rcases key N hN with e | e | e
  · subst e
    refine wp_seqP (e2 := e7 v0 (.va (.int cell)) (.va (.ref st.length)) .no (.va (.int (1 : Nat))) (.va (eT T)) (.va (eS s)) (.va (eR p)) .no .no .no .no (.va (.lst [.tup [.int 1000001, .int 1000001], .tup [.bl true, .bl true], .lst [.int 0, .int 0]])) .no .no) rfl ?_
    refine wp_seq (wp_for (ds := [.tup [.int 1000001, .int 1000001], .tup [.bl true, .bl true], .lst [.int 0, .int 0], .non, .tup [.int 0], .tup [.int 0, .int 0, .int 0]]) rfl (Wp.pureE (o1 _ _ _ (by kernel_rfl)) ⟨_, rfl, ?_⟩))
    refine wp_seq (wp_for (ds := [.non, .int (-1), .int 201, .bl true]) rfl (Wp.pureE (o2 _ _) ⟨_, rfl, fin _⟩))
  · subst e
    refine wp_seqP (e2 := e7 v0 (.va (.int cell)) (.va (.ref st.length)) .no (.va (.int (2 : Nat))) (.va (eT T)) (.va (eS s)) (.va (eR p)) .no .no .no .no (.va (.lst [.tup [.int 1000001, .int 1000001, .int 1000001], .tup [.bl true, .bl true, .bl true], .lst [.int 0, .int 0, .int 0]])) .no .no) rfl ?_
    refine wp_seq (wp_for (ds := [.tup [.int 1000001, .int 1000001, .int 1000001], .tup [.bl true, .bl true, .bl true], .lst [.int 0, .int 0, .int 0], .non, .tup [.int 0, .int 0], .tup [.int 0, .int 0, .int 0, .int 0]]) rfl (Wp.pureE (o1 _ _ _ (by kernel_rfl)) ⟨_, rfl, ?_⟩))
    refine wp_seq (wp_for (ds := [.non, .int (-1), .int 201, .bl true]) rfl (Wp.pureE (o2 _ _) ⟨_, rfl, fin _⟩))
  · subst e
    refine wp_seqP (e2 := e7 v0 (.va (.int cell)) (.va (.ref st.length)) .no (.va (.int (3 : Nat))) (.va (eT T)) (.va (eS s)) (.va (eR p)) .no .no .no .no (.va (.lst [.tup [.int 1000001, .int 1000001, .int 1000001, .int 1000001], .tup [.bl true, .bl true, .bl true, .bl true], .lst [.int 0, .int 0, .int 0, .int 0]])) .no .no) rfl ?_
    refine wp_seq (wp_for (ds := [.tup [.int 1000001, .int 1000001, .int 1000001, .int 1000001], .tup [.bl true, .bl true, .bl true, .bl true], .lst [.int 0, .int 0, .int 0, .int 0], .non, .tup [.int 0, .int 0, .int 0], .tup [.int 0, .int 0, .int 0, .int 0, .int 0]]) rfl (Wp.pureE (o1 _ _ _ (by kernel_rfl)) ⟨_, rfl, ?_⟩))
    refine wp_seq (wp_for (ds := [.non, .int (-1), .int 201, .bl true]) rfl (Wp.pureE (o2 _ _) ⟨_, rfl, fin _⟩))
theorem pure_k07 (ns : List Int) (h : ns.length ≤ 63) : ∃ st, m_law_k07 [.lst (ns.map .int)] [] = .ok (.bl true) st := by
  refine run_T (en := e7 (.va (.lst (ns.map .int))) .no .no .no .no .no .no .no .no .no .no .no .no .no .no) rfl ?_
  unfold F_law_k07
  refine wp_loop (fun env st => ∃ w4 w5 w6 w7, env = e7 (.va (.lst (ns.map .int))) .no .no .no w4 w5 w6 w7 .no .no .no .no .no .no .no ∧ st.all noRefO = true) (e_cells h (k := 10) (by decide) rfl) ⟨.no, .no, .no, .no, by simp only [e7, sSeq, sSkip, sBreak, sCont, sSet, sDrop, sRet, sRetN, sIf, iteS, sPar, setAll, sAsg, Tg.bind, gotE, sNew, sApp, appL, ownD, sSeal, sealE, sVar, sC, sCons, sNil, sOp2, sOp1, sCall, sCb, sTup, mkT, sLst, mkL1, sLstF, capL, sTst, truD, sAnd, sOr, iteB, kB, sNot, sIfE, iteE, sAndV, andV, sOrV, orV, sNotV, notD, sIs, sFor, sWhile, iSeqS, itemsD, iRange, iZip, zipD, zip2D, iEnum, enumD, sComp, sVal, sCatF, catL, sListF, listL, sRef, sChain, chV, sSlice, sPart, sNoPart, intO, slD, sOwnIx, sOwnLen, sOwnPut, sTry, sPut, putD, pure_bindM, bad_bindM, exc_bindM, pureD, runD, startE, endD, fuelI, List.map_cons, List.map_nil, List.length_cons, List.length_nil, List.length_append, List.replicate, List.cons_append, List.nil_append, List.append_nil, List.set_cons_zero, List.set_cons_succ, List.getElem?_cons_zero, List.getElem?_cons_succ, wipeE, List.foldr, Nat.reduceAdd, Nat.reduceSub, Nat.reduceLeDiff, Nat.zero_add, Nat.add_zero, Nat.reduceLT, if_true, if_false, ite_true, ite_false, reduceIte, Bool.false_eq_true, eq_self, opNe_int, opEq_int, opLt, opLe, opGt, opGe, opCmp, opSub, opNeg, opAdd_int, ixD, atI_0, atI_1, atI_2, bTuple, bList, opIsN, opNotN, tyN, isTy, String.reduceBEq, Bool.true_or, Bool.and_false, Bool.or_false, Bool.false_or, Bool.true_and, Bool.false_and, Bool.and_true, Bool.not_true, Bool.not_false, bIs, forL, stepS, Sl.va.injEq, decide_eq_true_eq], rfl⟩ (fun d hd env st ⟨w4, w5, w6, w7, he, hs⟩ => ?_) (fun env st ⟨w4, w5, w6, w7, he, hs⟩ => ?_)
  · obtain ⟨z, _, rfl⟩ := List.mem_map.mp hd
    subst he
    exact ⟨_, rfl, (wp_cell7 hs z).mono fun ce s' ⟨e2, w4, w5, w6, w7, h1, h2, h3⟩ => ⟨e2, h1, w4, w5, w6, w7, h2, h3⟩⟩
  · subst he
    refine wp_T ?_
    kernel_rfl
end Dt

set_option maxHeartbeats 4000000
namespace Dt
open PySem PySem.Spec PyProof.Rows L2 HotX L2H LamX
namespace K07
abbrev R : PySem.W.OpenRow := PySem.W.OpenLaw.row PySem.Challenge.rw_comethere_k07_planes_that_are_met
def topS (i : Nat) : Stmt := PySem.Challenge.pw_comethere_k07_planes_that_are_met.main.body.getD i (.Pass ⟨0, 0, 0, 0⟩)
structure Fx (K : PySem.W.Frag) (mg : Str → Option Value) (T : List (Addr × Str)) : Prop where
  f_abs : mg "abs" = none
  f_all : mg "all" = none
  f_bool : mg "bool" = none
  f_enumerate : mg "enumerate" = none
  f_int : mg "int" = none
  f_isinstance : mg "isinstance" = none
  f_len : mg "len" = none
  f_list : mg "list" = none
  f_range : mg "range" = none
  f_str : mg "str" = none
  f_tuple : mg "tuple" = none
  f_zip : mg "zip" = none
  i_MOST_BELOW : ∃ t, mg "MOST_BELOW" = some (.int (100) t)
  i_MOST_ENTRY : ∃ t, mg "MOST_ENTRY" = some (.int (9) t)
  i_MOST_ROUNDS : ∃ t, mg "MOST_ROUNDS" = some (.int (200) t)
  i_MOST_TOP : ∃ t, mg "MOST_TOP" = some (.int (1000000000000000000000000000000) t)
  e_InvalidNumber : mg "InvalidNumber" = some (.ref (He.ga K "InvalidNumber")) ∧ PySem.W.excIn K (He.ga K "InvalidNumber") He.veBase "ValueError.__new__" = true ∧ PySem.W.keepIn K (.ref (He.ga K "InvalidNumber")) = true ∧ PySem.W.subIn K (.ref (He.ga K "InvalidNumber")) (.type "BaseException") = some true ∧ PySem.W.typeIn K (.ref (He.ga K "InvalidNumber")) = some (.type "type")
  e_InvalidPlane : mg "InvalidPlane" = some (.ref (He.ga K "InvalidPlane")) ∧ PySem.W.excIn K (He.ga K "InvalidPlane") He.veBase "ValueError.__new__" = true ∧ PySem.W.keepIn K (.ref (He.ga K "InvalidPlane")) = true ∧ PySem.W.subIn K (.ref (He.ga K "InvalidPlane")) (.type "BaseException") = some true ∧ PySem.W.typeIn K (.ref (He.ga K "InvalidPlane")) = some (.type "type")
  e_InvalidStand : mg "InvalidStand" = some (.ref (He.ga K "InvalidStand")) ∧ PySem.W.excIn K (He.ga K "InvalidStand") He.veBase "ValueError.__new__" = true ∧ PySem.W.keepIn K (.ref (He.ga K "InvalidStand")) = true ∧ PySem.W.subIn K (.ref (He.ga K "InvalidStand")) (.type "BaseException") = some true ∧ PySem.W.typeIn K (.ref (He.ga K "InvalidStand")) = some (.type "type")
  e_InvalidStep : mg "InvalidStep" = some (.ref (He.ga K "InvalidStep")) ∧ PySem.W.excIn K (He.ga K "InvalidStep") He.veBase "ValueError.__new__" = true ∧ PySem.W.keepIn K (.ref (He.ga K "InvalidStep")) = true ∧ PySem.W.subIn K (.ref (He.ga K "InvalidStep")) (.type "BaseException") = some true ∧ PySem.W.typeIn K (.ref (He.ga K "InvalidStep")) = some (.type "type")
  g__law_deck : mg "_law_deck" = some (.ref (He.ga K "_law_deck"))
  d__law_deck : ∃ fd, FunD K "_law_deck" "_law_deck" (defArgs (topS 40)) (defBody (topS 40)) (defScope (topS 40)) [] [] (He.ga K "_law_deck") fd
  g__law_pick : mg "_law_pick" = some (.ref (He.ga K "_law_pick"))
  d__law_pick : ∃ fd, FunD K "_law_pick" "_law_pick" (defArgs (topS 41)) (defBody (topS 41)) (defScope (topS 41)) [] [] (He.ga K "_law_pick") fd
  g__law_one : mg "_law_one" = some (.ref (He.ga K "_law_one"))
  d__law_one : ∃ fd, FunD K "_law_one" "_law_one" (defArgs (topS 42)) (defBody (topS 42)) (defScope (topS 42)) [] [] (He.ga K "_law_one") fd
  g__law_even_step : mg "_law_even_step" = some (.ref (He.ga K "_law_even_step"))
  d__law_even_step : ∃ fd, FunD K "_law_even_step" "_law_even_step" (defArgs (topS 53)) (defBody (topS 53)) (defScope (topS 53)) [] [] (He.ga K "_law_even_step") fd
  g__law_a_step : mg "_law_a_step" = some (.ref (He.ga K "_law_a_step"))
  d__law_a_step : ∃ fd, FunD K "_law_a_step" "_law_a_step" (defArgs (topS 52)) (defBody (topS 52)) (defScope (topS 52)) [] [] (He.ga K "_law_a_step") fd
  g__law_low : mg "_law_low" = some (.ref (He.ga K "_law_low"))
  d__law_low : ∃ fd, FunD K "_law_low" "_law_low" (defArgs (topS 49)) (defBody (topS 49)) (defScope (topS 49)) [] [] (He.ga K "_law_low") fd
  g__law_a_stand : mg "_law_a_stand" = some (.ref (He.ga K "_law_a_stand"))
  d__law_a_stand : ∃ fd, FunD K "_law_a_stand" "_law_a_stand" (defArgs (topS 54)) (defBody (topS 54)) (defScope (topS 54)) [] [] (He.ga K "_law_a_stand") fd
  g__law_next : mg "_law_next" = some (.ref (He.ga K "_law_next"))
  d__law_next : ∃ fd, FunD K "_law_next" "_law_next" (defArgs (topS 50)) (defBody (topS 50)) (defScope (topS 50)) [] [] (He.ga K "_law_next") fd
  g__law_after : mg "_law_after" = some (.ref (He.ga K "_law_after"))
  d__law_after : ∃ fd, FunD K "_law_after" "_law_after" (defArgs (topS 51)) (defBody (topS 51)) (defScope (topS 51)) [] [] (He.ga K "_law_after") fd
  g__law_a_plane : mg "_law_a_plane" = some (.ref (He.ga K "_law_a_plane"))
  d__law_a_plane : ∃ fd, FunD K "_law_a_plane" "_law_a_plane" (defArgs (topS 56)) (defBody (topS 56)) (defScope (topS 56)) [] [] (He.ga K "_law_a_plane") fd
  g__law_is_on : mg "_law_is_on" = some (.ref (He.ga K "_law_is_on"))
  d__law_is_on : ∃ fd, FunD K "_law_is_on" "_law_is_on" (defArgs (topS 55)) (defBody (topS 55)) (defScope (topS 55)) [] [] (He.ga K "_law_is_on") fd
  g__law_sort : mg "_law_sort" = some (.ref (He.ga K "_law_sort"))
  d__law_sort : ∃ fd, FunD K "_law_sort" "_law_sort" (defArgs (topS 43)) (defBody (topS 43)) (defScope (topS 43)) [] [] (He.ga K "_law_sort") fd
  g__law_same : mg "_law_same" = some (.ref (He.ga K "_law_same"))
  d__law_same : ∃ fd, FunD K "_law_same" "_law_same" (defArgs (topS 44)) (defBody (topS 44)) (defScope (topS 44)) [] [] (He.ga K "_law_same") fd
  g_is_within : mg "is_within" = some (.ref (He.ga K "is_within"))
  d_is_within : ∃ fd, FunD K "is_within" "is_within" (defArgs (topS 22)) (defBody (topS 22)) (defScope (topS 22)) [] [] (He.ga K "is_within") fd
  g_is_row : mg "is_row" = some (.ref (He.ga K "is_row"))
  d_is_row : ∃ fd, FunD K "is_row" "is_row" (defArgs (topS 23)) (defBody (topS 23)) (defScope (topS 23)) [] [] (He.ga K "is_row") fd
  g_is_step_value : mg "is_step_value" = some (.ref (He.ga K "is_step_value"))
  d_is_step_value : ∃ fd, FunD K "is_step_value" "is_step_value" (defArgs (topS 24)) (defBody (topS 24)) (defScope (topS 24)) [] [] (He.ga K "is_step_value") fd
  g_need_step : mg "need_step" = some (.ref (He.ga K "need_step"))
  d_need_step : ∃ fd, FunD K "need_step" "need_step" (defArgs (topS 27)) (defBody (topS 27)) (defScope (topS 27)) [] [] (He.ga K "need_step") fd
  g_divisor : mg "divisor" = some (.ref (He.ga K "divisor"))
  d_divisor : ∃ fd, FunD K "divisor" "divisor" (defArgs (topS 14)) (defBody (topS 14)) (defScope (topS 14)) [] [] (He.ga K "divisor") fd
  g_is_fraction : mg "is_fraction" = some (.ref (He.ga K "is_fraction"))
  d_is_fraction : ∃ fd, FunD K "is_fraction" "is_fraction" (defArgs (topS 25)) (defBody (topS 25)) (defScope (topS 25)) [] [] (He.ga K "is_fraction") fd
  g_is_stand_value : mg "is_stand_value" = some (.ref (He.ga K "is_stand_value"))
  d_is_stand_value : ∃ fd, FunD K "is_stand_value" "is_stand_value" (defArgs (topS 26)) (defBody (topS 26)) (defScope (topS 26)) [] [] (He.ga K "is_stand_value") fd
  g_need_stand : mg "need_stand" = some (.ref (He.ga K "need_stand"))
  d_need_stand : ∃ fd, FunD K "need_stand" "need_stand" (defArgs (topS 28)) (defBody (topS 28)) (defScope (topS 28)) [] [] (He.ga K "need_stand") fd
  g_need_plane : mg "need_plane" = some (.ref (He.ga K "need_plane"))
  d_need_plane : ∃ fd, FunD K "need_plane" "need_plane" (defArgs (topS 32)) (defBody (topS 32)) (defScope (topS 32)) [] [] (He.ga K "need_plane") fd
  g_need_number : mg "need_number" = some (.ref (He.ga K "need_number"))
  d_need_number : ∃ fd, FunD K "need_number" "need_number" (defArgs (topS 29)) (defBody (topS 29)) (defScope (topS 29)) [] [] (He.ga K "need_number") fd
  g_need_all : mg "need_all" = some (.ref (He.ga K "need_all"))
  d_need_all : ∃ fd, FunD K "need_all" "need_all" (defArgs (topS 35)) (defBody (topS 35)) (defScope (topS 35)) [] [] (He.ga K "need_all") fd
  g_fraction : mg "fraction" = some (.ref (He.ga K "fraction"))
  d_fraction : ∃ fd, FunD K "fraction" "fraction" (defArgs (topS 15)) (defBody (topS 15)) (defScope (topS 15)) [] [] (He.ga K "fraction") fd
  g_plus : mg "plus" = some (.ref (He.ga K "plus"))
  d_plus : ∃ fd, FunD K "plus" "plus" (defArgs (topS 16)) (defBody (topS 16)) (defScope (topS 16)) [] [] (He.ga K "plus") fd
  g_is_on : mg "is_on" = some (.ref (He.ga K "is_on"))
  d_is_on : ∃ fd, FunD K "is_on" "is_on" (defArgs (topS 33)) (defBody (topS 33)) (defScope (topS 33)) [] [] (He.ga K "is_on") fd
  g_next_stand : mg "next_stand" = some (.ref (He.ga K "next_stand"))
  d_next_stand : ∃ fd, FunD K "next_stand" "next_stand" (defArgs (topS 30)) (defBody (topS 30)) (defScope (topS 30)) [] [] (He.ga K "next_stand") fd
  g_rounds_on : mg "rounds_on" = some (.ref (He.ga K "rounds_on"))
  d_rounds_on : ∃ fd, FunD K "rounds_on" "rounds_on" (defArgs (topS 34)) (defBody (topS 34)) (defScope (topS 34)) [] [] (He.ga K "rounds_on") fd
  g_all_on : mg "all_on" = some (.ref (He.ga K "all_on"))
  d_all_on : ∃ fd, FunD K "all_on" "all_on" (defArgs (topS 37)) (defBody (topS 37)) (defScope (topS 37)) [] [] (He.ga K "all_on") fd
  g_first_on : mg "first_on" = some (.ref (He.ga K "first_on"))
  d_first_on : ∃ fd, FunD K "first_on" "first_on" (defArgs (topS 36)) (defBody (topS 36)) (defScope (topS 36)) [] [] (He.ga K "first_on") fd
  g_stays_on : mg "stays_on" = some (.ref (He.ga K "stays_on"))
  d_stays_on : ∃ fd, FunD K "stays_on" "stays_on" (defArgs (topS 38)) (defBody (topS 38)) (defScope (topS 38)) [] [] (He.ga K "stays_on") fd
  g__law_kin : mg "_law_kin" = some (.ref (He.ga K "_law_kin"))
  d__law_kin : ∃ fd, FunD K "_law_kin" "_law_kin" (defArgs (topS 45)) (defBody (topS 45)) (defScope (topS 45)) [] [] (He.ga K "_law_kin") fd
  g__law_try : mg "_law_try" = some (.ref (He.ga K "_law_try"))
  d__law_try : ∃ fd, FunD K "_law_try" "_law_try" (defArgs (topS 46)) (defBody (topS 46)) (defScope (topS 46)) [] [] (He.ga K "_law_try") fd
  g__law_known : mg "_law_known" = some (.ref (He.ga K "_law_known"))
  d__law_known : ∃ fd, FunD K "_law_known" "_law_known" (defArgs (topS 47)) (defBody (topS 47)) (defScope (topS 47)) [] [] (He.ga K "_law_known") fd
  g__law_stands : mg "_law_stands" = some (.ref (He.ga K "_law_stands"))
  d__law_stands : ∃ fd, FunD K "_law_stands" "_law_stands" (defArgs (topS 48)) (defBody (topS 48)) (defScope (topS 48)) [] [] (He.ga K "_law_stands") fd
  g_law : mg "law" = some (.ref (He.ga K "law"))
  d_law : ∃ fd, FunD K "law" "law" (defArgs (topS 57)) (defBody (topS 57)) (defScope (topS 57)) [] [] (He.ga K "law") fd
  tm_law : (He.tabOf K (He.codeOf K ("law", none)), ("law" ++ ".<locals>." ++ "<lambda>" : Str)) ∈ T
  tu_law : ∀ p ∈ T, p.1 = He.tabOf K (He.codeOf K ("law", none)) → p.2 = ("law" ++ ".<locals>." ++ "<lambda>" : Str)
  kin : KinF K mg
structure Ty (K : PySem.W.Frag) (mg : Str → Option Value) (base : Heap) : Prop where
  nn : True
  tb_law : TabB base mg (He.codeOf K ("law", none)) (He.tabOf K (He.codeOf K ("law", none)))
variable {P : Program} {w : World} {K : PySem.W.Frag} {T : List (Addr × Str)} {mg : Str → Option Value} {base : Heap}
abbrev N__law_deck : List Str := ["cell", "turn"]
theorem s__law_deck : FnScope N__law_deck ["cell", "turn"] (defScope (topS 40)) := ⟨by kernel_rfl, by kernel_rfl, by kernel_rfl, by decide +kernel, by kernel_rfl, by decide +kernel, by decide +kernel⟩
theorem c__law_deck (X : Fx K mg T) (Y : Ty K mg base) : DFn P w K T mg base 1 "_law_deck" 2 m__law_deck := by
  obtain ⟨fd, G⟩ := X.d__law_deck
  refine dfn_of (F := F__law_deck) G X.g__law_deck s__law_deck (G.bindsN fun _ _ _ _ _ _ us hl => match us, hl with | [_, _], _ => rfl) rfl rfl (by decide) fun cdv A outer s H E hr => ?_
  have nd : N__law_deck.Nodup := s__law_deck.nd
  have tk : L2N.Takes (cxOf (L2N.CX P w) P w K mg base N__law_deck "_law_deck" (defScope (topS 40)) (He.ga K "_law_deck") cdv A outer s H E) (fun cls d _ H => E cls d H) := L2N.takes_of rfl rfl rfl rfl
  have px : Passes (L2N.CX P w) (cxOf (L2N.CX P w) P w K mg base N__law_deck "_law_deck" (defScope (topS 40)) (He.ga K "_law_deck") cdv A outer s H E) E := L2N.passes_call tk fun _ _ _ _ h => h
  have po : PassesOwn (model P w) (cxOf (L2N.CX P w) P w K mg base N__law_deck "_law_deck" (defScope (topS 40)) (He.ga K "_law_deck") cdv A outer s H E).A (cxOf (L2N.CX P w) P w K mg base N__law_deck "_law_deck" (defScope (topS 40)) (He.ga K "_law_deck") cdv A outer s H E).env (cxOf (L2N.CX P w) P w K mg base N__law_deck "_law_deck" (defScope (topS 40)) (He.ga K "_law_deck") cdv A outer s H E).xe := passes_of rfl
  have V0 : ∀ p : Pos, PE (cxOf (L2N.CX P w) P w K mg base N__law_deck "_law_deck" (defScope (topS 40)) (He.ga K "_law_deck") cdv A outer s H E) (.Name "cell" p) (rdE K T mg E (sVar 0)) := fun p => d_var 0 rfl (.inl (by kernel_rfl)) (by kernel_rfl) (by kernel_rfl)
  have V1 : ∀ p : Pos, PE (cxOf (L2N.CX P w) P w K mg base N__law_deck "_law_deck" (defScope (topS 40)) (He.ga K "_law_deck") cdv A outer s H E) (.Name "turn" p) (rdE K T mg E (sVar 1)) := fun p => d_var 1 rfl (.inl (by kernel_rfl)) (by kernel_rfl) (by kernel_rfl)
  exact (d_seq (d_if (dt_cmp op_ge os_cmp (V0 _) (d_op op_pow os_pow d_int d_int) (nomark _)) (d_one (d_ret (d_ref (d_lstF (d_cons (d_op op_sub os_sub (V0 _) (d_op op_pow os_pow d_int d_int)) (d_cons (d_op op_modN os_mod (V0 _) d_int) (d_cons (V1 _) d_nil))))))) d_skip)
 (d_one (d_ret (d_ref (d_lstF (d_cons d_int (d_cons (d_op op_modN os_mod (V0 _) d_int) (d_cons (V1 _) d_nil))))))))
abbrev N__law_pick : List Str := ["deck", "size", "found", "number"]
theorem s__law_pick : FnScope N__law_pick ["deck", "size"] (defScope (topS 41)) := ⟨by kernel_rfl, by kernel_rfl, by kernel_rfl, by decide +kernel, by kernel_rfl, by decide +kernel, by decide +kernel⟩
theorem c__law_pick (X : Fx K mg T) (Y : Ty K mg base) : DFn P w K T mg base 1 "_law_pick" 2 m__law_pick := by
  obtain ⟨fd, G⟩ := X.d__law_pick
  refine dfn_of (F := F__law_pick) G X.g__law_pick s__law_pick (G.bindsN fun _ _ _ _ _ _ us hl => match us, hl with | [_, _], _ => rfl) rfl rfl (by decide) fun cdv A outer s H E hr => ?_
  have nd : N__law_pick.Nodup := s__law_pick.nd
  have tk : L2N.Takes (cxOf (L2N.CX P w) P w K mg base N__law_pick "_law_pick" (defScope (topS 41)) (He.ga K "_law_pick") cdv A outer s H E) (fun cls d _ H => E cls d H) := L2N.takes_of rfl rfl rfl rfl
  have px : Passes (L2N.CX P w) (cxOf (L2N.CX P w) P w K mg base N__law_pick "_law_pick" (defScope (topS 41)) (He.ga K "_law_pick") cdv A outer s H E) E := L2N.passes_call tk fun _ _ _ _ h => h
  have po : PassesOwn (model P w) (cxOf (L2N.CX P w) P w K mg base N__law_pick "_law_pick" (defScope (topS 41)) (He.ga K "_law_pick") cdv A outer s H E).A (cxOf (L2N.CX P w) P w K mg base N__law_pick "_law_pick" (defScope (topS 41)) (He.ga K "_law_pick") cdv A outer s H E).env (cxOf (L2N.CX P w) P w K mg base N__law_pick "_law_pick" (defScope (topS 41)) (He.ga K "_law_pick") cdv A outer s H E).xe := passes_of rfl
  have V0 : ∀ p : Pos, PE (cxOf (L2N.CX P w) P w K mg base N__law_pick "_law_pick" (defScope (topS 41)) (He.ga K "_law_pick") cdv A outer s H E) (.Name "deck" p) (rdE K T mg E (sVar 0)) := fun p => d_var 0 rfl (.inl (by kernel_rfl)) (by kernel_rfl) (by kernel_rfl)
  have V1 : ∀ p : Pos, PE (cxOf (L2N.CX P w) P w K mg base N__law_pick "_law_pick" (defScope (topS 41)) (He.ga K "_law_pick") cdv A outer s H E) (.Name "size" p) (rdE K T mg E (sVar 1)) := fun p => d_var 1 rfl (.inl (by kernel_rfl)) (by kernel_rfl) (by kernel_rfl)
  have V2 : ∀ p : Pos, PE (cxOf (L2N.CX P w) P w K mg base N__law_pick "_law_pick" (defScope (topS 41)) (He.ga K "_law_pick") cdv A outer s H E) (.Name "found" p) (rdE K T mg E (sVar 2)) := fun p => d_var 2 rfl (.inl (by kernel_rfl)) (by kernel_rfl) (by kernel_rfl)
  have V3 : ∀ p : Pos, PE (cxOf (L2N.CX P w) P w K mg base N__law_pick "_law_pick" (defScope (topS 41)) (He.ga K "_law_pick") cdv A outer s H E) (.Name "number" p) (rdE K T mg E (sVar 3)) := fun p => d_var 3 rfl (.inl (by kernel_rfl)) (by kernel_rfl) (by kernel_rfl)
  exact (d_seq (d_if (dt_cmp op_gt os_cmp (d_ix (V0 _) d_int (fun _ _ => rfl)) d_int (nomark _)) (d_seq (d_set 2 (d_op op_modN os_mod (d_cbT call_int1 cs_int (by unfold Gl; kernel_rfl) X.f_int boot_int (d_cons (d_ix (V0 _) d_int (fun _ _ => rfl)) d_nil)) (V1 _)) nd rfl (.inl (by kernel_rfl)) (by rfl) (.inl rfl))
 (d_seq (d_put (V0 _) d_int (d_op op_fdivG os_div (d_ix (V0 _) d_int (fun _ _ => rfl)) (V1 _)))
 (d_one (d_ret (V2 _))))) d_skip)
 (d_seq (d_put (V0 _) d_int (d_op op_addA os_add (d_ix (V0 _) d_int (fun _ _ => rfl)) d_int))
 (d_seq (d_set 3 (d_op op_modN os_mod (d_op op_pow os_pow (d_op op_addA os_add (d_ix (V0 _) d_int (fun _ _ => rfl)) (d_op op_mulA os_mul d_int (d_ix (V0 _) d_int (fun _ _ => rfl)))) d_int) d_int) nd rfl (.inl (by kernel_rfl)) (by rfl) (.inl rfl))
 (d_seq (d_set 2 (d_op op_fdivG os_div (d_op op_modN os_mod (d_op op_pow os_pow (d_op op_addA os_add (V3 _) (d_op op_mulA os_mul d_int (d_ix (V0 _) d_int (fun _ _ => rfl)))) d_int) d_int) d_int) nd rfl (.inl (by kernel_rfl)) (by rfl) (.inl rfl))
 (d_one (d_ret (d_op op_modN os_mod (d_cbT call_int1 cs_int (by unfold Gl; kernel_rfl) X.f_int boot_int (d_cons (V2 _) d_nil)) (V1 _))))))))
abbrev N__law_one : List Str := ["deck", "some"]
theorem s__law_one : FnScope N__law_one ["deck", "some"] (defScope (topS 42)) := ⟨by kernel_rfl, by kernel_rfl, by kernel_rfl, by decide +kernel, by kernel_rfl, by decide +kernel, by decide +kernel⟩
theorem c__law_one (X : Fx K mg T) (Y : Ty K mg base) : DFn P w K T mg base 2 "_law_one" 2 m__law_one := by
  obtain ⟨fd, G⟩ := X.d__law_one
  refine dfn_of (F := F__law_one) G X.g__law_one s__law_one (G.bindsN fun _ _ _ _ _ _ us hl => match us, hl with | [_, _], _ => rfl) rfl rfl (by decide) fun cdv A outer s H E hr => ?_
  have nd : N__law_one.Nodup := s__law_one.nd
  have tk : L2N.Takes (cxOf (L2N.CX P w) P w K mg base N__law_one "_law_one" (defScope (topS 42)) (He.ga K "_law_one") cdv A outer s H E) (fun cls d _ H => E cls d H) := L2N.takes_of rfl rfl rfl rfl
  have px : Passes (L2N.CX P w) (cxOf (L2N.CX P w) P w K mg base N__law_one "_law_one" (defScope (topS 42)) (He.ga K "_law_one") cdv A outer s H E) E := L2N.passes_call tk fun _ _ _ _ h => h
  have po : PassesOwn (model P w) (cxOf (L2N.CX P w) P w K mg base N__law_one "_law_one" (defScope (topS 42)) (He.ga K "_law_one") cdv A outer s H E).A (cxOf (L2N.CX P w) P w K mg base N__law_one "_law_one" (defScope (topS 42)) (He.ga K "_law_one") cdv A outer s H E).env (cxOf (L2N.CX P w) P w K mg base N__law_one "_law_one" (defScope (topS 42)) (He.ga K "_law_one") cdv A outer s H E).xe := passes_of rfl
  have V0 : ∀ p : Pos, PE (cxOf (L2N.CX P w) P w K mg base N__law_one "_law_one" (defScope (topS 42)) (He.ga K "_law_one") cdv A outer s H E) (.Name "deck" p) (rdE K T mg E (sVar 0)) := fun p => d_var 0 rfl (.inl (by kernel_rfl)) (by kernel_rfl) (by kernel_rfl)
  have V1 : ∀ p : Pos, PE (cxOf (L2N.CX P w) P w K mg base N__law_one "_law_one" (defScope (topS 42)) (He.ga K "_law_one") cdv A outer s H E) (.Name "some" p) (rdE K T mg E (sVar 1)) := fun p => d_var 1 rfl (.inl (by kernel_rfl)) (by kernel_rfl) (by kernel_rfl)
  exact (d_one (d_ret (d_ix (V1 _) (d_call ((c__law_pick X Y).mono (by decide)) hr (by unfold Gl; kernel_rfl) px (d_cons (V0 _) (d_cons (d_cb cr_len cs_len (by unfold Gl; kernel_rfl) X.f_len boot_len (d_cons (V1 _) d_nil)) d_nil))) (fun _ _ => rfl))))
abbrev N__law_even_step : List Str := ["deck", "size", "by", "some", "more"]
theorem s__law_even_step : FnScope N__law_even_step ["deck", "size"] (defScope (topS 53)) := ⟨by kernel_rfl, by kernel_rfl, by kernel_rfl, by decide +kernel, by kernel_rfl, by decide +kernel, by decide +kernel⟩
theorem c__law_even_step (X : Fx K mg T) (Y : Ty K mg base) : DFn P w K T mg base 3 "_law_even_step" 2 m__law_even_step := by
  obtain ⟨fd, G⟩ := X.d__law_even_step
  refine dfn_of (F := F__law_even_step) G X.g__law_even_step s__law_even_step (G.bindsN fun _ _ _ _ _ _ us hl => match us, hl with | [_, _], _ => rfl) rfl rfl (by decide) fun cdv A outer s H E hr => ?_
  have nd : N__law_even_step.Nodup := s__law_even_step.nd
  have tk : L2N.Takes (cxOf (L2N.CX P w) P w K mg base N__law_even_step "_law_even_step" (defScope (topS 53)) (He.ga K "_law_even_step") cdv A outer s H E) (fun cls d _ H => E cls d H) := L2N.takes_of rfl rfl rfl rfl
  have px : Passes (L2N.CX P w) (cxOf (L2N.CX P w) P w K mg base N__law_even_step "_law_even_step" (defScope (topS 53)) (He.ga K "_law_even_step") cdv A outer s H E) E := L2N.passes_call tk fun _ _ _ _ h => h
  have po : PassesOwn (model P w) (cxOf (L2N.CX P w) P w K mg base N__law_even_step "_law_even_step" (defScope (topS 53)) (He.ga K "_law_even_step") cdv A outer s H E).A (cxOf (L2N.CX P w) P w K mg base N__law_even_step "_law_even_step" (defScope (topS 53)) (He.ga K "_law_even_step") cdv A outer s H E).env (cxOf (L2N.CX P w) P w K mg base N__law_even_step "_law_even_step" (defScope (topS 53)) (He.ga K "_law_even_step") cdv A outer s H E).xe := passes_of rfl
  have V0 : ∀ p : Pos, PE (cxOf (L2N.CX P w) P w K mg base N__law_even_step "_law_even_step" (defScope (topS 53)) (He.ga K "_law_even_step") cdv A outer s H E) (.Name "deck" p) (rdE K T mg E (sVar 0)) := fun p => d_var 0 rfl (.inl (by kernel_rfl)) (by kernel_rfl) (by kernel_rfl)
  have V1 : ∀ p : Pos, PE (cxOf (L2N.CX P w) P w K mg base N__law_even_step "_law_even_step" (defScope (topS 53)) (He.ga K "_law_even_step") cdv A outer s H E) (.Name "size" p) (rdE K T mg E (sVar 1)) := fun p => d_var 1 rfl (.inl (by kernel_rfl)) (by kernel_rfl) (by kernel_rfl)
  have V2 : ∀ p : Pos, PE (cxOf (L2N.CX P w) P w K mg base N__law_even_step "_law_even_step" (defScope (topS 53)) (He.ga K "_law_even_step") cdv A outer s H E) (.Name "by" p) (rdE K T mg E (sVar 2)) := fun p => d_var 2 rfl (.inl (by kernel_rfl)) (by kernel_rfl) (by kernel_rfl)
  have V3 : ∀ p : Pos, PE (cxOf (L2N.CX P w) P w K mg base N__law_even_step "_law_even_step" (defScope (topS 53)) (He.ga K "_law_even_step") cdv A outer s H E) (.Name "some" p) (rdE K T mg E (sVar 3)) := fun p => d_var 3 rfl (.inl (by kernel_rfl)) (by kernel_rfl) (by kernel_rfl)
  have V4 : ∀ p : Pos, PE (cxOf (L2N.CX P w) P w K mg base N__law_even_step "_law_even_step" (defScope (topS 53)) (He.ga K "_law_even_step") cdv A outer s H E) (.Name "more" p) (rdE K T mg E (sVar 4)) := fun p => d_var 4 rfl (.inl (by kernel_rfl)) (by kernel_rfl) (by kernel_rfl)
  exact (d_seq (d_if (dt_cmp (op_eqD hr.units) os_eq (V1 _) d_int (nomark _)) (d_one (d_ret (d_tup (d_cons d_int (d_cons (d_tup (d_cons (d_tup (d_cons (d_call ((c__law_one X Y).mono (by decide)) hr (by unfold Gl; kernel_rfl) px (d_cons (V0 _) (d_cons (d_lst (d_cons d_int (d_cons d_int (d_cons (d_un un_neg us_neg d_int) (d_cons d_int d_nil))))) d_nil))) d_nil)) d_nil)) d_nil))))) d_skip)
 (d_seq (d_set 2 (d_op op_sub os_sub (d_call ((c__law_pick X Y).mono (by decide)) hr (by unfold Gl; kernel_rfl) px (d_cons (V0 _) (d_cons d_int d_nil))) d_int) nd rfl (.inl (by kernel_rfl)) (by rfl) (.inl rfl))
 (d_seq (d_if (dt_cmp (op_eqD hr.units) os_eq (V1 _) d_int (nomark _)) (d_seq (d_set 3 (d_lst (d_cons (d_tup (d_cons (d_tup (d_cons d_int (d_cons (V2 _) d_nil))) (d_cons (d_tup (d_cons d_int (d_cons d_int d_nil))) d_nil))) (d_cons (d_tup (d_cons (d_tup (d_cons d_int (d_cons d_int d_nil))) (d_cons (d_tup (d_cons (V2 _) (d_cons d_int d_nil))) d_nil))) (d_cons (d_tup (d_cons (d_tup (d_cons d_int (d_cons (d_un un_neg us_neg d_int) d_nil))) (d_cons (d_tup (d_cons d_int (d_cons d_int d_nil))) d_nil))) (d_cons (d_tup (d_cons (d_tup (d_cons d_int (d_cons (d_un un_neg us_neg d_int) d_nil))) (d_cons (d_tup (d_cons d_int (d_cons (d_un un_neg us_neg d_int) d_nil))) d_nil))) d_nil))))) nd rfl (.inl (by kernel_rfl)) (by rfl) (.inl rfl))
 (d_seq (d_set 3 (d_op op_addA os_add (V3 _) (d_lst (d_cons (d_tup (d_cons (d_tup (d_cons (d_un un_neg us_neg d_int) (d_cons (V2 _) d_nil))) (d_cons (d_tup (d_cons d_int (d_cons (d_un un_neg us_neg d_int) d_nil))) d_nil))) (d_cons (d_tup (d_cons (d_tup (d_cons d_int (d_cons d_int d_nil))) (d_cons (d_tup (d_cons d_int (d_cons d_int d_nil))) d_nil))) (d_cons (d_tup (d_cons (d_tup (d_cons d_int (d_cons (V2 _) d_nil))) (d_cons (d_tup (d_cons d_int (d_cons d_int d_nil))) d_nil))) (d_cons (d_tup (d_cons (d_tup (d_cons d_int (d_cons (V2 _) d_nil))) (d_cons (d_tup (d_cons d_int (d_cons d_int d_nil))) d_nil))) d_nil)))))) nd rfl (.inl (by kernel_rfl)) (by rfl) (.inl rfl))
 (d_one (d_ret (d_tup (d_cons d_int (d_cons (d_call ((c__law_one X Y).mono (by decide)) hr (by unfold Gl; kernel_rfl) px (d_cons (V0 _) (d_cons (d_op op_addA os_add (V3 _) (d_lst (d_cons (d_tup (d_cons (d_tup (d_cons d_int (d_cons d_int d_nil))) (d_cons (d_tup (d_cons d_int (d_cons (d_un un_neg us_neg d_int) d_nil))) d_nil))) d_nil))) d_nil))) d_nil))))))) d_skip)
 (d_seq (d_set 4 (d_op op_sub os_sub (d_call ((c__law_pick X Y).mono (by decide)) hr (by unfold Gl; kernel_rfl) px (d_cons (V0 _) (d_cons d_int d_nil))) d_int) nd rfl (.inl (by kernel_rfl)) (by rfl) (.inl rfl))
 (d_seq (d_set 3 (d_lst (d_cons (d_tup (d_cons (d_tup (d_cons d_int (d_cons (V2 _) (d_cons (V4 _) d_nil)))) (d_cons (d_tup (d_cons d_int (d_cons d_int (d_cons (V2 _) d_nil)))) (d_cons (d_tup (d_cons d_int (d_cons d_int (d_cons d_int d_nil)))) d_nil)))) (d_cons (d_tup (d_cons (d_tup (d_cons d_int (d_cons d_int (d_cons d_int d_nil)))) (d_cons (d_tup (d_cons d_int (d_cons d_int (d_cons d_int d_nil)))) (d_cons (d_tup (d_cons d_int (d_cons d_int (d_cons d_int d_nil)))) d_nil)))) d_nil))) nd rfl (.inl (by kernel_rfl)) (by rfl) (.inl rfl))
 (d_seq (d_set 3 (d_op op_addA os_add (V3 _) (d_lst (d_cons (d_tup (d_cons (d_tup (d_cons d_int (d_cons (V2 _) (d_cons d_int d_nil)))) (d_cons (d_tup (d_cons d_int (d_cons d_int (d_cons d_int d_nil)))) (d_cons (d_tup (d_cons d_int (d_cons d_int (d_cons (d_un un_neg us_neg d_int) d_nil)))) d_nil)))) (d_cons (d_tup (d_cons (d_tup (d_cons d_int (d_cons (d_un un_neg us_neg d_int) (d_cons d_int d_nil)))) (d_cons (d_tup (d_cons d_int (d_cons d_int (d_cons d_int d_nil)))) (d_cons (d_tup (d_cons d_int (d_cons d_int (d_cons d_int d_nil)))) d_nil)))) d_nil)))) nd rfl (.inl (by kernel_rfl)) (by rfl) (.inl rfl))
 (d_seq (d_set 3 (d_op op_addA os_add (V3 _) (d_lst (d_cons (d_tup (d_cons (d_tup (d_cons d_int (d_cons (V2 _) (d_cons (V4 _) d_nil)))) (d_cons (d_tup (d_cons d_int (d_cons d_int (d_cons d_int d_nil)))) (d_cons (d_tup (d_cons d_int (d_cons d_int (d_cons d_int d_nil)))) d_nil)))) (d_cons (d_tup (d_cons (d_tup (d_cons d_int (d_cons d_int (d_cons (V2 _) d_nil)))) (d_cons (d_tup (d_cons d_int (d_cons d_int (d_cons d_int d_nil)))) (d_cons (d_tup (d_cons d_int (d_cons d_int (d_cons d_int d_nil)))) d_nil)))) d_nil)))) nd rfl (.inl (by kernel_rfl)) (by rfl) (.inl rfl))
 (d_one (d_ret (d_tup (d_cons d_int (d_cons (d_call ((c__law_one X Y).mono (by decide)) hr (by unfold Gl; kernel_rfl) px (d_cons (V0 _) (d_cons (d_op op_addA os_add (V3 _) (d_lst (d_cons (d_tup (d_cons (d_tup (d_cons d_int (d_cons d_int (d_cons (V2 _) d_nil)))) (d_cons (d_tup (d_cons d_int (d_cons d_int (d_cons (d_un un_neg us_neg d_int) d_nil)))) (d_cons (d_tup (d_cons d_int (d_cons d_int (d_cons (d_un un_neg us_neg d_int) d_nil)))) d_nil)))) d_nil))) d_nil))) d_nil))))))))))))
abbrev N__law_a_step : List Str := ["deck", "size", "most", "rows", "turn", "at"]
theorem s__law_a_step : FnScope N__law_a_step ["deck", "size", "most"] (defScope (topS 52)) := ⟨by kernel_rfl, by kernel_rfl, by kernel_rfl, by decide +kernel, by kernel_rfl, by decide +kernel, by decide +kernel⟩
theorem c__law_a_step (X : Fx K mg T) (Y : Ty K mg base) : DFn P w K T mg base 3 "_law_a_step" 3 m__law_a_step := by
  obtain ⟨fd, G⟩ := X.d__law_a_step
  refine dfn_of (F := F__law_a_step) G X.g__law_a_step s__law_a_step (G.bindsN fun _ _ _ _ _ _ us hl => match us, hl with | [_, _, _], _ => rfl) rfl rfl (by decide) fun cdv A outer s H E hr => ?_
  have nd : N__law_a_step.Nodup := s__law_a_step.nd
  have tk : L2N.Takes (cxOf (L2N.CX P w) P w K mg base N__law_a_step "_law_a_step" (defScope (topS 52)) (He.ga K "_law_a_step") cdv A outer s H E) (fun cls d _ H => E cls d H) := L2N.takes_of rfl rfl rfl rfl
  have px : Passes (L2N.CX P w) (cxOf (L2N.CX P w) P w K mg base N__law_a_step "_law_a_step" (defScope (topS 52)) (He.ga K "_law_a_step") cdv A outer s H E) E := L2N.passes_call tk fun _ _ _ _ h => h
  have po : PassesOwn (model P w) (cxOf (L2N.CX P w) P w K mg base N__law_a_step "_law_a_step" (defScope (topS 52)) (He.ga K "_law_a_step") cdv A outer s H E).A (cxOf (L2N.CX P w) P w K mg base N__law_a_step "_law_a_step" (defScope (topS 52)) (He.ga K "_law_a_step") cdv A outer s H E).env (cxOf (L2N.CX P w) P w K mg base N__law_a_step "_law_a_step" (defScope (topS 52)) (He.ga K "_law_a_step") cdv A outer s H E).xe := passes_of rfl
  have V0 : ∀ p : Pos, PE (cxOf (L2N.CX P w) P w K mg base N__law_a_step "_law_a_step" (defScope (topS 52)) (He.ga K "_law_a_step") cdv A outer s H E) (.Name "deck" p) (rdE K T mg E (sVar 0)) := fun p => d_var 0 rfl (.inr (.inl (by kernel_rfl))) (by kernel_rfl) (by kernel_rfl)
  have V1 : ∀ p : Pos, PE (cxOf (L2N.CX P w) P w K mg base N__law_a_step "_law_a_step" (defScope (topS 52)) (He.ga K "_law_a_step") cdv A outer s H E) (.Name "size" p) (rdE K T mg E (sVar 1)) := fun p => d_var 1 rfl (.inl (by kernel_rfl)) (by kernel_rfl) (by kernel_rfl)
  have V2 : ∀ p : Pos, PE (cxOf (L2N.CX P w) P w K mg base N__law_a_step "_law_a_step" (defScope (topS 52)) (He.ga K "_law_a_step") cdv A outer s H E) (.Name "most" p) (rdE K T mg E (sVar 2)) := fun p => d_var 2 rfl (.inr (.inl (by kernel_rfl))) (by kernel_rfl) (by kernel_rfl)
  have V3 : ∀ p : Pos, PE (cxOf (L2N.CX P w) P w K mg base N__law_a_step "_law_a_step" (defScope (topS 52)) (He.ga K "_law_a_step") cdv A outer s H E) (.Name "rows" p) (rdE K T mg E (sVar 3)) := fun p => d_var 3 rfl (.inl (by kernel_rfl)) (by kernel_rfl) (by kernel_rfl)
  have V4 : ∀ p : Pos, PE (cxOf (L2N.CX P w) P w K mg base N__law_a_step "_law_a_step" (defScope (topS 52)) (He.ga K "_law_a_step") cdv A outer s H E) (.Name "turn" p) (rdE K T mg E (sVar 4)) := fun p => d_var 4 rfl (.inl (by kernel_rfl)) (by kernel_rfl) (by kernel_rfl)
  exact (d_seq (d_new 3 (d_lstF d_nil) nd rfl (.inl (by kernel_rfl)) (by rfl) (.inl rfl))
 (d_seq (d_for (t := .nm 4) [4] po rfl (di_range1 (by unfold Gl; kernel_rfl) X.f_range (d_cons (V1 _) d_nil)) (pg_name (i := 4) nd rfl (.inl (by kernel_rfl)) (.inl rfl))
  (d_one (d_app 3 (d_cbT call_tuple_of cs_tuple (by unfold Gl; kernel_rfl) X.f_tuple boot_tuple (d_cons (d_comp (t := .nm 5) [("at", 5)] rfl nd (di_range1 (by unfold Gl; kernel_rfl) X.f_range (d_cons (V1 _) d_nil)) (blkOk_by (own := [("at", 5)]) (N := N__law_a_step) (by kernel_rfl)) (fun _ _ _ _ _ => (pg_name (i := 5) nd rfl (.inl (by kernel_rfl)) (.inr (by kernel_rfl)))) (fun _ _ _ _ _ => d_ts0) (fun _ _ _ _ _ => (d_op op_sub os_sub (d_call ((c__law_pick X Y).mono (by decide)) hr (by unfold Gl; kernel_rfl) passL (d_cons (d_var 0 rfl (.inr (.inl (by kernel_rfl))) (by kernel_rfl) (by kernel_rfl)) (d_cons (d_op op_addA os_add (d_op op_mulA os_mul d_int (d_var 2 rfl (.inr (.inl (by kernel_rfl))) (by kernel_rfl) (by kernel_rfl))) d_int) d_nil))) (d_var 2 rfl (.inr (.inl (by kernel_rfl))) (by kernel_rfl) (by kernel_rfl))))) d_nil)) rfl (.inl (by kernel_rfl)) (by kernel_rfl) (by kernel_rfl))))
 (d_seal 3 (d_one (d_ret (d_tup (d_cons (d_call ((c__law_one X Y).mono (by decide)) hr (by unfold Gl; kernel_rfl) px (d_cons (V0 _) (d_cons (d_lst (d_cons d_int (d_cons d_int (d_cons d_int (d_cons d_int (d_cons d_int (d_cons d_int d_nil))))))) d_nil))) (d_cons (d_cbT call_tuple_of cs_tuple (by unfold Gl; kernel_rfl) X.f_tuple boot_tuple (d_cons (V3 _) d_nil)) d_nil))))))))
abbrev N__law_low : List Str := ["top", "below", "one", "other", "sign"]
theorem s__law_low : FnScope N__law_low ["top", "below"] (defScope (topS 49)) := ⟨by kernel_rfl, by kernel_rfl, by kernel_rfl, by decide +kernel, by kernel_rfl, by decide +kernel, by decide +kernel⟩
theorem c__law_low (X : Fx K mg T) (Y : Ty K mg base) : DFn P w K T mg base 1 "_law_low" 2 m__law_low := by
  obtain ⟨fd, G⟩ := X.d__law_low
  refine dfn_of (F := F__law_low) G X.g__law_low s__law_low (G.bindsN fun _ _ _ _ _ _ us hl => match us, hl with | [_, _], _ => rfl) rfl rfl (by decide) fun cdv A outer s H E hr => ?_
  have nd : N__law_low.Nodup := s__law_low.nd
  have tk : L2N.Takes (cxOf (L2N.CX P w) P w K mg base N__law_low "_law_low" (defScope (topS 49)) (He.ga K "_law_low") cdv A outer s H E) (fun cls d _ H => E cls d H) := L2N.takes_of rfl rfl rfl rfl
  have px : Passes (L2N.CX P w) (cxOf (L2N.CX P w) P w K mg base N__law_low "_law_low" (defScope (topS 49)) (He.ga K "_law_low") cdv A outer s H E) E := L2N.passes_call tk fun _ _ _ _ h => h
  have po : PassesOwn (model P w) (cxOf (L2N.CX P w) P w K mg base N__law_low "_law_low" (defScope (topS 49)) (He.ga K "_law_low") cdv A outer s H E).A (cxOf (L2N.CX P w) P w K mg base N__law_low "_law_low" (defScope (topS 49)) (He.ga K "_law_low") cdv A outer s H E).env (cxOf (L2N.CX P w) P w K mg base N__law_low "_law_low" (defScope (topS 49)) (He.ga K "_law_low") cdv A outer s H E).xe := passes_of rfl
  have V0 : ∀ p : Pos, PE (cxOf (L2N.CX P w) P w K mg base N__law_low "_law_low" (defScope (topS 49)) (He.ga K "_law_low") cdv A outer s H E) (.Name "top" p) (rdE K T mg E (sVar 0)) := fun p => d_var 0 rfl (.inl (by kernel_rfl)) (by kernel_rfl) (by kernel_rfl)
  have V1 : ∀ p : Pos, PE (cxOf (L2N.CX P w) P w K mg base N__law_low "_law_low" (defScope (topS 49)) (He.ga K "_law_low") cdv A outer s H E) (.Name "below" p) (rdE K T mg E (sVar 1)) := fun p => d_var 1 rfl (.inl (by kernel_rfl)) (by kernel_rfl) (by kernel_rfl)
  have V2 : ∀ p : Pos, PE (cxOf (L2N.CX P w) P w K mg base N__law_low "_law_low" (defScope (topS 49)) (He.ga K "_law_low") cdv A outer s H E) (.Name "one" p) (rdE K T mg E (sVar 2)) := fun p => d_var 2 rfl (.inl (by kernel_rfl)) (by kernel_rfl) (by kernel_rfl)
  have V3 : ∀ p : Pos, PE (cxOf (L2N.CX P w) P w K mg base N__law_low "_law_low" (defScope (topS 49)) (He.ga K "_law_low") cdv A outer s H E) (.Name "other" p) (rdE K T mg E (sVar 3)) := fun p => d_var 3 rfl (.inl (by kernel_rfl)) (by kernel_rfl) (by kernel_rfl)
  have V4 : ∀ p : Pos, PE (cxOf (L2N.CX P w) P w K mg base N__law_low "_law_low" (defScope (topS 49)) (He.ga K "_law_low") cdv A outer s H E) (.Name "sign" p) (rdE K T mg E (sVar 4)) := fun p => d_var 4 rfl (.inl (by kernel_rfl)) (by kernel_rfl) (by kernel_rfl)
  exact (d_seq (d_par2 2 3 rfl nd (d_cons (d_cb call_abs cs_abs (by unfold Gl; kernel_rfl) X.f_abs boot_abs (d_cons (V0 _) d_nil)) (d_cons (d_cb call_abs cs_abs (by unfold Gl; kernel_rfl) X.f_abs boot_abs (d_cons (V1 _) d_nil)) d_nil)).pa (by rfl) rfl rfl (by decide) (by kernel_rfl) (by kernel_rfl))
 (d_seq (d_while (fuelI 3) [] po (dt_cmp op_gt os_cmp (V3 _) d_int (nomark _))
  (d_one (d_par2 2 3 rfl nd (d_cons (V3 _) (d_cons (d_op op_modN os_mod (V2 _) (V3 _)) d_nil)).pa (by rfl) rfl rfl (by decide) (by kernel_rfl) (by kernel_rfl))))
 (d_seq (d_set 4 (d_ifE (dt_cmp op_lt os_cmp (V1 _) d_int (nomark _)) (d_un un_neg us_neg d_int) d_int) nd rfl (.inl (by kernel_rfl)) (by rfl) (.inl rfl))
 (d_one (d_ret (d_tup (d_cons (d_op op_fdivG os_div (d_op op_mulA os_mul (V4 _) (V0 _)) (V2 _)) (d_cons (d_op op_fdivG os_div (d_op op_mulA os_mul (V4 _) (V1 _)) (V2 _)) d_nil))))))))
abbrev N__law_a_stand : List Str := ["deck", "size", "most", "found", "turn", "top"]
theorem s__law_a_stand : FnScope N__law_a_stand ["deck", "size", "most"] (defScope (topS 54)) := ⟨by kernel_rfl, by kernel_rfl, by kernel_rfl, by decide +kernel, by kernel_rfl, by decide +kernel, by decide +kernel⟩
theorem c__law_a_stand (X : Fx K mg T) (Y : Ty K mg base) : DFn P w K T mg base 3 "_law_a_stand" 3 m__law_a_stand := by
  obtain ⟨fd, G⟩ := X.d__law_a_stand
  refine dfn_of (F := F__law_a_stand) G X.g__law_a_stand s__law_a_stand (G.bindsN fun _ _ _ _ _ _ us hl => match us, hl with | [_, _, _], _ => rfl) rfl rfl (by decide) fun cdv A outer s H E hr => ?_
  have nd : N__law_a_stand.Nodup := s__law_a_stand.nd
  have tk : L2N.Takes (cxOf (L2N.CX P w) P w K mg base N__law_a_stand "_law_a_stand" (defScope (topS 54)) (He.ga K "_law_a_stand") cdv A outer s H E) (fun cls d _ H => E cls d H) := L2N.takes_of rfl rfl rfl rfl
  have px : Passes (L2N.CX P w) (cxOf (L2N.CX P w) P w K mg base N__law_a_stand "_law_a_stand" (defScope (topS 54)) (He.ga K "_law_a_stand") cdv A outer s H E) E := L2N.passes_call tk fun _ _ _ _ h => h
  have po : PassesOwn (model P w) (cxOf (L2N.CX P w) P w K mg base N__law_a_stand "_law_a_stand" (defScope (topS 54)) (He.ga K "_law_a_stand") cdv A outer s H E).A (cxOf (L2N.CX P w) P w K mg base N__law_a_stand "_law_a_stand" (defScope (topS 54)) (He.ga K "_law_a_stand") cdv A outer s H E).env (cxOf (L2N.CX P w) P w K mg base N__law_a_stand "_law_a_stand" (defScope (topS 54)) (He.ga K "_law_a_stand") cdv A outer s H E).xe := passes_of rfl
  have V0 : ∀ p : Pos, PE (cxOf (L2N.CX P w) P w K mg base N__law_a_stand "_law_a_stand" (defScope (topS 54)) (He.ga K "_law_a_stand") cdv A outer s H E) (.Name "deck" p) (rdE K T mg E (sVar 0)) := fun p => d_var 0 rfl (.inl (by kernel_rfl)) (by kernel_rfl) (by kernel_rfl)
  have V1 : ∀ p : Pos, PE (cxOf (L2N.CX P w) P w K mg base N__law_a_stand "_law_a_stand" (defScope (topS 54)) (He.ga K "_law_a_stand") cdv A outer s H E) (.Name "size" p) (rdE K T mg E (sVar 1)) := fun p => d_var 1 rfl (.inl (by kernel_rfl)) (by kernel_rfl) (by kernel_rfl)
  have V2 : ∀ p : Pos, PE (cxOf (L2N.CX P w) P w K mg base N__law_a_stand "_law_a_stand" (defScope (topS 54)) (He.ga K "_law_a_stand") cdv A outer s H E) (.Name "most" p) (rdE K T mg E (sVar 2)) := fun p => d_var 2 rfl (.inl (by kernel_rfl)) (by kernel_rfl) (by kernel_rfl)
  have V3 : ∀ p : Pos, PE (cxOf (L2N.CX P w) P w K mg base N__law_a_stand "_law_a_stand" (defScope (topS 54)) (He.ga K "_law_a_stand") cdv A outer s H E) (.Name "found" p) (rdE K T mg E (sVar 3)) := fun p => d_var 3 rfl (.inl (by kernel_rfl)) (by kernel_rfl) (by kernel_rfl)
  have V4 : ∀ p : Pos, PE (cxOf (L2N.CX P w) P w K mg base N__law_a_stand "_law_a_stand" (defScope (topS 54)) (He.ga K "_law_a_stand") cdv A outer s H E) (.Name "turn" p) (rdE K T mg E (sVar 4)) := fun p => d_var 4 rfl (.inl (by kernel_rfl)) (by kernel_rfl) (by kernel_rfl)
  have V5 : ∀ p : Pos, PE (cxOf (L2N.CX P w) P w K mg base N__law_a_stand "_law_a_stand" (defScope (topS 54)) (He.ga K "_law_a_stand") cdv A outer s H E) (.Name "top" p) (rdE K T mg E (sVar 5)) := fun p => d_var 5 rfl (.inl (by kernel_rfl)) (by kernel_rfl) (by kernel_rfl)
  exact (d_seq (d_new 3 (d_lstF d_nil) nd rfl (.inl (by kernel_rfl)) (by rfl) (.inl rfl))
 (d_seq (d_for (t := .nm 4) [4, 5] po rfl (di_range1 (by unfold Gl; kernel_rfl) X.f_range (d_cons (V1 _) d_nil)) (pg_name (i := 4) nd rfl (.inl (by kernel_rfl)) (.inl rfl))
  (d_seq (d_set 5 (d_op op_sub os_sub (d_call ((c__law_pick X Y).mono (by decide)) hr (by unfold Gl; kernel_rfl) px (d_cons (V0 _) (d_cons (d_op op_addA os_add (d_op op_mulA os_mul d_int (V2 _)) d_int) d_nil))) (V2 _)) nd rfl (.inl (by kernel_rfl)) (by rfl) (.inl rfl))
 (d_one (d_app 3 (d_call ((c__law_low X Y).mono (by decide)) hr (by unfold Gl; kernel_rfl) px (d_cons (V5 _) (d_cons (d_call ((c__law_one X Y).mono (by decide)) hr (by unfold Gl; kernel_rfl) px (d_cons (V0 _) (d_cons (d_lst (d_cons d_int (d_cons d_int (d_cons d_int (d_cons d_int (d_cons d_int (d_cons d_int d_nil))))))) d_nil))) d_nil))) rfl (.inl (by kernel_rfl)) (by kernel_rfl) (by kernel_rfl)))))
 (d_seal 3 (d_one (d_ret (d_cbT call_tuple_of cs_tuple (by unfold Gl; kernel_rfl) X.f_tuple boot_tuple (d_cons (V3 _) d_nil)))))))
abbrev N__law_next : List Str := ["step_so", "stand_so", "found", "row", "top", "below", "entry_so", "one"]
theorem s__law_next : FnScope N__law_next ["step_so", "stand_so"] (defScope (topS 50)) := ⟨by kernel_rfl, by kernel_rfl, by kernel_rfl, by decide +kernel, by kernel_rfl, by decide +kernel, by decide +kernel⟩
theorem c__law_next (X : Fx K mg T) (Y : Ty K mg base) : DFn P w K T mg base 2 "_law_next" 2 m__law_next := by
  obtain ⟨fd, G⟩ := X.d__law_next
  refine dfn_of (F := F__law_next) G X.g__law_next s__law_next (G.bindsN fun _ _ _ _ _ _ us hl => match us, hl with | [_, _], _ => rfl) rfl rfl (by decide) fun cdv A outer s H E hr => ?_
  have nd : N__law_next.Nodup := s__law_next.nd
  have tk : L2N.Takes (cxOf (L2N.CX P w) P w K mg base N__law_next "_law_next" (defScope (topS 50)) (He.ga K "_law_next") cdv A outer s H E) (fun cls d _ H => E cls d H) := L2N.takes_of rfl rfl rfl rfl
  have px : Passes (L2N.CX P w) (cxOf (L2N.CX P w) P w K mg base N__law_next "_law_next" (defScope (topS 50)) (He.ga K "_law_next") cdv A outer s H E) E := L2N.passes_call tk fun _ _ _ _ h => h
  have po : PassesOwn (model P w) (cxOf (L2N.CX P w) P w K mg base N__law_next "_law_next" (defScope (topS 50)) (He.ga K "_law_next") cdv A outer s H E).A (cxOf (L2N.CX P w) P w K mg base N__law_next "_law_next" (defScope (topS 50)) (He.ga K "_law_next") cdv A outer s H E).env (cxOf (L2N.CX P w) P w K mg base N__law_next "_law_next" (defScope (topS 50)) (He.ga K "_law_next") cdv A outer s H E).xe := passes_of rfl
  have V0 : ∀ p : Pos, PE (cxOf (L2N.CX P w) P w K mg base N__law_next "_law_next" (defScope (topS 50)) (He.ga K "_law_next") cdv A outer s H E) (.Name "step_so" p) (rdE K T mg E (sVar 0)) := fun p => d_var 0 rfl (.inl (by kernel_rfl)) (by kernel_rfl) (by kernel_rfl)
  have V1 : ∀ p : Pos, PE (cxOf (L2N.CX P w) P w K mg base N__law_next "_law_next" (defScope (topS 50)) (He.ga K "_law_next") cdv A outer s H E) (.Name "stand_so" p) (rdE K T mg E (sVar 1)) := fun p => d_var 1 rfl (.inl (by kernel_rfl)) (by kernel_rfl) (by kernel_rfl)
  have V2 : ∀ p : Pos, PE (cxOf (L2N.CX P w) P w K mg base N__law_next "_law_next" (defScope (topS 50)) (He.ga K "_law_next") cdv A outer s H E) (.Name "found" p) (rdE K T mg E (sVar 2)) := fun p => d_var 2 rfl (.inl (by kernel_rfl)) (by kernel_rfl) (by kernel_rfl)
  have V3 : ∀ p : Pos, PE (cxOf (L2N.CX P w) P w K mg base N__law_next "_law_next" (defScope (topS 50)) (He.ga K "_law_next") cdv A outer s H E) (.Name "row" p) (rdE K T mg E (sVar 3)) := fun p => d_var 3 rfl (.inl (by kernel_rfl)) (by kernel_rfl) (by kernel_rfl)
  have V4 : ∀ p : Pos, PE (cxOf (L2N.CX P w) P w K mg base N__law_next "_law_next" (defScope (topS 50)) (He.ga K "_law_next") cdv A outer s H E) (.Name "top" p) (rdE K T mg E (sVar 4)) := fun p => d_var 4 rfl (.inl (by kernel_rfl)) (by kernel_rfl) (by kernel_rfl)
  have V5 : ∀ p : Pos, PE (cxOf (L2N.CX P w) P w K mg base N__law_next "_law_next" (defScope (topS 50)) (He.ga K "_law_next") cdv A outer s H E) (.Name "below" p) (rdE K T mg E (sVar 5)) := fun p => d_var 5 rfl (.inl (by kernel_rfl)) (by kernel_rfl) (by kernel_rfl)
  have V6 : ∀ p : Pos, PE (cxOf (L2N.CX P w) P w K mg base N__law_next "_law_next" (defScope (topS 50)) (He.ga K "_law_next") cdv A outer s H E) (.Name "entry_so" p) (rdE K T mg E (sVar 6)) := fun p => d_var 6 rfl (.inl (by kernel_rfl)) (by kernel_rfl) (by kernel_rfl)
  have V7 : ∀ p : Pos, PE (cxOf (L2N.CX P w) P w K mg base N__law_next "_law_next" (defScope (topS 50)) (He.ga K "_law_next") cdv A outer s H E) (.Name "one" p) (rdE K T mg E (sVar 7)) := fun p => d_var 7 rfl (.inl (by kernel_rfl)) (by kernel_rfl) (by kernel_rfl)
  exact (d_seq (d_new 2 (d_lstF d_nil) nd rfl (.inl (by kernel_rfl)) (by rfl) (.inl rfl))
 (d_seq (d_for (t := .nm 3) [3, 4, 5, 6, 7] po rfl (di_seq (d_ix (V0 _) d_int (fun _ _ => rfl))) (pg_name (i := 3) nd rfl (.inl (by kernel_rfl)) (.inl rfl))
  (d_seq (d_asg (t := .tp [4, 5]) (d_tup (d_cons d_int (d_cons d_int d_nil))) (pg_tup rfl (pgs_cons (pg_name (i := 4) nd rfl (.inl (by kernel_rfl)) (.inl rfl)) (pgs_cons (pg_name (i := 5) nd rfl (.inl (by kernel_rfl)) (.inl rfl)) pgs_nil))))
 (d_seq (d_for (t := .tp [6, 7]) [6, 7] po rfl (di_zip (by unfold Gl; kernel_rfl) X.f_zip (d_cons (V3 _) (d_cons (V1 _) d_nil))) (pg_tup rfl (pgs_cons (pg_name (i := 6) nd rfl (.inl (by kernel_rfl)) (.inl rfl)) (pgs_cons (pg_name (i := 7) nd rfl (.inl (by kernel_rfl)) (.inl rfl)) pgs_nil)))
  (d_one (d_asg (t := .tp [4, 5]) (d_call ((c__law_low X Y).mono (by decide)) hr (by unfold Gl; kernel_rfl) px (d_cons (d_op op_addA os_add (d_op op_mulA os_mul (V4 _) (d_ix (V7 _) d_int (fun _ _ => rfl))) (d_op op_mulA os_mul (d_op op_mulA os_mul (V6 _) (d_ix (V7 _) d_int (fun _ _ => rfl))) (V5 _))) (d_cons (d_op op_mulA os_mul (V5 _) (d_ix (V7 _) d_int (fun _ _ => rfl))) d_nil))) (pg_tup rfl (pgs_cons (pg_name (i := 4) nd rfl (.inl (by kernel_rfl)) (.inl rfl)) (pgs_cons (pg_name (i := 5) nd rfl (.inl (by kernel_rfl)) (.inl rfl)) pgs_nil))))))
 (d_one (d_app 2 (d_call ((c__law_low X Y).mono (by decide)) hr (by unfold Gl; kernel_rfl) px (d_cons (V4 _) (d_cons (d_op op_mulA os_mul (V5 _) (d_ix (V0 _) d_int (fun _ _ => rfl))) d_nil))) rfl (.inl (by kernel_rfl)) (by kernel_rfl) (by kernel_rfl))))))
 (d_seal 2 (d_one (d_ret (d_cbT call_tuple_of cs_tuple (by unfold Gl; kernel_rfl) X.f_tuple boot_tuple (d_cons (V2 _) d_nil)))))))
abbrev N__law_after : List Str := ["step_so", "stand_so", "many", "turn"]
theorem s__law_after : FnScope N__law_after ["step_so", "stand_so", "many"] (defScope (topS 51)) := ⟨by kernel_rfl, by kernel_rfl, by kernel_rfl, by decide +kernel, by kernel_rfl, by decide +kernel, by decide +kernel⟩
theorem c__law_after (X : Fx K mg T) (Y : Ty K mg base) : DFn P w K T mg base 3 "_law_after" 3 m__law_after := by
  obtain ⟨fd, G⟩ := X.d__law_after
  refine dfn_of (F := F__law_after) G X.g__law_after s__law_after (G.bindsN fun _ _ _ _ _ _ us hl => match us, hl with | [_, _, _], _ => rfl) rfl rfl (by decide) fun cdv A outer s H E hr => ?_
  have nd : N__law_after.Nodup := s__law_after.nd
  have tk : L2N.Takes (cxOf (L2N.CX P w) P w K mg base N__law_after "_law_after" (defScope (topS 51)) (He.ga K "_law_after") cdv A outer s H E) (fun cls d _ H => E cls d H) := L2N.takes_of rfl rfl rfl rfl
  have px : Passes (L2N.CX P w) (cxOf (L2N.CX P w) P w K mg base N__law_after "_law_after" (defScope (topS 51)) (He.ga K "_law_after") cdv A outer s H E) E := L2N.passes_call tk fun _ _ _ _ h => h
  have po : PassesOwn (model P w) (cxOf (L2N.CX P w) P w K mg base N__law_after "_law_after" (defScope (topS 51)) (He.ga K "_law_after") cdv A outer s H E).A (cxOf (L2N.CX P w) P w K mg base N__law_after "_law_after" (defScope (topS 51)) (He.ga K "_law_after") cdv A outer s H E).env (cxOf (L2N.CX P w) P w K mg base N__law_after "_law_after" (defScope (topS 51)) (He.ga K "_law_after") cdv A outer s H E).xe := passes_of rfl
  have V0 : ∀ p : Pos, PE (cxOf (L2N.CX P w) P w K mg base N__law_after "_law_after" (defScope (topS 51)) (He.ga K "_law_after") cdv A outer s H E) (.Name "step_so" p) (rdE K T mg E (sVar 0)) := fun p => d_var 0 rfl (.inl (by kernel_rfl)) (by kernel_rfl) (by kernel_rfl)
  have V1 : ∀ p : Pos, PE (cxOf (L2N.CX P w) P w K mg base N__law_after "_law_after" (defScope (topS 51)) (He.ga K "_law_after") cdv A outer s H E) (.Name "stand_so" p) (rdE K T mg E (sVar 1)) := fun p => d_var 1 rfl (.inl (by kernel_rfl)) (by kernel_rfl) (by kernel_rfl)
  have V2 : ∀ p : Pos, PE (cxOf (L2N.CX P w) P w K mg base N__law_after "_law_after" (defScope (topS 51)) (He.ga K "_law_after") cdv A outer s H E) (.Name "many" p) (rdE K T mg E (sVar 2)) := fun p => d_var 2 rfl (.inl (by kernel_rfl)) (by kernel_rfl) (by kernel_rfl)
  have V3 : ∀ p : Pos, PE (cxOf (L2N.CX P w) P w K mg base N__law_after "_law_after" (defScope (topS 51)) (He.ga K "_law_after") cdv A outer s H E) (.Name "turn" p) (rdE K T mg E (sVar 3)) := fun p => d_var 3 rfl (.inl (by kernel_rfl)) (by kernel_rfl) (by kernel_rfl)
  exact (d_seq (d_for (t := .nm 3) [3] po rfl (di_range1 (by unfold Gl; kernel_rfl) X.f_range (d_cons (V2 _) d_nil)) (pg_name (i := 3) nd rfl (.inl (by kernel_rfl)) (.inl rfl))
  (d_one (d_set 1 (d_call ((c__law_next X Y).mono (by decide)) hr (by unfold Gl; kernel_rfl) px (d_cons (V0 _) (d_cons (V1 _) d_nil))) nd rfl (.inl (by kernel_rfl)) (by rfl) (.inl rfl))))
 (d_one (d_ret (V1 _))))
abbrev N__law_a_plane : List Str := ["deck", "step_so", "start_so", "size", "lead", "turn", "stand_so", "top", "below", "many", "one"]
theorem s__law_a_plane : FnScope N__law_a_plane ["deck", "step_so", "start_so"] (defScope (topS 56)) := ⟨by kernel_rfl, by kernel_rfl, by kernel_rfl, by decide +kernel, by kernel_rfl, by decide +kernel, by decide +kernel⟩
theorem c__law_a_plane (X : Fx K mg T) (Y : Ty K mg base) : DFn P w K T mg base 4 "_law_a_plane" 3 m__law_a_plane := by
  obtain ⟨fd, G⟩ := X.d__law_a_plane
  refine dfn_of (F := F__law_a_plane) G X.g__law_a_plane s__law_a_plane (G.bindsN fun _ _ _ _ _ _ us hl => match us, hl with | [_, _, _], _ => rfl) rfl rfl (by decide) fun cdv A outer s H E hr => ?_
  have nd : N__law_a_plane.Nodup := s__law_a_plane.nd
  have tk : L2N.Takes (cxOf (L2N.CX P w) P w K mg base N__law_a_plane "_law_a_plane" (defScope (topS 56)) (He.ga K "_law_a_plane") cdv A outer s H E) (fun cls d _ H => E cls d H) := L2N.takes_of rfl rfl rfl rfl
  have px : Passes (L2N.CX P w) (cxOf (L2N.CX P w) P w K mg base N__law_a_plane "_law_a_plane" (defScope (topS 56)) (He.ga K "_law_a_plane") cdv A outer s H E) E := L2N.passes_call tk fun _ _ _ _ h => h
  have po : PassesOwn (model P w) (cxOf (L2N.CX P w) P w K mg base N__law_a_plane "_law_a_plane" (defScope (topS 56)) (He.ga K "_law_a_plane") cdv A outer s H E).A (cxOf (L2N.CX P w) P w K mg base N__law_a_plane "_law_a_plane" (defScope (topS 56)) (He.ga K "_law_a_plane") cdv A outer s H E).env (cxOf (L2N.CX P w) P w K mg base N__law_a_plane "_law_a_plane" (defScope (topS 56)) (He.ga K "_law_a_plane") cdv A outer s H E).xe := passes_of rfl
  have V0 : ∀ p : Pos, PE (cxOf (L2N.CX P w) P w K mg base N__law_a_plane "_law_a_plane" (defScope (topS 56)) (He.ga K "_law_a_plane") cdv A outer s H E) (.Name "deck" p) (rdE K T mg E (sVar 0)) := fun p => d_var 0 rfl (.inr (.inl (by kernel_rfl))) (by kernel_rfl) (by kernel_rfl)
  have V1 : ∀ p : Pos, PE (cxOf (L2N.CX P w) P w K mg base N__law_a_plane "_law_a_plane" (defScope (topS 56)) (He.ga K "_law_a_plane") cdv A outer s H E) (.Name "step_so" p) (rdE K T mg E (sVar 1)) := fun p => d_var 1 rfl (.inl (by kernel_rfl)) (by kernel_rfl) (by kernel_rfl)
  have V2 : ∀ p : Pos, PE (cxOf (L2N.CX P w) P w K mg base N__law_a_plane "_law_a_plane" (defScope (topS 56)) (He.ga K "_law_a_plane") cdv A outer s H E) (.Name "start_so" p) (rdE K T mg E (sVar 2)) := fun p => d_var 2 rfl (.inl (by kernel_rfl)) (by kernel_rfl) (by kernel_rfl)
  have V3 : ∀ p : Pos, PE (cxOf (L2N.CX P w) P w K mg base N__law_a_plane "_law_a_plane" (defScope (topS 56)) (He.ga K "_law_a_plane") cdv A outer s H E) (.Name "size" p) (rdE K T mg E (sVar 3)) := fun p => d_var 3 rfl (.inl (by kernel_rfl)) (by kernel_rfl) (by kernel_rfl)
  have V4 : ∀ p : Pos, PE (cxOf (L2N.CX P w) P w K mg base N__law_a_plane "_law_a_plane" (defScope (topS 56)) (He.ga K "_law_a_plane") cdv A outer s H E) (.Name "lead" p) (rdE K T mg E (sVar 4)) := fun p => d_var 4 rfl (.inl (by kernel_rfl)) (by kernel_rfl) (by kernel_rfl)
  have V6 : ∀ p : Pos, PE (cxOf (L2N.CX P w) P w K mg base N__law_a_plane "_law_a_plane" (defScope (topS 56)) (He.ga K "_law_a_plane") cdv A outer s H E) (.Name "stand_so" p) (rdE K T mg E (sVar 6)) := fun p => d_var 6 rfl (.inl (by kernel_rfl)) (by kernel_rfl) (by kernel_rfl)
  have V7 : ∀ p : Pos, PE (cxOf (L2N.CX P w) P w K mg base N__law_a_plane "_law_a_plane" (defScope (topS 56)) (He.ga K "_law_a_plane") cdv A outer s H E) (.Name "top" p) (rdE K T mg E (sVar 7)) := fun p => d_var 7 rfl (.inl (by kernel_rfl)) (by kernel_rfl) (by kernel_rfl)
  have V8 : ∀ p : Pos, PE (cxOf (L2N.CX P w) P w K mg base N__law_a_plane "_law_a_plane" (defScope (topS 56)) (He.ga K "_law_a_plane") cdv A outer s H E) (.Name "below" p) (rdE K T mg E (sVar 8)) := fun p => d_var 8 rfl (.inr (.inl (by kernel_rfl))) (by kernel_rfl) (by kernel_rfl)
  have V9 : ∀ p : Pos, PE (cxOf (L2N.CX P w) P w K mg base N__law_a_plane "_law_a_plane" (defScope (topS 56)) (He.ga K "_law_a_plane") cdv A outer s H E) (.Name "many" p) (rdE K T mg E (sVar 9)) := fun p => d_var 9 rfl (.inl (by kernel_rfl)) (by kernel_rfl) (by kernel_rfl)
  have V10 : ∀ p : Pos, PE (cxOf (L2N.CX P w) P w K mg base N__law_a_plane "_law_a_plane" (defScope (topS 56)) (He.ga K "_law_a_plane") cdv A outer s H E) (.Name "one" p) (rdE K T mg E (sVar 10)) := fun p => d_var 10 rfl (.inl (by kernel_rfl)) (by kernel_rfl) (by kernel_rfl)
  exact (d_seq (d_set 3 (d_cb cr_len cs_len (by unfold Gl; kernel_rfl) X.f_len boot_len (d_cons (V2 _) d_nil)) nd rfl (.inl (by kernel_rfl)) (by rfl) (.inl rfl))
 (d_seq (d_set 4 (d_cbT call_tuple_of cs_tuple (by unfold Gl; kernel_rfl) X.f_tuple boot_tuple (d_cons (d_comp (t := .nm 5) [("turn", 5)] rfl nd (di_range1 (by unfold Gl; kernel_rfl) X.f_range (d_cons (V3 _) d_nil)) (blkOk_by (own := [("turn", 5)]) (N := N__law_a_plane) (by kernel_rfl)) (fun _ _ _ _ _ => (pg_name (i := 5) nd rfl (.inl (by kernel_rfl)) (.inr (by kernel_rfl)))) (fun _ _ _ _ _ => d_ts0) (fun _ _ _ _ _ => (d_op op_sub os_sub (d_call ((c__law_pick X Y).mono (by decide)) hr (by unfold Gl; kernel_rfl) passL (d_cons (d_var 0 rfl (.inr (.inl (by kernel_rfl))) (by kernel_rfl) (by kernel_rfl)) (d_cons d_int d_nil))) d_int))) d_nil)) nd rfl (.inl (by kernel_rfl)) (by rfl) (.inl rfl))
 (d_seq (d_if (dt_cmp (op_eqD hr.units) os_eq (d_call ((c__law_pick X Y).mono (by decide)) hr (by unfold Gl; kernel_rfl) px (d_cons (V0 _) (d_cons d_int d_nil))) d_int (nomark _)) (d_one (d_ret (d_op op_addA os_add (d_op op_mulA os_mul (d_tup (d_cons d_int d_nil)) (V3 _)) (d_tup (d_cons (d_call ((c__law_pick X Y).mono (by decide)) hr (by unfold Gl; kernel_rfl) px (d_cons (V0 _) (d_cons d_int d_nil))) d_nil))))) d_skip)
 (d_seq (d_set 6 (d_call ((c__law_after X Y).mono (by decide)) hr (by unfold Gl; kernel_rfl) px (d_cons (V1 _) (d_cons (V2 _) (d_cons (d_call ((c__law_pick X Y).mono (by decide)) hr (by unfold Gl; kernel_rfl) px (d_cons (V0 _) (d_cons d_int d_nil))) d_nil)))) nd rfl (.inl (by kernel_rfl)) (by rfl) (.inl rfl))
 (d_seq (d_asg (t := .tp [7, 8]) (d_tup (d_cons d_int (d_cons d_int d_nil))) (pg_tup rfl (pgs_cons (pg_name (i := 7) nd rfl (.inl (by kernel_rfl)) (.inl rfl)) (pgs_cons (pg_name (i := 8) nd rfl (.inr (by kernel_rfl)) (.inl rfl)) pgs_nil))))
 (d_seq (d_for (t := .tp [9, 10]) [9, 10] po rfl (di_zip (by unfold Gl; kernel_rfl) X.f_zip (d_cons (V4 _) (d_cons (V6 _) d_nil))) (pg_tup rfl (pgs_cons (pg_name (i := 9) nd rfl (.inl (by kernel_rfl)) (.inl rfl)) (pgs_cons (pg_name (i := 10) nd rfl (.inl (by kernel_rfl)) (.inl rfl)) pgs_nil)))
  (d_one (d_asg (t := .tp [7, 8]) (d_call ((c__law_low X Y).mono (by decide)) hr (by unfold Gl; kernel_rfl) px (d_cons (d_op op_addA os_add (d_op op_mulA os_mul (V7 _) (d_ix (V10 _) d_int (fun _ _ => rfl))) (d_op op_mulA os_mul (d_op op_mulA os_mul (V9 _) (d_ix (V10 _) d_int (fun _ _ => rfl))) (V8 _))) (d_cons (d_op op_mulA os_mul (V8 _) (d_ix (V10 _) d_int (fun _ _ => rfl))) d_nil))) (pg_tup rfl (pgs_cons (pg_name (i := 7) nd rfl (.inl (by kernel_rfl)) (.inl rfl)) (pgs_cons (pg_name (i := 8) nd rfl (.inr (by kernel_rfl)) (.inl rfl)) pgs_nil))))))
 (d_seq (d_if (PW.pt (d_orB (dt_cmp op_gt os_cmp (d_cb call_abs cs_abs (by unfold Gl; kernel_rfl) X.f_abs boot_abs (d_cons (V7 _) d_nil)) (d_op op_pow os_pow d_int d_int) (nomark _)) (d_or1 (dt_cmp op_gt os_cmp (V8 _) (d_op op_pow os_pow d_int d_int) (nomark _))))) (d_one (d_ret (d_op op_addA os_add (V4 _) (d_tup (d_cons d_int d_nil))))) d_skip)
 (d_one (d_ret (d_op op_addA os_add (d_cbT call_tuple_of cs_tuple (by unfold Gl; kernel_rfl) X.f_tuple boot_tuple (d_cons (d_comp (t := .nm 9) [("many", 9)] rfl nd (di_seq (V4 _)) (blkOk_by (own := [("many", 9)]) (N := N__law_a_plane) (by kernel_rfl)) (fun _ _ _ _ _ => (pg_name (i := 9) nd rfl (.inl (by kernel_rfl)) (.inr (by kernel_rfl)))) (fun _ _ _ _ _ => d_ts0) (fun _ _ _ _ _ => (d_op op_mulA os_mul (d_var 9 rfl (.inl (by kernel_rfl)) (by kernel_rfl) (by kernel_rfl)) (d_var 8 rfl (.inr (.inl (by kernel_rfl))) (by kernel_rfl) (by kernel_rfl))))) d_nil)) (d_tup (d_cons (V7 _) d_nil))))))))))))
abbrev N__law_is_on : List Str := ["stand_so", "plane_so", "top", "below", "many", "one"]
theorem s__law_is_on : FnScope N__law_is_on ["stand_so", "plane_so"] (defScope (topS 55)) := ⟨by kernel_rfl, by kernel_rfl, by kernel_rfl, by decide +kernel, by kernel_rfl, by decide +kernel, by decide +kernel⟩
theorem c__law_is_on (X : Fx K mg T) (Y : Ty K mg base) : DFn P w K T mg base 1 "_law_is_on" 2 m__law_is_on := by
  obtain ⟨fd, G⟩ := X.d__law_is_on
  refine dfn_of (F := F__law_is_on) G X.g__law_is_on s__law_is_on (G.bindsN fun _ _ _ _ _ _ us hl => match us, hl with | [_, _], _ => rfl) rfl rfl (by decide) fun cdv A outer s H E hr => ?_
  have nd : N__law_is_on.Nodup := s__law_is_on.nd
  have tk : L2N.Takes (cxOf (L2N.CX P w) P w K mg base N__law_is_on "_law_is_on" (defScope (topS 55)) (He.ga K "_law_is_on") cdv A outer s H E) (fun cls d _ H => E cls d H) := L2N.takes_of rfl rfl rfl rfl
  have px : Passes (L2N.CX P w) (cxOf (L2N.CX P w) P w K mg base N__law_is_on "_law_is_on" (defScope (topS 55)) (He.ga K "_law_is_on") cdv A outer s H E) E := L2N.passes_call tk fun _ _ _ _ h => h
  have po : PassesOwn (model P w) (cxOf (L2N.CX P w) P w K mg base N__law_is_on "_law_is_on" (defScope (topS 55)) (He.ga K "_law_is_on") cdv A outer s H E).A (cxOf (L2N.CX P w) P w K mg base N__law_is_on "_law_is_on" (defScope (topS 55)) (He.ga K "_law_is_on") cdv A outer s H E).env (cxOf (L2N.CX P w) P w K mg base N__law_is_on "_law_is_on" (defScope (topS 55)) (He.ga K "_law_is_on") cdv A outer s H E).xe := passes_of rfl
  have V0 : ∀ p : Pos, PE (cxOf (L2N.CX P w) P w K mg base N__law_is_on "_law_is_on" (defScope (topS 55)) (He.ga K "_law_is_on") cdv A outer s H E) (.Name "stand_so" p) (rdE K T mg E (sVar 0)) := fun p => d_var 0 rfl (.inl (by kernel_rfl)) (by kernel_rfl) (by kernel_rfl)
  have V1 : ∀ p : Pos, PE (cxOf (L2N.CX P w) P w K mg base N__law_is_on "_law_is_on" (defScope (topS 55)) (He.ga K "_law_is_on") cdv A outer s H E) (.Name "plane_so" p) (rdE K T mg E (sVar 1)) := fun p => d_var 1 rfl (.inl (by kernel_rfl)) (by kernel_rfl) (by kernel_rfl)
  have V2 : ∀ p : Pos, PE (cxOf (L2N.CX P w) P w K mg base N__law_is_on "_law_is_on" (defScope (topS 55)) (He.ga K "_law_is_on") cdv A outer s H E) (.Name "top" p) (rdE K T mg E (sVar 2)) := fun p => d_var 2 rfl (.inl (by kernel_rfl)) (by kernel_rfl) (by kernel_rfl)
  have V3 : ∀ p : Pos, PE (cxOf (L2N.CX P w) P w K mg base N__law_is_on "_law_is_on" (defScope (topS 55)) (He.ga K "_law_is_on") cdv A outer s H E) (.Name "below" p) (rdE K T mg E (sVar 3)) := fun p => d_var 3 rfl (.inl (by kernel_rfl)) (by kernel_rfl) (by kernel_rfl)
  have V4 : ∀ p : Pos, PE (cxOf (L2N.CX P w) P w K mg base N__law_is_on "_law_is_on" (defScope (topS 55)) (He.ga K "_law_is_on") cdv A outer s H E) (.Name "many" p) (rdE K T mg E (sVar 4)) := fun p => d_var 4 rfl (.inl (by kernel_rfl)) (by kernel_rfl) (by kernel_rfl)
  have V5 : ∀ p : Pos, PE (cxOf (L2N.CX P w) P w K mg base N__law_is_on "_law_is_on" (defScope (topS 55)) (He.ga K "_law_is_on") cdv A outer s H E) (.Name "one" p) (rdE K T mg E (sVar 5)) := fun p => d_var 5 rfl (.inl (by kernel_rfl)) (by kernel_rfl) (by kernel_rfl)
  exact (d_seq (d_par2 2 3 rfl nd (d_cons (d_un un_neg us_neg (d_ix (V1 _) (d_un un_neg us_neg d_int) (fun _ _ => rfl))) (d_cons d_int d_nil)).pa (by rfl) rfl rfl (by decide) (by kernel_rfl) (by kernel_rfl))
 (d_seq (d_for (t := .tp [4, 5]) [4, 5] po rfl (di_zip (by unfold Gl; kernel_rfl) X.f_zip (d_cons (V1 _) (d_cons (V0 _) d_nil))) (pg_tup rfl (pgs_cons (pg_name (i := 4) nd rfl (.inl (by kernel_rfl)) (.inl rfl)) (pgs_cons (pg_name (i := 5) nd rfl (.inl (by kernel_rfl)) (.inl rfl)) pgs_nil)))
  (d_one (d_par2 2 3 rfl nd (d_cons (d_op op_addA os_add (d_op op_mulA os_mul (V2 _) (d_ix (V5 _) d_int (fun _ _ => rfl))) (d_op op_mulA os_mul (d_op op_mulA os_mul (V4 _) (d_ix (V5 _) d_int (fun _ _ => rfl))) (V3 _))) (d_cons (d_op op_mulA os_mul (V3 _) (d_ix (V5 _) d_int (fun _ _ => rfl))) d_nil)).pa (by rfl) rfl rfl (by decide) (by kernel_rfl) (by kernel_rfl))))
 (d_one (d_ret (d_cmp (op_eqD hr.units) os_eq (V2 _) d_int (nomark _))))))
abbrev N__law_sort : List Str := ["thing"]
theorem s__law_sort : FnScope N__law_sort ["thing"] (defScope (topS 43)) := ⟨by kernel_rfl, by kernel_rfl, by kernel_rfl, by decide +kernel, by kernel_rfl, by decide +kernel, by decide +kernel⟩
theorem c__law_sort (X : Fx K mg T) (Y : Ty K mg base) : DFn P w K T mg base 1 "_law_sort" 1 m__law_sort := by
  obtain ⟨fd, G⟩ := X.d__law_sort
  refine dfn_of (F := F__law_sort) G X.g__law_sort s__law_sort (G.bindsN fun _ _ _ _ _ _ us hl => match us, hl with | [_], _ => rfl) rfl rfl (by decide) fun cdv A outer s H E hr => ?_
  have nd : N__law_sort.Nodup := s__law_sort.nd
  have tk : L2N.Takes (cxOf (L2N.CX P w) P w K mg base N__law_sort "_law_sort" (defScope (topS 43)) (He.ga K "_law_sort") cdv A outer s H E) (fun cls d _ H => E cls d H) := L2N.takes_of rfl rfl rfl rfl
  have px : Passes (L2N.CX P w) (cxOf (L2N.CX P w) P w K mg base N__law_sort "_law_sort" (defScope (topS 43)) (He.ga K "_law_sort") cdv A outer s H E) E := L2N.passes_call tk fun _ _ _ _ h => h
  have po : PassesOwn (model P w) (cxOf (L2N.CX P w) P w K mg base N__law_sort "_law_sort" (defScope (topS 43)) (He.ga K "_law_sort") cdv A outer s H E).A (cxOf (L2N.CX P w) P w K mg base N__law_sort "_law_sort" (defScope (topS 43)) (He.ga K "_law_sort") cdv A outer s H E).env (cxOf (L2N.CX P w) P w K mg base N__law_sort "_law_sort" (defScope (topS 43)) (He.ga K "_law_sort") cdv A outer s H E).xe := passes_of rfl
  have V0 : ∀ p : Pos, PE (cxOf (L2N.CX P w) P w K mg base N__law_sort "_law_sort" (defScope (topS 43)) (He.ga K "_law_sort") cdv A outer s H E) (.Name "thing" p) (rdE K T mg E (sVar 0)) := fun p => d_var 0 rfl (.inl (by kernel_rfl)) (by kernel_rfl) (by kernel_rfl)
  exact (d_seq (d_if (dt_val (d_isi isK_bool (by unfold Gl; kernel_rfl) X.f_isinstance (by unfold Gl; kernel_rfl) X.f_bool boot_bool (V0 _))) (d_one (d_ret d_int)) d_skip)
 (d_seq (d_if (dt_val (d_isi isK_int (by unfold Gl; kernel_rfl) X.f_isinstance (by unfold Gl; kernel_rfl) X.f_int boot_int (V0 _))) (d_one (d_ret d_int)) d_skip)
 (d_seq (d_if (dt_val (d_isi isK_str (by unfold Gl; kernel_rfl) X.f_isinstance (by unfold Gl; kernel_rfl) X.f_str boot_str (V0 _))) (d_one (d_ret d_int)) d_skip)
 (d_seq (d_if (dt_val (d_isi isK_list (by unfold Gl; kernel_rfl) X.f_isinstance (by unfold Gl; kernel_rfl) X.f_list boot_list (V0 _))) (d_one (d_ret d_int)) d_skip)
 (d_one (d_ret (d_ifE (dt_val (d_isi isK_tuple (by unfold Gl; kernel_rfl) X.f_isinstance (by unfold Gl; kernel_rfl) X.f_tuple boot_tuple (V0 _))) d_int d_int)))))))
abbrev N__law_same : List Str := ["told", "due", "k", "part"]
theorem s__law_same : FnScope N__law_same ["told", "due"] (defScope (topS 44)) := ⟨by kernel_rfl, by kernel_rfl, by kernel_rfl, by decide +kernel, by kernel_rfl, by decide +kernel, by decide +kernel⟩
theorem c0__law_same (X : Fx K mg T) (Y : Ty K mg base) (j : Nat) : DFn P w K T mg base (j + 1) "_law_same" 2 (m__law_same j) := by
  induction j with
  | zero =>
    obtain ⟨fd, G⟩ := X.d__law_same
    exact dfn_bad G X.g__law_same (G.bindsN (ps := ["told", "due"]) fun _ _ _ _ _ _ us hl => match us, hl with | [_, _], _ => rfl) rfl
  | succ j ih =>
  obtain ⟨fd, G⟩ := X.d__law_same
  have e : j + 1 + 1 = (j + 1) + 1 := by omega
  rw [e]
  refine dfn_of (F := F__law_same (m__law_same j)) G X.g__law_same s__law_same (G.bindsN fun _ _ _ _ _ _ us hl => match us, hl with | [_, _], _ => rfl) rfl rfl (by decide) fun cdv A outer s H E hr => ?_
  have nd : N__law_same.Nodup := s__law_same.nd
  have tk : L2N.Takes (cxOf (L2N.CX P w) P w K mg base N__law_same "_law_same" (defScope (topS 44)) (He.ga K "_law_same") cdv A outer s H E) (fun cls d _ H => E cls d H) := L2N.takes_of rfl rfl rfl rfl
  have px : Passes (L2N.CX P w) (cxOf (L2N.CX P w) P w K mg base N__law_same "_law_same" (defScope (topS 44)) (He.ga K "_law_same") cdv A outer s H E) E := L2N.passes_call tk fun _ _ _ _ h => h
  have po : PassesOwn (model P w) (cxOf (L2N.CX P w) P w K mg base N__law_same "_law_same" (defScope (topS 44)) (He.ga K "_law_same") cdv A outer s H E).A (cxOf (L2N.CX P w) P w K mg base N__law_same "_law_same" (defScope (topS 44)) (He.ga K "_law_same") cdv A outer s H E).env (cxOf (L2N.CX P w) P w K mg base N__law_same "_law_same" (defScope (topS 44)) (He.ga K "_law_same") cdv A outer s H E).xe := passes_of rfl
  have V0 : ∀ p : Pos, PE (cxOf (L2N.CX P w) P w K mg base N__law_same "_law_same" (defScope (topS 44)) (He.ga K "_law_same") cdv A outer s H E) (.Name "told" p) (rdE K T mg E (sVar 0)) := fun p => d_var 0 rfl (.inl (by kernel_rfl)) (by kernel_rfl) (by kernel_rfl)
  have V1 : ∀ p : Pos, PE (cxOf (L2N.CX P w) P w K mg base N__law_same "_law_same" (defScope (topS 44)) (He.ga K "_law_same") cdv A outer s H E) (.Name "due" p) (rdE K T mg E (sVar 1)) := fun p => d_var 1 rfl (.inr (.inl (by kernel_rfl))) (by kernel_rfl) (by kernel_rfl)
  exact (d_seq (d_if (dt_cmp (op_neD hr.units) os_ne (d_call ((c__law_sort X Y).mono (by omega)) hr (by unfold Gl; kernel_rfl) px (d_cons (V0 _) d_nil)) (d_call ((c__law_sort X Y).mono (by omega)) hr (by unfold Gl; kernel_rfl) px (d_cons (V1 _) d_nil)) (nomark _)) (d_one (d_ret d_bl)) d_skip)
 (d_seq (d_if (PW.pt (d_andB (dt_cmp op_gt os_cmp (d_call ((c__law_sort X Y).mono (by omega)) hr (by unfold Gl; kernel_rfl) px (d_cons (V0 _) d_nil)) d_int (nomark _)) (d_and1 (dt_cmp op_lt os_cmp (d_call ((c__law_sort X Y).mono (by omega)) hr (by unfold Gl; kernel_rfl) px (d_cons (V0 _) d_nil)) d_int (nomark _))))) (d_seq (d_if (dt_cmp (op_neD hr.units) os_ne (d_cb cr_len cs_len (by unfold Gl; kernel_rfl) X.f_len boot_len (d_cons (V0 _) d_nil)) (d_cb cr_len cs_len (by unfold Gl; kernel_rfl) X.f_len boot_len (d_cons (V1 _) d_nil)) (nomark _)) (d_one (d_ret d_bl)) d_skip)
 (d_one (d_ret (d_cmp (op_eqD hr.units) os_eq (d_comp (t := .tp [2, 3]) [("k", 2), ("part", 3)] rfl nd (di_enum (by unfold Gl; kernel_rfl) X.f_enumerate (d_cons (V0 _) d_nil)) (blkOk_by (own := [("k", 2), ("part", 3)]) (N := N__law_same) (by kernel_rfl)) (fun _ _ _ _ _ => (pg_tup rfl (pgs_cons (pg_name (i := 2) nd rfl (.inl (by kernel_rfl)) (.inr (by kernel_rfl))) (pgs_cons (pg_name (i := 3) nd rfl (.inl (by kernel_rfl)) (.inr (by kernel_rfl))) pgs_nil)))) (fun _ _ _ _ _ => (d_ts1 (dt_not (dt_val (d_call (ih) hr (by unfold Gl; kernel_rfl) passL (d_cons (d_var 3 rfl (.inl (by kernel_rfl)) (by kernel_rfl) (by kernel_rfl)) (d_cons (d_ix (d_var 1 rfl (.inr (.inl (by kernel_rfl))) (by kernel_rfl) (by kernel_rfl)) (d_var 2 rfl (.inl (by kernel_rfl)) (by kernel_rfl) (by kernel_rfl)) (fun _ _ => rfl)) d_nil))))))) (fun _ _ _ _ _ => (d_var 2 rfl (.inl (by kernel_rfl)) (by kernel_rfl) (by kernel_rfl)))) (d_lst d_nil) (nomark _))))) d_skip)
 (d_one (d_ret (d_cmp (op_eqD hr.units) os_eq (V0 _) (V1 _) (nomark _))))))
theorem c__law_same (X : Fx K mg T) (Y : Ty K mg base) : DFn P w K T mg base 10 "_law_same" 2 (m__law_same 9) := c0__law_same X Y 9
abbrev N_is_within : List Str := ["value", "low", "high"]
theorem s_is_within : FnScope N_is_within ["value", "low", "high"] (defScope (topS 22)) := ⟨by kernel_rfl, by kernel_rfl, by kernel_rfl, by decide +kernel, by kernel_rfl, by decide +kernel, by decide +kernel⟩
theorem c_is_within (X : Fx K mg T) (Y : Ty K mg base) : DFn P w K T mg base 1 "is_within" 3 m_is_within := by
  obtain ⟨fd, G⟩ := X.d_is_within
  refine dfn_of (F := F_is_within) G X.g_is_within s_is_within (G.bindsN fun _ _ _ _ _ _ us hl => match us, hl with | [_, _, _], _ => rfl) rfl rfl (by decide) fun cdv A outer s H E hr => ?_
  have nd : N_is_within.Nodup := s_is_within.nd
  have tk : L2N.Takes (cxOf (L2N.CX P w) P w K mg base N_is_within "is_within" (defScope (topS 22)) (He.ga K "is_within") cdv A outer s H E) (fun cls d _ H => E cls d H) := L2N.takes_of rfl rfl rfl rfl
  have px : Passes (L2N.CX P w) (cxOf (L2N.CX P w) P w K mg base N_is_within "is_within" (defScope (topS 22)) (He.ga K "is_within") cdv A outer s H E) E := L2N.passes_call tk fun _ _ _ _ h => h
  have po : PassesOwn (model P w) (cxOf (L2N.CX P w) P w K mg base N_is_within "is_within" (defScope (topS 22)) (He.ga K "is_within") cdv A outer s H E).A (cxOf (L2N.CX P w) P w K mg base N_is_within "is_within" (defScope (topS 22)) (He.ga K "is_within") cdv A outer s H E).env (cxOf (L2N.CX P w) P w K mg base N_is_within "is_within" (defScope (topS 22)) (He.ga K "is_within") cdv A outer s H E).xe := passes_of rfl
  have V0 : ∀ p : Pos, PE (cxOf (L2N.CX P w) P w K mg base N_is_within "is_within" (defScope (topS 22)) (He.ga K "is_within") cdv A outer s H E) (.Name "value" p) (rdE K T mg E (sVar 0)) := fun p => d_var 0 rfl (.inl (by kernel_rfl)) (by kernel_rfl) (by kernel_rfl)
  have V1 : ∀ p : Pos, PE (cxOf (L2N.CX P w) P w K mg base N_is_within "is_within" (defScope (topS 22)) (He.ga K "is_within") cdv A outer s H E) (.Name "low" p) (rdE K T mg E (sVar 1)) := fun p => d_var 1 rfl (.inl (by kernel_rfl)) (by kernel_rfl) (by kernel_rfl)
  have V2 : ∀ p : Pos, PE (cxOf (L2N.CX P w) P w K mg base N_is_within "is_within" (defScope (topS 22)) (He.ga K "is_within") cdv A outer s H E) (.Name "high" p) (rdE K T mg E (sVar 2)) := fun p => d_var 2 rfl (.inl (by kernel_rfl)) (by kernel_rfl) (by kernel_rfl)
  exact (d_one (d_ret (d_andV (d_isi isK_int (by unfold Gl; kernel_rfl) X.f_isinstance (by unfold Gl; kernel_rfl) X.f_int boot_int (V0 _)) (d_andV (d_notV (d_isi isK_bool (by unfold Gl; kernel_rfl) X.f_isinstance (by unfold Gl; kernel_rfl) X.f_bool boot_bool (V0 _))) (d_one1 (d_chain op_le os_cmp op_le os_cmp (V1 _) (V0 _) (V2 _)))))))
abbrev N_is_row : List Str := ["value", "size", "most", "one"]
theorem s_is_row : FnScope N_is_row ["value", "size", "most"] (defScope (topS 23)) := ⟨by kernel_rfl, by kernel_rfl, by kernel_rfl, by decide +kernel, by kernel_rfl, by decide +kernel, by decide +kernel⟩
theorem c_is_row (X : Fx K mg T) (Y : Ty K mg base) : DFn P w K T mg base 2 "is_row" 3 m_is_row := by
  obtain ⟨fd, G⟩ := X.d_is_row
  refine dfn_of (F := F_is_row) G X.g_is_row s_is_row (G.bindsN fun _ _ _ _ _ _ us hl => match us, hl with | [_, _, _], _ => rfl) rfl rfl (by decide) fun cdv A outer s H E hr => ?_
  have nd : N_is_row.Nodup := s_is_row.nd
  have tk : L2N.Takes (cxOf (L2N.CX P w) P w K mg base N_is_row "is_row" (defScope (topS 23)) (He.ga K "is_row") cdv A outer s H E) (fun cls d _ H => E cls d H) := L2N.takes_of rfl rfl rfl rfl
  have px : Passes (L2N.CX P w) (cxOf (L2N.CX P w) P w K mg base N_is_row "is_row" (defScope (topS 23)) (He.ga K "is_row") cdv A outer s H E) E := L2N.passes_call tk fun _ _ _ _ h => h
  have po : PassesOwn (model P w) (cxOf (L2N.CX P w) P w K mg base N_is_row "is_row" (defScope (topS 23)) (He.ga K "is_row") cdv A outer s H E).A (cxOf (L2N.CX P w) P w K mg base N_is_row "is_row" (defScope (topS 23)) (He.ga K "is_row") cdv A outer s H E).env (cxOf (L2N.CX P w) P w K mg base N_is_row "is_row" (defScope (topS 23)) (He.ga K "is_row") cdv A outer s H E).xe := passes_of rfl
  have V0 : ∀ p : Pos, PE (cxOf (L2N.CX P w) P w K mg base N_is_row "is_row" (defScope (topS 23)) (He.ga K "is_row") cdv A outer s H E) (.Name "value" p) (rdE K T mg E (sVar 0)) := fun p => d_var 0 rfl (.inl (by kernel_rfl)) (by kernel_rfl) (by kernel_rfl)
  have V1 : ∀ p : Pos, PE (cxOf (L2N.CX P w) P w K mg base N_is_row "is_row" (defScope (topS 23)) (He.ga K "is_row") cdv A outer s H E) (.Name "size" p) (rdE K T mg E (sVar 1)) := fun p => d_var 1 rfl (.inl (by kernel_rfl)) (by kernel_rfl) (by kernel_rfl)
  have V2 : ∀ p : Pos, PE (cxOf (L2N.CX P w) P w K mg base N_is_row "is_row" (defScope (topS 23)) (He.ga K "is_row") cdv A outer s H E) (.Name "most" p) (rdE K T mg E (sVar 2)) := fun p => d_var 2 rfl (.inr (.inl (by kernel_rfl))) (by kernel_rfl) (by kernel_rfl)
  exact (d_one (d_ret (d_andV (d_isi isK_tuple (by unfold Gl; kernel_rfl) X.f_isinstance (by unfold Gl; kernel_rfl) X.f_tuple boot_tuple (V0 _)) (d_andV (d_cmp (op_eqD hr.units) os_eq (d_cb cr_len cs_len (by unfold Gl; kernel_rfl) X.f_len boot_len (d_cons (V0 _) d_nil)) (V1 _) (nomark _)) (d_one1 (d_cb (cr_all rfl) cs_all (by unfold Gl; kernel_rfl) X.f_all rfl (d_cons (d_comp (t := .nm 3) [("one", 3)] rfl nd (di_seq (V0 _)) (blkOk_by (own := [("one", 3)]) (N := N_is_row) (by kernel_rfl)) (fun _ _ _ _ _ => (pg_name (i := 3) nd rfl (.inl (by kernel_rfl)) (.inr (by kernel_rfl)))) (fun _ _ _ _ _ => d_ts0) (fun _ _ _ _ _ => (d_call ((c_is_within X Y).mono (by decide)) hr (by unfold Gl; kernel_rfl) passL (d_cons (d_var 3 rfl (.inl (by kernel_rfl)) (by kernel_rfl) (by kernel_rfl)) (d_cons (d_un un_neg us_neg (d_var 2 rfl (.inr (.inl (by kernel_rfl))) (by kernel_rfl) (by kernel_rfl))) (d_cons (d_var 2 rfl (.inr (.inl (by kernel_rfl))) (by kernel_rfl) (by kernel_rfl)) d_nil)))))) d_nil)))))))
abbrev N_is_step_value : List Str := ["value", "row"]
theorem s_is_step_value : FnScope N_is_step_value ["value"] (defScope (topS 24)) := ⟨by kernel_rfl, by kernel_rfl, by kernel_rfl, by decide +kernel, by kernel_rfl, by decide +kernel, by decide +kernel⟩
theorem c_is_step_value (X : Fx K mg T) (Y : Ty K mg base) : DFn P w K T mg base 3 "is_step_value" 1 m_is_step_value := by
  obtain ⟨fd, G⟩ := X.d_is_step_value
  refine dfn_of (F := F_is_step_value) G X.g_is_step_value s_is_step_value (G.bindsN fun _ _ _ _ _ _ us hl => match us, hl with | [_], _ => rfl) rfl rfl (by decide) fun cdv A outer s H E hr => ?_
  have nd : N_is_step_value.Nodup := s_is_step_value.nd
  have tk : L2N.Takes (cxOf (L2N.CX P w) P w K mg base N_is_step_value "is_step_value" (defScope (topS 24)) (He.ga K "is_step_value") cdv A outer s H E) (fun cls d _ H => E cls d H) := L2N.takes_of rfl rfl rfl rfl
  have px : Passes (L2N.CX P w) (cxOf (L2N.CX P w) P w K mg base N_is_step_value "is_step_value" (defScope (topS 24)) (He.ga K "is_step_value") cdv A outer s H E) E := L2N.passes_call tk fun _ _ _ _ h => h
  have po : PassesOwn (model P w) (cxOf (L2N.CX P w) P w K mg base N_is_step_value "is_step_value" (defScope (topS 24)) (He.ga K "is_step_value") cdv A outer s H E).A (cxOf (L2N.CX P w) P w K mg base N_is_step_value "is_step_value" (defScope (topS 24)) (He.ga K "is_step_value") cdv A outer s H E).env (cxOf (L2N.CX P w) P w K mg base N_is_step_value "is_step_value" (defScope (topS 24)) (He.ga K "is_step_value") cdv A outer s H E).xe := passes_of rfl
  have V0 : ∀ p : Pos, PE (cxOf (L2N.CX P w) P w K mg base N_is_step_value "is_step_value" (defScope (topS 24)) (He.ga K "is_step_value") cdv A outer s H E) (.Name "value" p) (rdE K T mg E (sVar 0)) := fun p => d_var 0 rfl (.inr (.inl (by kernel_rfl))) (by kernel_rfl) (by kernel_rfl)
  exact (d_seq (d_if (PW.pt (d_orB (dt_not (dt_val (d_isi isK_tuple (by unfold Gl; kernel_rfl) X.f_isinstance (by unfold Gl; kernel_rfl) X.f_tuple boot_tuple (V0 _)))) (d_orB (dt_cmp (op_neD hr.units) os_ne (d_cb cr_len cs_len (by unfold Gl; kernel_rfl) X.f_len boot_len (d_cons (V0 _) d_nil)) d_int (nomark _)) (d_or1 (dt_not (dt_val (d_call ((c_is_within X Y).mono (by decide)) hr (by unfold Gl; kernel_rfl) px (d_cons (d_ix (V0 _) d_int (fun _ _ => rfl)) (d_cons d_int (d_cons (d_gint (by unfold Gl; kernel_rfl) X.i_MOST_ENTRY) d_nil)))))))))) (d_one (d_ret d_bl)) d_skip)
 (d_seq (d_if (PW.pt (d_orB (dt_not (dt_val (d_isi isK_tuple (by unfold Gl; kernel_rfl) X.f_isinstance (by unfold Gl; kernel_rfl) X.f_tuple boot_tuple (d_ix (V0 _) d_int (fun _ _ => rfl))))) (d_or1 (dt_not (dt_chain op_le os_cmp op_le os_cmp d_int (d_cb cr_len cs_len (by unfold Gl; kernel_rfl) X.f_len boot_len (d_cons (d_ix (V0 _) d_int (fun _ _ => rfl)) d_nil)) d_int))))) (d_one (d_ret d_bl)) d_skip)
 (d_one (d_ret (d_cb (cr_all rfl) cs_all (by unfold Gl; kernel_rfl) X.f_all rfl (d_cons (d_comp (t := .nm 1) [("row", 1)] rfl nd (di_seq (d_ix (V0 _) d_int (fun _ _ => rfl))) (blkOk_by (own := [("row", 1)]) (N := N_is_step_value) (by kernel_rfl)) (fun _ _ _ _ _ => (pg_name (i := 1) nd rfl (.inl (by kernel_rfl)) (.inr (by kernel_rfl)))) (fun _ _ _ _ _ => d_ts0) (fun _ _ _ _ _ => (d_call ((c_is_row X Y).mono (by decide)) hr (by unfold Gl; kernel_rfl) passL (d_cons (d_var 1 rfl (.inl (by kernel_rfl)) (by kernel_rfl) (by kernel_rfl)) (d_cons (d_cb cr_len cs_len (by unfold Gl; kernel_rfl) X.f_len boot_len (d_cons (d_ix (d_var 0 rfl (.inr (.inl (by kernel_rfl))) (by kernel_rfl) (by kernel_rfl)) d_int (fun _ _ => rfl)) d_nil)) (d_cons (d_gint (by unfold Gl; kernel_rfl) X.i_MOST_ENTRY) d_nil)))))) d_nil))))))
abbrev N_need_step : List Str := ["value"]
theorem s_need_step : FnScope N_need_step ["value"] (defScope (topS 27)) := ⟨by kernel_rfl, by kernel_rfl, by kernel_rfl, by decide +kernel, by kernel_rfl, by decide +kernel, by decide +kernel⟩
theorem c_need_step (X : Fx K mg T) (Y : Ty K mg base) : DFn P w K T mg base 4 "need_step" 1 m_need_step := by
  obtain ⟨fd, G⟩ := X.d_need_step
  refine dfn_of (F := F_need_step) G X.g_need_step s_need_step (G.bindsN fun _ _ _ _ _ _ us hl => match us, hl with | [_], _ => rfl) rfl rfl (by decide) fun cdv A outer s H E hr => ?_
  have nd : N_need_step.Nodup := s_need_step.nd
  have tk : L2N.Takes (cxOf (L2N.CX P w) P w K mg base N_need_step "need_step" (defScope (topS 27)) (He.ga K "need_step") cdv A outer s H E) (fun cls d _ H => E cls d H) := L2N.takes_of rfl rfl rfl rfl
  have px : Passes (L2N.CX P w) (cxOf (L2N.CX P w) P w K mg base N_need_step "need_step" (defScope (topS 27)) (He.ga K "need_step") cdv A outer s H E) E := L2N.passes_call tk fun _ _ _ _ h => h
  have po : PassesOwn (model P w) (cxOf (L2N.CX P w) P w K mg base N_need_step "need_step" (defScope (topS 27)) (He.ga K "need_step") cdv A outer s H E).A (cxOf (L2N.CX P w) P w K mg base N_need_step "need_step" (defScope (topS 27)) (He.ga K "need_step") cdv A outer s H E).env (cxOf (L2N.CX P w) P w K mg base N_need_step "need_step" (defScope (topS 27)) (He.ga K "need_step") cdv A outer s H E).xe := passes_of rfl
  have V0 : ∀ p : Pos, PE (cxOf (L2N.CX P w) P w K mg base N_need_step "need_step" (defScope (topS 27)) (He.ga K "need_step") cdv A outer s H E) (.Name "value" p) (rdE K T mg E (sVar 0)) := fun p => d_var 0 rfl (.inl (by kernel_rfl)) (by kernel_rfl) (by kernel_rfl)
  exact (d_one (d_if (dt_not (dt_val (d_call ((c_is_step_value X Y).mono (by decide)) hr (by unfold Gl; kernel_rfl) px (d_cons (V0 _) d_nil)))) (d_one (d_raise rfl tk F.excBase_ValueError X.e_InvalidStep.2.1 X.e_InvalidStep.1 X.e_InvalidStep.2.2.1 (raises_own X.e_InvalidStep.2.2.2.1 X.e_InvalidStep.2.2.2.2) (by unfold Gl; kernel_rfl))) d_skip))
abbrev N_divisor : List Str := ["one", "other"]
theorem s_divisor : FnScope N_divisor ["one", "other"] (defScope (topS 14)) := ⟨by kernel_rfl, by kernel_rfl, by kernel_rfl, by decide +kernel, by kernel_rfl, by decide +kernel, by decide +kernel⟩
theorem c_divisor (X : Fx K mg T) (Y : Ty K mg base) : DFn P w K T mg base 1 "divisor" 2 m_divisor := by
  obtain ⟨fd, G⟩ := X.d_divisor
  refine dfn_of (F := F_divisor) G X.g_divisor s_divisor (G.bindsN fun _ _ _ _ _ _ us hl => match us, hl with | [_, _], _ => rfl) rfl rfl (by decide) fun cdv A outer s H E hr => ?_
  have nd : N_divisor.Nodup := s_divisor.nd
  have tk : L2N.Takes (cxOf (L2N.CX P w) P w K mg base N_divisor "divisor" (defScope (topS 14)) (He.ga K "divisor") cdv A outer s H E) (fun cls d _ H => E cls d H) := L2N.takes_of rfl rfl rfl rfl
  have px : Passes (L2N.CX P w) (cxOf (L2N.CX P w) P w K mg base N_divisor "divisor" (defScope (topS 14)) (He.ga K "divisor") cdv A outer s H E) E := L2N.passes_call tk fun _ _ _ _ h => h
  have po : PassesOwn (model P w) (cxOf (L2N.CX P w) P w K mg base N_divisor "divisor" (defScope (topS 14)) (He.ga K "divisor") cdv A outer s H E).A (cxOf (L2N.CX P w) P w K mg base N_divisor "divisor" (defScope (topS 14)) (He.ga K "divisor") cdv A outer s H E).env (cxOf (L2N.CX P w) P w K mg base N_divisor "divisor" (defScope (topS 14)) (He.ga K "divisor") cdv A outer s H E).xe := passes_of rfl
  have V0 : ∀ p : Pos, PE (cxOf (L2N.CX P w) P w K mg base N_divisor "divisor" (defScope (topS 14)) (He.ga K "divisor") cdv A outer s H E) (.Name "one" p) (rdE K T mg E (sVar 0)) := fun p => d_var 0 rfl (.inl (by kernel_rfl)) (by kernel_rfl) (by kernel_rfl)
  have V1 : ∀ p : Pos, PE (cxOf (L2N.CX P w) P w K mg base N_divisor "divisor" (defScope (topS 14)) (He.ga K "divisor") cdv A outer s H E) (.Name "other" p) (rdE K T mg E (sVar 1)) := fun p => d_var 1 rfl (.inl (by kernel_rfl)) (by kernel_rfl) (by kernel_rfl)
  exact (d_seq (d_while (fuelI 1) [] po (dt_cmp (op_neD hr.units) os_ne (V1 _) d_int (nomark _))
  (d_one (d_par2 0 1 rfl nd (d_cons (V1 _) (d_cons (d_op op_modN os_mod (V0 _) (V1 _)) d_nil)).pa (by rfl) rfl rfl (by decide) (by kernel_rfl) (by kernel_rfl))))
 (d_one (d_ret (d_cb call_abs cs_abs (by unfold Gl; kernel_rfl) X.f_abs boot_abs (d_cons (V0 _) d_nil)))))
abbrev N_is_fraction : List Str := ["value"]
theorem s_is_fraction : FnScope N_is_fraction ["value"] (defScope (topS 25)) := ⟨by kernel_rfl, by kernel_rfl, by kernel_rfl, by decide +kernel, by kernel_rfl, by decide +kernel, by decide +kernel⟩
theorem c_is_fraction (X : Fx K mg T) (Y : Ty K mg base) : DFn P w K T mg base 2 "is_fraction" 1 m_is_fraction := by
  obtain ⟨fd, G⟩ := X.d_is_fraction
  refine dfn_of (F := F_is_fraction) G X.g_is_fraction s_is_fraction (G.bindsN fun _ _ _ _ _ _ us hl => match us, hl with | [_], _ => rfl) rfl rfl (by decide) fun cdv A outer s H E hr => ?_
  have nd : N_is_fraction.Nodup := s_is_fraction.nd
  have tk : L2N.Takes (cxOf (L2N.CX P w) P w K mg base N_is_fraction "is_fraction" (defScope (topS 25)) (He.ga K "is_fraction") cdv A outer s H E) (fun cls d _ H => E cls d H) := L2N.takes_of rfl rfl rfl rfl
  have px : Passes (L2N.CX P w) (cxOf (L2N.CX P w) P w K mg base N_is_fraction "is_fraction" (defScope (topS 25)) (He.ga K "is_fraction") cdv A outer s H E) E := L2N.passes_call tk fun _ _ _ _ h => h
  have po : PassesOwn (model P w) (cxOf (L2N.CX P w) P w K mg base N_is_fraction "is_fraction" (defScope (topS 25)) (He.ga K "is_fraction") cdv A outer s H E).A (cxOf (L2N.CX P w) P w K mg base N_is_fraction "is_fraction" (defScope (topS 25)) (He.ga K "is_fraction") cdv A outer s H E).env (cxOf (L2N.CX P w) P w K mg base N_is_fraction "is_fraction" (defScope (topS 25)) (He.ga K "is_fraction") cdv A outer s H E).xe := passes_of rfl
  have V0 : ∀ p : Pos, PE (cxOf (L2N.CX P w) P w K mg base N_is_fraction "is_fraction" (defScope (topS 25)) (He.ga K "is_fraction") cdv A outer s H E) (.Name "value" p) (rdE K T mg E (sVar 0)) := fun p => d_var 0 rfl (.inl (by kernel_rfl)) (by kernel_rfl) (by kernel_rfl)
  exact (d_seq (d_if (PW.pt (d_orB (dt_not (dt_val (d_isi isK_tuple (by unfold Gl; kernel_rfl) X.f_isinstance (by unfold Gl; kernel_rfl) X.f_tuple boot_tuple (V0 _)))) (d_orB (dt_cmp (op_neD hr.units) os_ne (d_cb cr_len cs_len (by unfold Gl; kernel_rfl) X.f_len boot_len (d_cons (V0 _) d_nil)) d_int (nomark _)) (d_or1 (dt_not (dt_val (d_call ((c_is_within X Y).mono (by decide)) hr (by unfold Gl; kernel_rfl) px (d_cons (d_ix (V0 _) d_int (fun _ _ => rfl)) (d_cons (d_un un_neg us_neg (d_gint (by unfold Gl; kernel_rfl) X.i_MOST_TOP)) (d_cons (d_gint (by unfold Gl; kernel_rfl) X.i_MOST_TOP) d_nil)))))))))) (d_one (d_ret d_bl)) d_skip)
 (d_one (d_ret (d_andV (d_call ((c_is_within X Y).mono (by decide)) hr (by unfold Gl; kernel_rfl) px (d_cons (d_ix (V0 _) d_int (fun _ _ => rfl)) (d_cons d_int (d_cons (d_gint (by unfold Gl; kernel_rfl) X.i_MOST_BELOW) d_nil)))) (d_one1 (d_cmp (op_eqD hr.units) os_eq (d_call ((c_divisor X Y).mono (by decide)) hr (by unfold Gl; kernel_rfl) px (d_cons (d_ix (V0 _) d_int (fun _ _ => rfl)) (d_cons (d_ix (V0 _) d_int (fun _ _ => rfl)) d_nil))) d_int (nomark _)))))))
abbrev N_is_stand_value : List Str := ["value", "size", "one"]
theorem s_is_stand_value : FnScope N_is_stand_value ["value", "size"] (defScope (topS 26)) := ⟨by kernel_rfl, by kernel_rfl, by kernel_rfl, by decide +kernel, by kernel_rfl, by decide +kernel, by decide +kernel⟩
theorem c_is_stand_value (X : Fx K mg T) (Y : Ty K mg base) : DFn P w K T mg base 3 "is_stand_value" 2 m_is_stand_value := by
  obtain ⟨fd, G⟩ := X.d_is_stand_value
  refine dfn_of (F := F_is_stand_value) G X.g_is_stand_value s_is_stand_value (G.bindsN fun _ _ _ _ _ _ us hl => match us, hl with | [_, _], _ => rfl) rfl rfl (by decide) fun cdv A outer s H E hr => ?_
  have nd : N_is_stand_value.Nodup := s_is_stand_value.nd
  have tk : L2N.Takes (cxOf (L2N.CX P w) P w K mg base N_is_stand_value "is_stand_value" (defScope (topS 26)) (He.ga K "is_stand_value") cdv A outer s H E) (fun cls d _ H => E cls d H) := L2N.takes_of rfl rfl rfl rfl
  have px : Passes (L2N.CX P w) (cxOf (L2N.CX P w) P w K mg base N_is_stand_value "is_stand_value" (defScope (topS 26)) (He.ga K "is_stand_value") cdv A outer s H E) E := L2N.passes_call tk fun _ _ _ _ h => h
  have po : PassesOwn (model P w) (cxOf (L2N.CX P w) P w K mg base N_is_stand_value "is_stand_value" (defScope (topS 26)) (He.ga K "is_stand_value") cdv A outer s H E).A (cxOf (L2N.CX P w) P w K mg base N_is_stand_value "is_stand_value" (defScope (topS 26)) (He.ga K "is_stand_value") cdv A outer s H E).env (cxOf (L2N.CX P w) P w K mg base N_is_stand_value "is_stand_value" (defScope (topS 26)) (He.ga K "is_stand_value") cdv A outer s H E).xe := passes_of rfl
  have V0 : ∀ p : Pos, PE (cxOf (L2N.CX P w) P w K mg base N_is_stand_value "is_stand_value" (defScope (topS 26)) (He.ga K "is_stand_value") cdv A outer s H E) (.Name "value" p) (rdE K T mg E (sVar 0)) := fun p => d_var 0 rfl (.inl (by kernel_rfl)) (by kernel_rfl) (by kernel_rfl)
  have V1 : ∀ p : Pos, PE (cxOf (L2N.CX P w) P w K mg base N_is_stand_value "is_stand_value" (defScope (topS 26)) (He.ga K "is_stand_value") cdv A outer s H E) (.Name "size" p) (rdE K T mg E (sVar 1)) := fun p => d_var 1 rfl (.inl (by kernel_rfl)) (by kernel_rfl) (by kernel_rfl)
  exact (d_one (d_ret (d_andV (d_isi isK_tuple (by unfold Gl; kernel_rfl) X.f_isinstance (by unfold Gl; kernel_rfl) X.f_tuple boot_tuple (V0 _)) (d_andV (d_cmp (op_eqD hr.units) os_eq (d_cb cr_len cs_len (by unfold Gl; kernel_rfl) X.f_len boot_len (d_cons (V0 _) d_nil)) (V1 _) (nomark _)) (d_one1 (d_cb (cr_all rfl) cs_all (by unfold Gl; kernel_rfl) X.f_all rfl (d_cons (d_comp (t := .nm 2) [("one", 2)] rfl nd (di_seq (V0 _)) (blkOk_by (own := [("one", 2)]) (N := N_is_stand_value) (by kernel_rfl)) (fun _ _ _ _ _ => (pg_name (i := 2) nd rfl (.inl (by kernel_rfl)) (.inr (by kernel_rfl)))) (fun _ _ _ _ _ => d_ts0) (fun _ _ _ _ _ => (d_call ((c_is_fraction X Y).mono (by decide)) hr (by unfold Gl; kernel_rfl) passL (d_cons (d_var 2 rfl (.inl (by kernel_rfl)) (by kernel_rfl) (by kernel_rfl)) d_nil)))) d_nil)))))))
abbrev N_need_stand : List Str := ["step", "value"]
theorem s_need_stand : FnScope N_need_stand ["step", "value"] (defScope (topS 28)) := ⟨by kernel_rfl, by kernel_rfl, by kernel_rfl, by decide +kernel, by kernel_rfl, by decide +kernel, by decide +kernel⟩
theorem c_need_stand (X : Fx K mg T) (Y : Ty K mg base) : DFn P w K T mg base 4 "need_stand" 2 m_need_stand := by
  obtain ⟨fd, G⟩ := X.d_need_stand
  refine dfn_of (F := F_need_stand) G X.g_need_stand s_need_stand (G.bindsN fun _ _ _ _ _ _ us hl => match us, hl with | [_, _], _ => rfl) rfl rfl (by decide) fun cdv A outer s H E hr => ?_
  have nd : N_need_stand.Nodup := s_need_stand.nd
  have tk : L2N.Takes (cxOf (L2N.CX P w) P w K mg base N_need_stand "need_stand" (defScope (topS 28)) (He.ga K "need_stand") cdv A outer s H E) (fun cls d _ H => E cls d H) := L2N.takes_of rfl rfl rfl rfl
  have px : Passes (L2N.CX P w) (cxOf (L2N.CX P w) P w K mg base N_need_stand "need_stand" (defScope (topS 28)) (He.ga K "need_stand") cdv A outer s H E) E := L2N.passes_call tk fun _ _ _ _ h => h
  have po : PassesOwn (model P w) (cxOf (L2N.CX P w) P w K mg base N_need_stand "need_stand" (defScope (topS 28)) (He.ga K "need_stand") cdv A outer s H E).A (cxOf (L2N.CX P w) P w K mg base N_need_stand "need_stand" (defScope (topS 28)) (He.ga K "need_stand") cdv A outer s H E).env (cxOf (L2N.CX P w) P w K mg base N_need_stand "need_stand" (defScope (topS 28)) (He.ga K "need_stand") cdv A outer s H E).xe := passes_of rfl
  have V0 : ∀ p : Pos, PE (cxOf (L2N.CX P w) P w K mg base N_need_stand "need_stand" (defScope (topS 28)) (He.ga K "need_stand") cdv A outer s H E) (.Name "step" p) (rdE K T mg E (sVar 0)) := fun p => d_var 0 rfl (.inl (by kernel_rfl)) (by kernel_rfl) (by kernel_rfl)
  have V1 : ∀ p : Pos, PE (cxOf (L2N.CX P w) P w K mg base N_need_stand "need_stand" (defScope (topS 28)) (He.ga K "need_stand") cdv A outer s H E) (.Name "value" p) (rdE K T mg E (sVar 1)) := fun p => d_var 1 rfl (.inl (by kernel_rfl)) (by kernel_rfl) (by kernel_rfl)
  exact (d_one (d_if (dt_not (dt_val (d_call ((c_is_stand_value X Y).mono (by decide)) hr (by unfold Gl; kernel_rfl) px (d_cons (V1 _) (d_cons (d_cb cr_len cs_len (by unfold Gl; kernel_rfl) X.f_len boot_len (d_cons (d_ix (V0 _) d_int (fun _ _ => rfl)) d_nil)) d_nil))))) (d_one (d_raise rfl tk F.excBase_ValueError X.e_InvalidStand.2.1 X.e_InvalidStand.1 X.e_InvalidStand.2.2.1 (raises_own X.e_InvalidStand.2.2.2.1 X.e_InvalidStand.2.2.2.2) (by unfold Gl; kernel_rfl))) d_skip))
abbrev N_need_plane : List Str := ["step", "value"]
theorem s_need_plane : FnScope N_need_plane ["step", "value"] (defScope (topS 32)) := ⟨by kernel_rfl, by kernel_rfl, by kernel_rfl, by decide +kernel, by kernel_rfl, by decide +kernel, by decide +kernel⟩
theorem c_need_plane (X : Fx K mg T) (Y : Ty K mg base) : DFn P w K T mg base 3 "need_plane" 2 m_need_plane := by
  obtain ⟨fd, G⟩ := X.d_need_plane
  refine dfn_of (F := F_need_plane) G X.g_need_plane s_need_plane (G.bindsN fun _ _ _ _ _ _ us hl => match us, hl with | [_, _], _ => rfl) rfl rfl (by decide) fun cdv A outer s H E hr => ?_
  have nd : N_need_plane.Nodup := s_need_plane.nd
  have tk : L2N.Takes (cxOf (L2N.CX P w) P w K mg base N_need_plane "need_plane" (defScope (topS 32)) (He.ga K "need_plane") cdv A outer s H E) (fun cls d _ H => E cls d H) := L2N.takes_of rfl rfl rfl rfl
  have px : Passes (L2N.CX P w) (cxOf (L2N.CX P w) P w K mg base N_need_plane "need_plane" (defScope (topS 32)) (He.ga K "need_plane") cdv A outer s H E) E := L2N.passes_call tk fun _ _ _ _ h => h
  have po : PassesOwn (model P w) (cxOf (L2N.CX P w) P w K mg base N_need_plane "need_plane" (defScope (topS 32)) (He.ga K "need_plane") cdv A outer s H E).A (cxOf (L2N.CX P w) P w K mg base N_need_plane "need_plane" (defScope (topS 32)) (He.ga K "need_plane") cdv A outer s H E).env (cxOf (L2N.CX P w) P w K mg base N_need_plane "need_plane" (defScope (topS 32)) (He.ga K "need_plane") cdv A outer s H E).xe := passes_of rfl
  have V0 : ∀ p : Pos, PE (cxOf (L2N.CX P w) P w K mg base N_need_plane "need_plane" (defScope (topS 32)) (He.ga K "need_plane") cdv A outer s H E) (.Name "step" p) (rdE K T mg E (sVar 0)) := fun p => d_var 0 rfl (.inl (by kernel_rfl)) (by kernel_rfl) (by kernel_rfl)
  have V1 : ∀ p : Pos, PE (cxOf (L2N.CX P w) P w K mg base N_need_plane "need_plane" (defScope (topS 32)) (He.ga K "need_plane") cdv A outer s H E) (.Name "value" p) (rdE K T mg E (sVar 1)) := fun p => d_var 1 rfl (.inl (by kernel_rfl)) (by kernel_rfl) (by kernel_rfl)
  exact (d_one (d_if (dt_not (dt_val (d_call ((c_is_row X Y).mono (by decide)) hr (by unfold Gl; kernel_rfl) px (d_cons (V1 _) (d_cons (d_op op_addA os_add (d_cb cr_len cs_len (by unfold Gl; kernel_rfl) X.f_len boot_len (d_cons (d_ix (V0 _) d_int (fun _ _ => rfl)) d_nil)) d_int) (d_cons (d_op op_pow os_pow d_int d_int) d_nil)))))) (d_one (d_raise rfl tk F.excBase_ValueError X.e_InvalidPlane.2.1 X.e_InvalidPlane.1 X.e_InvalidPlane.2.2.1 (raises_own X.e_InvalidPlane.2.2.2.1 X.e_InvalidPlane.2.2.2.2) (by unfold Gl; kernel_rfl))) d_skip))
abbrev N_need_number : List Str := ["value", "low", "high"]
theorem s_need_number : FnScope N_need_number ["value", "low", "high"] (defScope (topS 29)) := ⟨by kernel_rfl, by kernel_rfl, by kernel_rfl, by decide +kernel, by kernel_rfl, by decide +kernel, by decide +kernel⟩
theorem c_need_number (X : Fx K mg T) (Y : Ty K mg base) : DFn P w K T mg base 2 "need_number" 3 m_need_number := by
  obtain ⟨fd, G⟩ := X.d_need_number
  refine dfn_of (F := F_need_number) G X.g_need_number s_need_number (G.bindsN fun _ _ _ _ _ _ us hl => match us, hl with | [_, _, _], _ => rfl) rfl rfl (by decide) fun cdv A outer s H E hr => ?_
  have nd : N_need_number.Nodup := s_need_number.nd
  have tk : L2N.Takes (cxOf (L2N.CX P w) P w K mg base N_need_number "need_number" (defScope (topS 29)) (He.ga K "need_number") cdv A outer s H E) (fun cls d _ H => E cls d H) := L2N.takes_of rfl rfl rfl rfl
  have px : Passes (L2N.CX P w) (cxOf (L2N.CX P w) P w K mg base N_need_number "need_number" (defScope (topS 29)) (He.ga K "need_number") cdv A outer s H E) E := L2N.passes_call tk fun _ _ _ _ h => h
  have po : PassesOwn (model P w) (cxOf (L2N.CX P w) P w K mg base N_need_number "need_number" (defScope (topS 29)) (He.ga K "need_number") cdv A outer s H E).A (cxOf (L2N.CX P w) P w K mg base N_need_number "need_number" (defScope (topS 29)) (He.ga K "need_number") cdv A outer s H E).env (cxOf (L2N.CX P w) P w K mg base N_need_number "need_number" (defScope (topS 29)) (He.ga K "need_number") cdv A outer s H E).xe := passes_of rfl
  have V0 : ∀ p : Pos, PE (cxOf (L2N.CX P w) P w K mg base N_need_number "need_number" (defScope (topS 29)) (He.ga K "need_number") cdv A outer s H E) (.Name "value" p) (rdE K T mg E (sVar 0)) := fun p => d_var 0 rfl (.inl (by kernel_rfl)) (by kernel_rfl) (by kernel_rfl)
  have V1 : ∀ p : Pos, PE (cxOf (L2N.CX P w) P w K mg base N_need_number "need_number" (defScope (topS 29)) (He.ga K "need_number") cdv A outer s H E) (.Name "low" p) (rdE K T mg E (sVar 1)) := fun p => d_var 1 rfl (.inl (by kernel_rfl)) (by kernel_rfl) (by kernel_rfl)
  have V2 : ∀ p : Pos, PE (cxOf (L2N.CX P w) P w K mg base N_need_number "need_number" (defScope (topS 29)) (He.ga K "need_number") cdv A outer s H E) (.Name "high" p) (rdE K T mg E (sVar 2)) := fun p => d_var 2 rfl (.inl (by kernel_rfl)) (by kernel_rfl) (by kernel_rfl)
  exact (d_one (d_if (dt_not (dt_val (d_call ((c_is_within X Y).mono (by decide)) hr (by unfold Gl; kernel_rfl) px (d_cons (V0 _) (d_cons (V1 _) (d_cons (V2 _) d_nil)))))) (d_one (d_raise rfl tk F.excBase_ValueError X.e_InvalidNumber.2.1 X.e_InvalidNumber.1 X.e_InvalidNumber.2.2.1 (raises_own X.e_InvalidNumber.2.2.2.1 X.e_InvalidNumber.2.2.2.2) (by unfold Gl; kernel_rfl))) d_skip))
abbrev N_need_all : List Str := ["step", "start", "plane", "rounds"]
theorem s_need_all : FnScope N_need_all ["step", "start", "plane", "rounds"] (defScope (topS 35)) := ⟨by kernel_rfl, by kernel_rfl, by kernel_rfl, by decide +kernel, by kernel_rfl, by decide +kernel, by decide +kernel⟩
theorem c_need_all (X : Fx K mg T) (Y : Ty K mg base) : DFn P w K T mg base 5 "need_all" 4 m_need_all := by
  obtain ⟨fd, G⟩ := X.d_need_all
  refine dfn_of (F := F_need_all) G X.g_need_all s_need_all (G.bindsN fun _ _ _ _ _ _ us hl => match us, hl with | [_, _, _, _], _ => rfl) rfl rfl (by decide) fun cdv A outer s H E hr => ?_
  have nd : N_need_all.Nodup := s_need_all.nd
  have tk : L2N.Takes (cxOf (L2N.CX P w) P w K mg base N_need_all "need_all" (defScope (topS 35)) (He.ga K "need_all") cdv A outer s H E) (fun cls d _ H => E cls d H) := L2N.takes_of rfl rfl rfl rfl
  have px : Passes (L2N.CX P w) (cxOf (L2N.CX P w) P w K mg base N_need_all "need_all" (defScope (topS 35)) (He.ga K "need_all") cdv A outer s H E) E := L2N.passes_call tk fun _ _ _ _ h => h
  have po : PassesOwn (model P w) (cxOf (L2N.CX P w) P w K mg base N_need_all "need_all" (defScope (topS 35)) (He.ga K "need_all") cdv A outer s H E).A (cxOf (L2N.CX P w) P w K mg base N_need_all "need_all" (defScope (topS 35)) (He.ga K "need_all") cdv A outer s H E).env (cxOf (L2N.CX P w) P w K mg base N_need_all "need_all" (defScope (topS 35)) (He.ga K "need_all") cdv A outer s H E).xe := passes_of rfl
  have V0 : ∀ p : Pos, PE (cxOf (L2N.CX P w) P w K mg base N_need_all "need_all" (defScope (topS 35)) (He.ga K "need_all") cdv A outer s H E) (.Name "step" p) (rdE K T mg E (sVar 0)) := fun p => d_var 0 rfl (.inl (by kernel_rfl)) (by kernel_rfl) (by kernel_rfl)
  have V1 : ∀ p : Pos, PE (cxOf (L2N.CX P w) P w K mg base N_need_all "need_all" (defScope (topS 35)) (He.ga K "need_all") cdv A outer s H E) (.Name "start" p) (rdE K T mg E (sVar 1)) := fun p => d_var 1 rfl (.inl (by kernel_rfl)) (by kernel_rfl) (by kernel_rfl)
  have V2 : ∀ p : Pos, PE (cxOf (L2N.CX P w) P w K mg base N_need_all "need_all" (defScope (topS 35)) (He.ga K "need_all") cdv A outer s H E) (.Name "plane" p) (rdE K T mg E (sVar 2)) := fun p => d_var 2 rfl (.inl (by kernel_rfl)) (by kernel_rfl) (by kernel_rfl)
  have V3 : ∀ p : Pos, PE (cxOf (L2N.CX P w) P w K mg base N_need_all "need_all" (defScope (topS 35)) (He.ga K "need_all") cdv A outer s H E) (.Name "rounds" p) (rdE K T mg E (sVar 3)) := fun p => d_var 3 rfl (.inl (by kernel_rfl)) (by kernel_rfl) (by kernel_rfl)
  exact (d_seq (d_drop (d_call ((c_need_step X Y).mono (by decide)) hr (by unfold Gl; kernel_rfl) px (d_cons (V0 _) d_nil)))
 (d_seq (d_drop (d_call ((c_need_stand X Y).mono (by decide)) hr (by unfold Gl; kernel_rfl) px (d_cons (V0 _) (d_cons (V1 _) d_nil))))
 (d_seq (d_drop (d_call ((c_need_plane X Y).mono (by decide)) hr (by unfold Gl; kernel_rfl) px (d_cons (V0 _) (d_cons (V2 _) d_nil))))
 (d_one (d_drop (d_call ((c_need_number X Y).mono (by decide)) hr (by unfold Gl; kernel_rfl) px (d_cons (V3 _) (d_cons d_int (d_cons (d_gint (by unfold Gl; kernel_rfl) X.i_MOST_ROUNDS) d_nil)))))))))
abbrev N_fraction : List Str := ["top", "below", "many"]
theorem s_fraction : FnScope N_fraction ["top", "below"] (defScope (topS 15)) := ⟨by kernel_rfl, by kernel_rfl, by kernel_rfl, by decide +kernel, by kernel_rfl, by decide +kernel, by decide +kernel⟩
theorem c_fraction (X : Fx K mg T) (Y : Ty K mg base) : DFn P w K T mg base 2 "fraction" 2 m_fraction := by
  obtain ⟨fd, G⟩ := X.d_fraction
  refine dfn_of (F := F_fraction) G X.g_fraction s_fraction (G.bindsN fun _ _ _ _ _ _ us hl => match us, hl with | [_, _], _ => rfl) rfl rfl (by decide) fun cdv A outer s H E hr => ?_
  have nd : N_fraction.Nodup := s_fraction.nd
  have tk : L2N.Takes (cxOf (L2N.CX P w) P w K mg base N_fraction "fraction" (defScope (topS 15)) (He.ga K "fraction") cdv A outer s H E) (fun cls d _ H => E cls d H) := L2N.takes_of rfl rfl rfl rfl
  have px : Passes (L2N.CX P w) (cxOf (L2N.CX P w) P w K mg base N_fraction "fraction" (defScope (topS 15)) (He.ga K "fraction") cdv A outer s H E) E := L2N.passes_call tk fun _ _ _ _ h => h
  have po : PassesOwn (model P w) (cxOf (L2N.CX P w) P w K mg base N_fraction "fraction" (defScope (topS 15)) (He.ga K "fraction") cdv A outer s H E).A (cxOf (L2N.CX P w) P w K mg base N_fraction "fraction" (defScope (topS 15)) (He.ga K "fraction") cdv A outer s H E).env (cxOf (L2N.CX P w) P w K mg base N_fraction "fraction" (defScope (topS 15)) (He.ga K "fraction") cdv A outer s H E).xe := passes_of rfl
  have V0 : ∀ p : Pos, PE (cxOf (L2N.CX P w) P w K mg base N_fraction "fraction" (defScope (topS 15)) (He.ga K "fraction") cdv A outer s H E) (.Name "top" p) (rdE K T mg E (sVar 0)) := fun p => d_var 0 rfl (.inl (by kernel_rfl)) (by kernel_rfl) (by kernel_rfl)
  have V1 : ∀ p : Pos, PE (cxOf (L2N.CX P w) P w K mg base N_fraction "fraction" (defScope (topS 15)) (He.ga K "fraction") cdv A outer s H E) (.Name "below" p) (rdE K T mg E (sVar 1)) := fun p => d_var 1 rfl (.inl (by kernel_rfl)) (by kernel_rfl) (by kernel_rfl)
  have V2 : ∀ p : Pos, PE (cxOf (L2N.CX P w) P w K mg base N_fraction "fraction" (defScope (topS 15)) (He.ga K "fraction") cdv A outer s H E) (.Name "many" p) (rdE K T mg E (sVar 2)) := fun p => d_var 2 rfl (.inl (by kernel_rfl)) (by kernel_rfl) (by kernel_rfl)
  exact (d_seq (d_set 2 (d_call ((c_divisor X Y).mono (by decide)) hr (by unfold Gl; kernel_rfl) px (d_cons (V0 _) (d_cons (V1 _) d_nil))) nd rfl (.inl (by kernel_rfl)) (by rfl) (.inl rfl))
 (d_seq (d_set 2 (d_ifE (dt_cmp op_lt os_cmp (V1 _) d_int (nomark _)) (d_un un_neg us_neg (V2 _)) (V2 _)) nd rfl (.inl (by kernel_rfl)) (by rfl) (.inl rfl))
 (d_one (d_ret (d_tup (d_cons (d_op op_fdivG os_div (V0 _) (V2 _)) (d_cons (d_op op_fdivG os_div (V1 _) (V2 _)) d_nil)))))))
abbrev N_plus : List Str := ["one", "other"]
theorem s_plus : FnScope N_plus ["one", "other"] (defScope (topS 16)) := ⟨by kernel_rfl, by kernel_rfl, by kernel_rfl, by decide +kernel, by kernel_rfl, by decide +kernel, by decide +kernel⟩
theorem c_plus (X : Fx K mg T) (Y : Ty K mg base) : DFn P w K T mg base 3 "plus" 2 m_plus := by
  obtain ⟨fd, G⟩ := X.d_plus
  refine dfn_of (F := F_plus) G X.g_plus s_plus (G.bindsN fun _ _ _ _ _ _ us hl => match us, hl with | [_, _], _ => rfl) rfl rfl (by decide) fun cdv A outer s H E hr => ?_
  have nd : N_plus.Nodup := s_plus.nd
  have tk : L2N.Takes (cxOf (L2N.CX P w) P w K mg base N_plus "plus" (defScope (topS 16)) (He.ga K "plus") cdv A outer s H E) (fun cls d _ H => E cls d H) := L2N.takes_of rfl rfl rfl rfl
  have px : Passes (L2N.CX P w) (cxOf (L2N.CX P w) P w K mg base N_plus "plus" (defScope (topS 16)) (He.ga K "plus") cdv A outer s H E) E := L2N.passes_call tk fun _ _ _ _ h => h
  have po : PassesOwn (model P w) (cxOf (L2N.CX P w) P w K mg base N_plus "plus" (defScope (topS 16)) (He.ga K "plus") cdv A outer s H E).A (cxOf (L2N.CX P w) P w K mg base N_plus "plus" (defScope (topS 16)) (He.ga K "plus") cdv A outer s H E).env (cxOf (L2N.CX P w) P w K mg base N_plus "plus" (defScope (topS 16)) (He.ga K "plus") cdv A outer s H E).xe := passes_of rfl
  have V0 : ∀ p : Pos, PE (cxOf (L2N.CX P w) P w K mg base N_plus "plus" (defScope (topS 16)) (He.ga K "plus") cdv A outer s H E) (.Name "one" p) (rdE K T mg E (sVar 0)) := fun p => d_var 0 rfl (.inl (by kernel_rfl)) (by kernel_rfl) (by kernel_rfl)
  have V1 : ∀ p : Pos, PE (cxOf (L2N.CX P w) P w K mg base N_plus "plus" (defScope (topS 16)) (He.ga K "plus") cdv A outer s H E) (.Name "other" p) (rdE K T mg E (sVar 1)) := fun p => d_var 1 rfl (.inl (by kernel_rfl)) (by kernel_rfl) (by kernel_rfl)
  exact (d_one (d_ret (d_call ((c_fraction X Y).mono (by decide)) hr (by unfold Gl; kernel_rfl) px (d_cons (d_op op_addA os_add (d_op op_mulA os_mul (d_ix (V0 _) d_int (fun _ _ => rfl)) (d_ix (V1 _) d_int (fun _ _ => rfl))) (d_op op_mulA os_mul (d_ix (V1 _) d_int (fun _ _ => rfl)) (d_ix (V0 _) d_int (fun _ _ => rfl)))) (d_cons (d_op op_mulA os_mul (d_ix (V0 _) d_int (fun _ _ => rfl)) (d_ix (V1 _) d_int (fun _ _ => rfl))) d_nil)))))
abbrev N_is_on : List Str := ["stand", "plane", "total", "many", "one"]
theorem s_is_on : FnScope N_is_on ["stand", "plane"] (defScope (topS 33)) := ⟨by kernel_rfl, by kernel_rfl, by kernel_rfl, by decide +kernel, by kernel_rfl, by decide +kernel, by decide +kernel⟩
theorem c_is_on (X : Fx K mg T) (Y : Ty K mg base) : DFn P w K T mg base 4 "is_on" 2 m_is_on := by
  obtain ⟨fd, G⟩ := X.d_is_on
  refine dfn_of (F := F_is_on) G X.g_is_on s_is_on (G.bindsN fun _ _ _ _ _ _ us hl => match us, hl with | [_, _], _ => rfl) rfl rfl (by decide) fun cdv A outer s H E hr => ?_
  have nd : N_is_on.Nodup := s_is_on.nd
  have tk : L2N.Takes (cxOf (L2N.CX P w) P w K mg base N_is_on "is_on" (defScope (topS 33)) (He.ga K "is_on") cdv A outer s H E) (fun cls d _ H => E cls d H) := L2N.takes_of rfl rfl rfl rfl
  have px : Passes (L2N.CX P w) (cxOf (L2N.CX P w) P w K mg base N_is_on "is_on" (defScope (topS 33)) (He.ga K "is_on") cdv A outer s H E) E := L2N.passes_call tk fun _ _ _ _ h => h
  have po : PassesOwn (model P w) (cxOf (L2N.CX P w) P w K mg base N_is_on "is_on" (defScope (topS 33)) (He.ga K "is_on") cdv A outer s H E).A (cxOf (L2N.CX P w) P w K mg base N_is_on "is_on" (defScope (topS 33)) (He.ga K "is_on") cdv A outer s H E).env (cxOf (L2N.CX P w) P w K mg base N_is_on "is_on" (defScope (topS 33)) (He.ga K "is_on") cdv A outer s H E).xe := passes_of rfl
  have V0 : ∀ p : Pos, PE (cxOf (L2N.CX P w) P w K mg base N_is_on "is_on" (defScope (topS 33)) (He.ga K "is_on") cdv A outer s H E) (.Name "stand" p) (rdE K T mg E (sVar 0)) := fun p => d_var 0 rfl (.inl (by kernel_rfl)) (by kernel_rfl) (by kernel_rfl)
  have V1 : ∀ p : Pos, PE (cxOf (L2N.CX P w) P w K mg base N_is_on "is_on" (defScope (topS 33)) (He.ga K "is_on") cdv A outer s H E) (.Name "plane" p) (rdE K T mg E (sVar 1)) := fun p => d_var 1 rfl (.inl (by kernel_rfl)) (by kernel_rfl) (by kernel_rfl)
  have V2 : ∀ p : Pos, PE (cxOf (L2N.CX P w) P w K mg base N_is_on "is_on" (defScope (topS 33)) (He.ga K "is_on") cdv A outer s H E) (.Name "total" p) (rdE K T mg E (sVar 2)) := fun p => d_var 2 rfl (.inl (by kernel_rfl)) (by kernel_rfl) (by kernel_rfl)
  have V3 : ∀ p : Pos, PE (cxOf (L2N.CX P w) P w K mg base N_is_on "is_on" (defScope (topS 33)) (He.ga K "is_on") cdv A outer s H E) (.Name "many" p) (rdE K T mg E (sVar 3)) := fun p => d_var 3 rfl (.inl (by kernel_rfl)) (by kernel_rfl) (by kernel_rfl)
  have V4 : ∀ p : Pos, PE (cxOf (L2N.CX P w) P w K mg base N_is_on "is_on" (defScope (topS 33)) (He.ga K "is_on") cdv A outer s H E) (.Name "one" p) (rdE K T mg E (sVar 4)) := fun p => d_var 4 rfl (.inl (by kernel_rfl)) (by kernel_rfl) (by kernel_rfl)
  exact (d_seq (d_set 2 (d_tup (d_cons (d_un un_neg us_neg (d_ix (V1 _) (d_un un_neg us_neg d_int) (fun _ _ => rfl))) (d_cons d_int d_nil))) nd rfl (.inl (by kernel_rfl)) (by rfl) (.inl rfl))
 (d_seq (d_for (t := .tp [3, 4]) [3, 4] po rfl (di_zip (by unfold Gl; kernel_rfl) X.f_zip (d_cons (V1 _) (d_cons (V0 _) d_nil))) (pg_tup rfl (pgs_cons (pg_name (i := 3) nd rfl (.inl (by kernel_rfl)) (.inl rfl)) (pgs_cons (pg_name (i := 4) nd rfl (.inl (by kernel_rfl)) (.inl rfl)) pgs_nil)))
  (d_one (d_set 2 (d_call ((c_plus X Y).mono (by decide)) hr (by unfold Gl; kernel_rfl) px (d_cons (V2 _) (d_cons (d_call ((c_fraction X Y).mono (by decide)) hr (by unfold Gl; kernel_rfl) px (d_cons (d_op op_mulA os_mul (V3 _) (d_ix (V4 _) d_int (fun _ _ => rfl))) (d_cons (d_ix (V4 _) d_int (fun _ _ => rfl)) d_nil))) d_nil))) nd rfl (.inl (by kernel_rfl)) (by rfl) (.inl rfl))))
 (d_one (d_ret (d_cmp (op_eqD hr.units) os_eq (d_ix (V2 _) d_int (fun _ _ => rfl)) d_int (nomark _))))))
abbrev N_next_stand : List Str := ["step", "stand", "found", "row", "total", "entry", "one"]
theorem s_next_stand : FnScope N_next_stand ["step", "stand"] (defScope (topS 30)) := ⟨by kernel_rfl, by kernel_rfl, by kernel_rfl, by decide +kernel, by kernel_rfl, by decide +kernel, by decide +kernel⟩
theorem c_next_stand (X : Fx K mg T) (Y : Ty K mg base) : DFn P w K T mg base 4 "next_stand" 2 m_next_stand := by
  obtain ⟨fd, G⟩ := X.d_next_stand
  refine dfn_of (F := F_next_stand) G X.g_next_stand s_next_stand (G.bindsN fun _ _ _ _ _ _ us hl => match us, hl with | [_, _], _ => rfl) rfl rfl (by decide) fun cdv A outer s H E hr => ?_
  have nd : N_next_stand.Nodup := s_next_stand.nd
  have tk : L2N.Takes (cxOf (L2N.CX P w) P w K mg base N_next_stand "next_stand" (defScope (topS 30)) (He.ga K "next_stand") cdv A outer s H E) (fun cls d _ H => E cls d H) := L2N.takes_of rfl rfl rfl rfl
  have px : Passes (L2N.CX P w) (cxOf (L2N.CX P w) P w K mg base N_next_stand "next_stand" (defScope (topS 30)) (He.ga K "next_stand") cdv A outer s H E) E := L2N.passes_call tk fun _ _ _ _ h => h
  have po : PassesOwn (model P w) (cxOf (L2N.CX P w) P w K mg base N_next_stand "next_stand" (defScope (topS 30)) (He.ga K "next_stand") cdv A outer s H E).A (cxOf (L2N.CX P w) P w K mg base N_next_stand "next_stand" (defScope (topS 30)) (He.ga K "next_stand") cdv A outer s H E).env (cxOf (L2N.CX P w) P w K mg base N_next_stand "next_stand" (defScope (topS 30)) (He.ga K "next_stand") cdv A outer s H E).xe := passes_of rfl
  have V0 : ∀ p : Pos, PE (cxOf (L2N.CX P w) P w K mg base N_next_stand "next_stand" (defScope (topS 30)) (He.ga K "next_stand") cdv A outer s H E) (.Name "step" p) (rdE K T mg E (sVar 0)) := fun p => d_var 0 rfl (.inl (by kernel_rfl)) (by kernel_rfl) (by kernel_rfl)
  have V1 : ∀ p : Pos, PE (cxOf (L2N.CX P w) P w K mg base N_next_stand "next_stand" (defScope (topS 30)) (He.ga K "next_stand") cdv A outer s H E) (.Name "stand" p) (rdE K T mg E (sVar 1)) := fun p => d_var 1 rfl (.inl (by kernel_rfl)) (by kernel_rfl) (by kernel_rfl)
  have V2 : ∀ p : Pos, PE (cxOf (L2N.CX P w) P w K mg base N_next_stand "next_stand" (defScope (topS 30)) (He.ga K "next_stand") cdv A outer s H E) (.Name "found" p) (rdE K T mg E (sVar 2)) := fun p => d_var 2 rfl (.inl (by kernel_rfl)) (by kernel_rfl) (by kernel_rfl)
  have V3 : ∀ p : Pos, PE (cxOf (L2N.CX P w) P w K mg base N_next_stand "next_stand" (defScope (topS 30)) (He.ga K "next_stand") cdv A outer s H E) (.Name "row" p) (rdE K T mg E (sVar 3)) := fun p => d_var 3 rfl (.inl (by kernel_rfl)) (by kernel_rfl) (by kernel_rfl)
  have V4 : ∀ p : Pos, PE (cxOf (L2N.CX P w) P w K mg base N_next_stand "next_stand" (defScope (topS 30)) (He.ga K "next_stand") cdv A outer s H E) (.Name "total" p) (rdE K T mg E (sVar 4)) := fun p => d_var 4 rfl (.inl (by kernel_rfl)) (by kernel_rfl) (by kernel_rfl)
  have V5 : ∀ p : Pos, PE (cxOf (L2N.CX P w) P w K mg base N_next_stand "next_stand" (defScope (topS 30)) (He.ga K "next_stand") cdv A outer s H E) (.Name "entry" p) (rdE K T mg E (sVar 5)) := fun p => d_var 5 rfl (.inl (by kernel_rfl)) (by kernel_rfl) (by kernel_rfl)
  have V6 : ∀ p : Pos, PE (cxOf (L2N.CX P w) P w K mg base N_next_stand "next_stand" (defScope (topS 30)) (He.ga K "next_stand") cdv A outer s H E) (.Name "one" p) (rdE K T mg E (sVar 6)) := fun p => d_var 6 rfl (.inl (by kernel_rfl)) (by kernel_rfl) (by kernel_rfl)
  exact (d_seq (d_new 2 (d_lstF d_nil) nd rfl (.inl (by kernel_rfl)) (by rfl) (.inl rfl))
 (d_seq (d_for (t := .nm 3) [3, 4, 5, 6] po rfl (di_seq (d_ix (V0 _) d_int (fun _ _ => rfl))) (pg_name (i := 3) nd rfl (.inl (by kernel_rfl)) (.inl rfl))
  (d_seq (d_set 4 (d_tup (d_cons d_int (d_cons d_int d_nil))) nd rfl (.inl (by kernel_rfl)) (by rfl) (.inl rfl))
 (d_seq (d_for (t := .tp [5, 6]) [5, 6] po rfl (di_zip (by unfold Gl; kernel_rfl) X.f_zip (d_cons (V3 _) (d_cons (V1 _) d_nil))) (pg_tup rfl (pgs_cons (pg_name (i := 5) nd rfl (.inl (by kernel_rfl)) (.inl rfl)) (pgs_cons (pg_name (i := 6) nd rfl (.inl (by kernel_rfl)) (.inl rfl)) pgs_nil)))
  (d_one (d_set 4 (d_call ((c_plus X Y).mono (by decide)) hr (by unfold Gl; kernel_rfl) px (d_cons (V4 _) (d_cons (d_call ((c_fraction X Y).mono (by decide)) hr (by unfold Gl; kernel_rfl) px (d_cons (d_op op_mulA os_mul (V5 _) (d_ix (V6 _) d_int (fun _ _ => rfl))) (d_cons (d_ix (V6 _) d_int (fun _ _ => rfl)) d_nil))) d_nil))) nd rfl (.inl (by kernel_rfl)) (by rfl) (.inl rfl))))
 (d_one (d_app 2 (d_call ((c_fraction X Y).mono (by decide)) hr (by unfold Gl; kernel_rfl) px (d_cons (d_ix (V4 _) d_int (fun _ _ => rfl)) (d_cons (d_op op_mulA os_mul (d_ix (V4 _) d_int (fun _ _ => rfl)) (d_ix (V0 _) d_int (fun _ _ => rfl))) d_nil))) rfl (.inl (by kernel_rfl)) (by kernel_rfl) (by kernel_rfl))))))
 (d_seal 2 (d_one (d_ret (d_cbT call_tuple_of cs_tuple (by unfold Gl; kernel_rfl) X.f_tuple boot_tuple (d_cons (V2 _) d_nil)))))))
abbrev N_rounds_on : List Str := ["step", "start", "plane", "rounds", "found", "here", "turn"]
theorem s_rounds_on : FnScope N_rounds_on ["step", "start", "plane", "rounds"] (defScope (topS 34)) := ⟨by kernel_rfl, by kernel_rfl, by kernel_rfl, by decide +kernel, by kernel_rfl, by decide +kernel, by decide +kernel⟩
theorem c_rounds_on (X : Fx K mg T) (Y : Ty K mg base) : DFn P w K T mg base 5 "rounds_on" 4 m_rounds_on := by
  obtain ⟨fd, G⟩ := X.d_rounds_on
  refine dfn_of (F := F_rounds_on) G X.g_rounds_on s_rounds_on (G.bindsN fun _ _ _ _ _ _ us hl => match us, hl with | [_, _, _, _], _ => rfl) rfl rfl (by decide) fun cdv A outer s H E hr => ?_
  have nd : N_rounds_on.Nodup := s_rounds_on.nd
  have tk : L2N.Takes (cxOf (L2N.CX P w) P w K mg base N_rounds_on "rounds_on" (defScope (topS 34)) (He.ga K "rounds_on") cdv A outer s H E) (fun cls d _ H => E cls d H) := L2N.takes_of rfl rfl rfl rfl
  have px : Passes (L2N.CX P w) (cxOf (L2N.CX P w) P w K mg base N_rounds_on "rounds_on" (defScope (topS 34)) (He.ga K "rounds_on") cdv A outer s H E) E := L2N.passes_call tk fun _ _ _ _ h => h
  have po : PassesOwn (model P w) (cxOf (L2N.CX P w) P w K mg base N_rounds_on "rounds_on" (defScope (topS 34)) (He.ga K "rounds_on") cdv A outer s H E).A (cxOf (L2N.CX P w) P w K mg base N_rounds_on "rounds_on" (defScope (topS 34)) (He.ga K "rounds_on") cdv A outer s H E).env (cxOf (L2N.CX P w) P w K mg base N_rounds_on "rounds_on" (defScope (topS 34)) (He.ga K "rounds_on") cdv A outer s H E).xe := passes_of rfl
  have V0 : ∀ p : Pos, PE (cxOf (L2N.CX P w) P w K mg base N_rounds_on "rounds_on" (defScope (topS 34)) (He.ga K "rounds_on") cdv A outer s H E) (.Name "step" p) (rdE K T mg E (sVar 0)) := fun p => d_var 0 rfl (.inl (by kernel_rfl)) (by kernel_rfl) (by kernel_rfl)
  have V1 : ∀ p : Pos, PE (cxOf (L2N.CX P w) P w K mg base N_rounds_on "rounds_on" (defScope (topS 34)) (He.ga K "rounds_on") cdv A outer s H E) (.Name "start" p) (rdE K T mg E (sVar 1)) := fun p => d_var 1 rfl (.inl (by kernel_rfl)) (by kernel_rfl) (by kernel_rfl)
  have V2 : ∀ p : Pos, PE (cxOf (L2N.CX P w) P w K mg base N_rounds_on "rounds_on" (defScope (topS 34)) (He.ga K "rounds_on") cdv A outer s H E) (.Name "plane" p) (rdE K T mg E (sVar 2)) := fun p => d_var 2 rfl (.inl (by kernel_rfl)) (by kernel_rfl) (by kernel_rfl)
  have V3 : ∀ p : Pos, PE (cxOf (L2N.CX P w) P w K mg base N_rounds_on "rounds_on" (defScope (topS 34)) (He.ga K "rounds_on") cdv A outer s H E) (.Name "rounds" p) (rdE K T mg E (sVar 3)) := fun p => d_var 3 rfl (.inl (by kernel_rfl)) (by kernel_rfl) (by kernel_rfl)
  have V4 : ∀ p : Pos, PE (cxOf (L2N.CX P w) P w K mg base N_rounds_on "rounds_on" (defScope (topS 34)) (He.ga K "rounds_on") cdv A outer s H E) (.Name "found" p) (rdE K T mg E (sVar 4)) := fun p => d_var 4 rfl (.inl (by kernel_rfl)) (by kernel_rfl) (by kernel_rfl)
  have V5 : ∀ p : Pos, PE (cxOf (L2N.CX P w) P w K mg base N_rounds_on "rounds_on" (defScope (topS 34)) (He.ga K "rounds_on") cdv A outer s H E) (.Name "here" p) (rdE K T mg E (sVar 5)) := fun p => d_var 5 rfl (.inl (by kernel_rfl)) (by kernel_rfl) (by kernel_rfl)
  have V6 : ∀ p : Pos, PE (cxOf (L2N.CX P w) P w K mg base N_rounds_on "rounds_on" (defScope (topS 34)) (He.ga K "rounds_on") cdv A outer s H E) (.Name "turn" p) (rdE K T mg E (sVar 6)) := fun p => d_var 6 rfl (.inl (by kernel_rfl)) (by kernel_rfl) (by kernel_rfl)
  exact (d_seq (d_parOV 4 5 rfl nd (d_lstF d_nil) (V1 _) (by rfl) rfl rfl (by decide) (by kernel_rfl) (by kernel_rfl))
 (d_seq (d_for (t := .nm 6) [6] po rfl (di_range1 (by unfold Gl; kernel_rfl) X.f_range (d_cons (d_op op_addA os_add (V3 _) d_int) d_nil)) (pg_name (i := 6) nd rfl (.inl (by kernel_rfl)) (.inl rfl))
  (d_seq (d_if (dt_val (d_call ((c_is_on X Y).mono (by decide)) hr (by unfold Gl; kernel_rfl) px (d_cons (V5 _) (d_cons (V2 _) d_nil)))) (d_one (d_app 4 (V6 _) rfl (.inl (by kernel_rfl)) (by kernel_rfl) (by kernel_rfl))) d_skip)
 (d_one (d_set 5 (d_call ((c_next_stand X Y).mono (by decide)) hr (by unfold Gl; kernel_rfl) px (d_cons (V0 _) (d_cons (V5 _) d_nil))) nd rfl (.inl (by kernel_rfl)) (by rfl) (.inl rfl)))))
 (d_seal 4 (d_one (d_ret (V4 _))))))
abbrev N_all_on : List Str := ["step", "start", "plane", "rounds"]
theorem s_all_on : FnScope N_all_on ["step", "start", "plane", "rounds"] (defScope (topS 37)) := ⟨by kernel_rfl, by kernel_rfl, by kernel_rfl, by decide +kernel, by kernel_rfl, by decide +kernel, by decide +kernel⟩
theorem c_all_on (X : Fx K mg T) (Y : Ty K mg base) : DFn P w K T mg base 6 "all_on" 4 m_all_on := by
  obtain ⟨fd, G⟩ := X.d_all_on
  refine dfn_of (F := F_all_on) G X.g_all_on s_all_on (G.bindsN fun _ _ _ _ _ _ us hl => match us, hl with | [_, _, _, _], _ => rfl) rfl rfl (by decide) fun cdv A outer s H E hr => ?_
  have nd : N_all_on.Nodup := s_all_on.nd
  have tk : L2N.Takes (cxOf (L2N.CX P w) P w K mg base N_all_on "all_on" (defScope (topS 37)) (He.ga K "all_on") cdv A outer s H E) (fun cls d _ H => E cls d H) := L2N.takes_of rfl rfl rfl rfl
  have px : Passes (L2N.CX P w) (cxOf (L2N.CX P w) P w K mg base N_all_on "all_on" (defScope (topS 37)) (He.ga K "all_on") cdv A outer s H E) E := L2N.passes_call tk fun _ _ _ _ h => h
  have po : PassesOwn (model P w) (cxOf (L2N.CX P w) P w K mg base N_all_on "all_on" (defScope (topS 37)) (He.ga K "all_on") cdv A outer s H E).A (cxOf (L2N.CX P w) P w K mg base N_all_on "all_on" (defScope (topS 37)) (He.ga K "all_on") cdv A outer s H E).env (cxOf (L2N.CX P w) P w K mg base N_all_on "all_on" (defScope (topS 37)) (He.ga K "all_on") cdv A outer s H E).xe := passes_of rfl
  have V0 : ∀ p : Pos, PE (cxOf (L2N.CX P w) P w K mg base N_all_on "all_on" (defScope (topS 37)) (He.ga K "all_on") cdv A outer s H E) (.Name "step" p) (rdE K T mg E (sVar 0)) := fun p => d_var 0 rfl (.inl (by kernel_rfl)) (by kernel_rfl) (by kernel_rfl)
  have V1 : ∀ p : Pos, PE (cxOf (L2N.CX P w) P w K mg base N_all_on "all_on" (defScope (topS 37)) (He.ga K "all_on") cdv A outer s H E) (.Name "start" p) (rdE K T mg E (sVar 1)) := fun p => d_var 1 rfl (.inl (by kernel_rfl)) (by kernel_rfl) (by kernel_rfl)
  have V2 : ∀ p : Pos, PE (cxOf (L2N.CX P w) P w K mg base N_all_on "all_on" (defScope (topS 37)) (He.ga K "all_on") cdv A outer s H E) (.Name "plane" p) (rdE K T mg E (sVar 2)) := fun p => d_var 2 rfl (.inl (by kernel_rfl)) (by kernel_rfl) (by kernel_rfl)
  have V3 : ∀ p : Pos, PE (cxOf (L2N.CX P w) P w K mg base N_all_on "all_on" (defScope (topS 37)) (He.ga K "all_on") cdv A outer s H E) (.Name "rounds" p) (rdE K T mg E (sVar 3)) := fun p => d_var 3 rfl (.inl (by kernel_rfl)) (by kernel_rfl) (by kernel_rfl)
  exact (d_seq (d_drop (d_call ((c_need_all X Y).mono (by decide)) hr (by unfold Gl; kernel_rfl) px (d_cons (V0 _) (d_cons (V1 _) (d_cons (V2 _) (d_cons (V3 _) d_nil))))))
 (d_one (d_ret (d_call ((c_rounds_on X Y).mono (by decide)) hr (by unfold Gl; kernel_rfl) px (d_cons (V0 _) (d_cons (V1 _) (d_cons (V2 _) (d_cons (V3 _) d_nil))))))))
abbrev N_first_on : List Str := ["step", "start", "plane", "rounds", "some"]
theorem s_first_on : FnScope N_first_on ["step", "start", "plane", "rounds"] (defScope (topS 36)) := ⟨by kernel_rfl, by kernel_rfl, by kernel_rfl, by decide +kernel, by kernel_rfl, by decide +kernel, by decide +kernel⟩
theorem c_first_on (X : Fx K mg T) (Y : Ty K mg base) : DFn P w K T mg base 6 "first_on" 4 m_first_on := by
  obtain ⟨fd, G⟩ := X.d_first_on
  refine dfn_of (F := F_first_on) G X.g_first_on s_first_on (G.bindsN fun _ _ _ _ _ _ us hl => match us, hl with | [_, _, _, _], _ => rfl) rfl rfl (by decide) fun cdv A outer s H E hr => ?_
  have nd : N_first_on.Nodup := s_first_on.nd
  have tk : L2N.Takes (cxOf (L2N.CX P w) P w K mg base N_first_on "first_on" (defScope (topS 36)) (He.ga K "first_on") cdv A outer s H E) (fun cls d _ H => E cls d H) := L2N.takes_of rfl rfl rfl rfl
  have px : Passes (L2N.CX P w) (cxOf (L2N.CX P w) P w K mg base N_first_on "first_on" (defScope (topS 36)) (He.ga K "first_on") cdv A outer s H E) E := L2N.passes_call tk fun _ _ _ _ h => h
  have po : PassesOwn (model P w) (cxOf (L2N.CX P w) P w K mg base N_first_on "first_on" (defScope (topS 36)) (He.ga K "first_on") cdv A outer s H E).A (cxOf (L2N.CX P w) P w K mg base N_first_on "first_on" (defScope (topS 36)) (He.ga K "first_on") cdv A outer s H E).env (cxOf (L2N.CX P w) P w K mg base N_first_on "first_on" (defScope (topS 36)) (He.ga K "first_on") cdv A outer s H E).xe := passes_of rfl
  have V0 : ∀ p : Pos, PE (cxOf (L2N.CX P w) P w K mg base N_first_on "first_on" (defScope (topS 36)) (He.ga K "first_on") cdv A outer s H E) (.Name "step" p) (rdE K T mg E (sVar 0)) := fun p => d_var 0 rfl (.inl (by kernel_rfl)) (by kernel_rfl) (by kernel_rfl)
  have V1 : ∀ p : Pos, PE (cxOf (L2N.CX P w) P w K mg base N_first_on "first_on" (defScope (topS 36)) (He.ga K "first_on") cdv A outer s H E) (.Name "start" p) (rdE K T mg E (sVar 1)) := fun p => d_var 1 rfl (.inl (by kernel_rfl)) (by kernel_rfl) (by kernel_rfl)
  have V2 : ∀ p : Pos, PE (cxOf (L2N.CX P w) P w K mg base N_first_on "first_on" (defScope (topS 36)) (He.ga K "first_on") cdv A outer s H E) (.Name "plane" p) (rdE K T mg E (sVar 2)) := fun p => d_var 2 rfl (.inl (by kernel_rfl)) (by kernel_rfl) (by kernel_rfl)
  have V3 : ∀ p : Pos, PE (cxOf (L2N.CX P w) P w K mg base N_first_on "first_on" (defScope (topS 36)) (He.ga K "first_on") cdv A outer s H E) (.Name "rounds" p) (rdE K T mg E (sVar 3)) := fun p => d_var 3 rfl (.inl (by kernel_rfl)) (by kernel_rfl) (by kernel_rfl)
  have V4 : ∀ p : Pos, PE (cxOf (L2N.CX P w) P w K mg base N_first_on "first_on" (defScope (topS 36)) (He.ga K "first_on") cdv A outer s H E) (.Name "some" p) (rdE K T mg E (sVar 4)) := fun p => d_var 4 rfl (.inl (by kernel_rfl)) (by kernel_rfl) (by kernel_rfl)
  exact (d_seq (d_drop (d_call ((c_need_all X Y).mono (by decide)) hr (by unfold Gl; kernel_rfl) px (d_cons (V0 _) (d_cons (V1 _) (d_cons (V2 _) (d_cons (V3 _) d_nil))))))
 (d_seq (d_set 4 (d_call ((c_rounds_on X Y).mono (by decide)) hr (by unfold Gl; kernel_rfl) px (d_cons (V0 _) (d_cons (V1 _) (d_cons (V2 _) (d_cons (V3 _) d_nil))))) nd rfl (.inl (by kernel_rfl)) (by rfl) (.inl rfl))
 (d_one (d_ret (d_ifE (dt_cmp (op_neD hr.units) os_ne (V4 _) (d_lst d_nil) (nomark _)) (d_ix (V4 _) d_int (fun _ _ => rfl)) d_non)))))
abbrev N_stays_on : List Str := ["step", "start", "plane"]
theorem s_stays_on : FnScope N_stays_on ["step", "start", "plane"] (defScope (topS 38)) := ⟨by kernel_rfl, by kernel_rfl, by kernel_rfl, by decide +kernel, by kernel_rfl, by decide +kernel, by decide +kernel⟩
theorem c_stays_on (X : Fx K mg T) (Y : Ty K mg base) : DFn P w K T mg base 6 "stays_on" 3 m_stays_on := by
  obtain ⟨fd, G⟩ := X.d_stays_on
  refine dfn_of (F := F_stays_on) G X.g_stays_on s_stays_on (G.bindsN fun _ _ _ _ _ _ us hl => match us, hl with | [_, _, _], _ => rfl) rfl rfl (by decide) fun cdv A outer s H E hr => ?_
  have nd : N_stays_on.Nodup := s_stays_on.nd
  have tk : L2N.Takes (cxOf (L2N.CX P w) P w K mg base N_stays_on "stays_on" (defScope (topS 38)) (He.ga K "stays_on") cdv A outer s H E) (fun cls d _ H => E cls d H) := L2N.takes_of rfl rfl rfl rfl
  have px : Passes (L2N.CX P w) (cxOf (L2N.CX P w) P w K mg base N_stays_on "stays_on" (defScope (topS 38)) (He.ga K "stays_on") cdv A outer s H E) E := L2N.passes_call tk fun _ _ _ _ h => h
  have po : PassesOwn (model P w) (cxOf (L2N.CX P w) P w K mg base N_stays_on "stays_on" (defScope (topS 38)) (He.ga K "stays_on") cdv A outer s H E).A (cxOf (L2N.CX P w) P w K mg base N_stays_on "stays_on" (defScope (topS 38)) (He.ga K "stays_on") cdv A outer s H E).env (cxOf (L2N.CX P w) P w K mg base N_stays_on "stays_on" (defScope (topS 38)) (He.ga K "stays_on") cdv A outer s H E).xe := passes_of rfl
  have V0 : ∀ p : Pos, PE (cxOf (L2N.CX P w) P w K mg base N_stays_on "stays_on" (defScope (topS 38)) (He.ga K "stays_on") cdv A outer s H E) (.Name "step" p) (rdE K T mg E (sVar 0)) := fun p => d_var 0 rfl (.inl (by kernel_rfl)) (by kernel_rfl) (by kernel_rfl)
  have V1 : ∀ p : Pos, PE (cxOf (L2N.CX P w) P w K mg base N_stays_on "stays_on" (defScope (topS 38)) (He.ga K "stays_on") cdv A outer s H E) (.Name "start" p) (rdE K T mg E (sVar 1)) := fun p => d_var 1 rfl (.inl (by kernel_rfl)) (by kernel_rfl) (by kernel_rfl)
  have V2 : ∀ p : Pos, PE (cxOf (L2N.CX P w) P w K mg base N_stays_on "stays_on" (defScope (topS 38)) (He.ga K "stays_on") cdv A outer s H E) (.Name "plane" p) (rdE K T mg E (sVar 2)) := fun p => d_var 2 rfl (.inl (by kernel_rfl)) (by kernel_rfl) (by kernel_rfl)
  exact (d_seq (d_drop (d_call ((c_need_all X Y).mono (by decide)) hr (by unfold Gl; kernel_rfl) px (d_cons (V0 _) (d_cons (V1 _) (d_cons (V2 _) (d_cons d_int d_nil))))))
 (d_one (d_ret (d_cmp (op_eqD hr.units) os_eq (d_call ((c_rounds_on X Y).mono (by decide)) hr (by unfold Gl; kernel_rfl) px (d_cons (V0 _) (d_cons (V1 _) (d_cons (V2 _) (d_cons d_int d_nil))))) (d_lst (d_cons d_int (d_cons d_int (d_cons d_int (d_cons d_int (d_cons d_int d_nil)))))) (nomark _)))))
abbrev N__law_kin : List Str := ["e", "sorts", "labels", "label", "good"]
theorem s__law_kin : FnScope N__law_kin ["e"] (defScope (topS 45)) := ⟨by kernel_rfl, by kernel_rfl, by kernel_rfl, by decide +kernel, by kernel_rfl, by decide +kernel, by decide +kernel⟩
theorem c__law_kin (X : Fx K mg T) {fd : FuncData} (G : FunD K "_law_kin" "_law_kin" (defArgs (topS 45)) (defBody (topS 45)) (defScope (topS 45)) [] [] (He.ga K "_law_kin") fd) : FnP P w K mg base 1 (He.ga K "_law_kin") fd ["e"] (spKin K T) := by
  refine kin_of (Fk := F__law_kin) (N := N__law_kin) (m := 5) rfl G s__law_kin X.kin kin_run fun cdv A outer s H E a oe nm w0 hw hz hf hot hr => ?_
  have nd : N__law_kin.Nodup := s__law_kin.nd
  have XC : ExcC K (He.ga K nm) := X.kin.x nm w0 hw
  have hpn : (a, oe) ∈ (cxH C8.CX0 P w K mg base N__law_kin "_law_kin" (defScope (topS 45)) (He.ga K "_law_kin") cdv A outer s H E (a, oe)).pn := List.mem_singleton.mpr rfl
  have V0 : ∀ p : Pos, PE (cxH C8.CX0 P w K mg base N__law_kin "_law_kin" (defScope (topS 45)) (He.ga K "_law_kin") cdv A outer s H E (a, oe)) (.Name "e" p) (rdE K T mg EF (sVar 0)) := fun p => d_var 0 rfl (.inl (by kernel_rfl)) (by kernel_rfl) (by kernel_rfl)
  have V1 : ∀ p : Pos, PE (cxH C8.CX0 P w K mg base N__law_kin "_law_kin" (defScope (topS 45)) (He.ga K "_law_kin") cdv A outer s H E (a, oe)) (.Name "sorts" p) (rdE K T mg EF (sVar 1)) := fun p => d_var 1 rfl (.inl (by kernel_rfl)) (by kernel_rfl) (by kernel_rfl)
  have V2 : ∀ p : Pos, PE (cxH C8.CX0 P w K mg base N__law_kin "_law_kin" (defScope (topS 45)) (He.ga K "_law_kin") cdv A outer s H E (a, oe)) (.Name "labels" p) (rdE K T mg EF (sVar 2)) := fun p => d_var 2 rfl (.inl (by kernel_rfl)) (by kernel_rfl) (by kernel_rfl)
  exact (d_seq (d_new 1 (d_lstF (d_cons (d_isP (Dc := He.ga K nm) 0 hpn XC hz hf (X.kin.k nm w0 hw _ (by decide +kernel)) (by unfold Gl; kernel_rfl) X.f_isinstance (by unfold Gl; kernel_rfl) (X.kin.g _ (by decide +kernel)) rfl (.inl (by kernel_rfl)) (by kernel_rfl) (by kernel_rfl) (by kernel_rfl)) (d_cons (d_isP (Dc := He.ga K nm) 0 hpn XC hz hf (X.kin.k nm w0 hw _ (by decide +kernel)) (by unfold Gl; kernel_rfl) X.f_isinstance (by unfold Gl; kernel_rfl) (X.kin.g _ (by decide +kernel)) rfl (.inl (by kernel_rfl)) (by kernel_rfl) (by kernel_rfl) (by kernel_rfl)) (d_cons (d_isP (Dc := He.ga K nm) 0 hpn XC hz hf (X.kin.k nm w0 hw _ (by decide +kernel)) (by unfold Gl; kernel_rfl) X.f_isinstance (by unfold Gl; kernel_rfl) (X.kin.g _ (by decide +kernel)) rfl (.inl (by kernel_rfl)) (by kernel_rfl) (by kernel_rfl) (by kernel_rfl)) d_nil)))) nd rfl (.inl (by kernel_rfl)) (by rfl) (.inl rfl))
 (d_seal 1 (d_seq (d_new 1 (d_catF (V1 _) (d_lst (d_cons (d_isP (Dc := He.ga K nm) 0 hpn XC hz hf (X.kin.k nm w0 hw _ (by decide +kernel)) (by unfold Gl; kernel_rfl) X.f_isinstance (by unfold Gl; kernel_rfl) (X.kin.g _ (by decide +kernel)) rfl (.inl (by kernel_rfl)) (by kernel_rfl) (by kernel_rfl) (by kernel_rfl)) (d_cons (d_isP (Dc := He.ga K nm) 0 hpn XC hz hf (X.kin.k nm w0 hw _ (by decide +kernel)) (by unfold Gl; kernel_rfl) X.f_isinstance (by unfold Gl; kernel_rfl) (X.kin.g _ (by decide +kernel)) rfl (.inl (by kernel_rfl)) (by kernel_rfl) (by kernel_rfl) (by kernel_rfl)) d_nil)))) nd rfl (.inl (by kernel_rfl)) (by rfl) (.inl rfl))
 (d_seq (d_app 1 (d_isP (Dc := He.ga K nm) 0 hpn XC hz hf (X.kin.k nm w0 hw _ (by decide +kernel)) (by unfold Gl; kernel_rfl) X.f_isinstance (by unfold Gl; kernel_rfl) (X.kin.g _ (by decide +kernel)) rfl (.inl (by kernel_rfl)) (by kernel_rfl) (by kernel_rfl) (by kernel_rfl)) rfl (.inl (by kernel_rfl)) (by kernel_rfl) (by kernel_rfl))
 (d_seal 1 (d_seq (d_new 1 (d_catF (V1 _) (d_lst (d_cons (d_isP (Dc := He.ga K nm) 0 hpn XC hz hf (X.kin.k nm w0 hw _ (by decide +kernel)) (by unfold Gl; kernel_rfl) X.f_isinstance (by unfold Gl; kernel_rfl) (X.kin.g _ (by decide +kernel)) rfl (.inl (by kernel_rfl)) (by kernel_rfl) (by kernel_rfl) (by kernel_rfl)) (d_cons (d_isP (Dc := He.ga K nm) 0 hpn XC hz hf (X.kin.k nm w0 hw _ (by decide +kernel)) (by unfold Gl; kernel_rfl) X.f_isinstance (by unfold Gl; kernel_rfl) (X.kin.g _ (by decide +kernel)) rfl (.inl (by kernel_rfl)) (by kernel_rfl) (by kernel_rfl) (by kernel_rfl)) (d_cons (d_isP (Dc := He.ga K nm) 0 hpn XC hz hf (X.kin.k nm w0 hw _ (by decide +kernel)) (by unfold Gl; kernel_rfl) X.f_isinstance (by unfold Gl; kernel_rfl) (X.kin.g _ (by decide +kernel)) rfl (.inl (by kernel_rfl)) (by kernel_rfl) (by kernel_rfl) (by kernel_rfl)) d_nil))))) nd rfl (.inl (by kernel_rfl)) (by rfl) (.inl rfl))
 (d_seal 1 (d_seq (d_new 1 (d_catF (V1 _) (d_lst (d_cons (d_isP (Dc := He.ga K nm) 0 hpn XC hz hf (X.kin.k nm w0 hw _ (by decide +kernel)) (by unfold Gl; kernel_rfl) X.f_isinstance (by unfold Gl; kernel_rfl) (X.kin.g _ (by decide +kernel)) rfl (.inl (by kernel_rfl)) (by kernel_rfl) (by kernel_rfl) (by kernel_rfl)) (d_cons (d_isP (Dc := He.ga K nm) 0 hpn XC hz hf (X.kin.k nm w0 hw _ (by decide +kernel)) (by unfold Gl; kernel_rfl) X.f_isinstance (by unfold Gl; kernel_rfl) (X.kin.g _ (by decide +kernel)) rfl (.inl (by kernel_rfl)) (by kernel_rfl) (by kernel_rfl) (by kernel_rfl)) (d_cons (d_isPB (Dc := He.ga K nm) (ty := "ValueError") 0 hpn XC hz hf (X.kin.v nm w0 hw) (by unfold Gl; kernel_rfl) X.f_isinstance (by unfold Gl; kernel_rfl) X.kin.fV (by decide +kernel) rfl (.inl (by kernel_rfl)) (by kernel_rfl) (by kernel_rfl) (by decide) (by kernel_rfl)) d_nil))))) nd rfl (.inl (by kernel_rfl)) (by rfl) (.inl rfl))
 (d_seq (d_set 2 d_str nd rfl (.inl (by kernel_rfl)) (by rfl) (.inl rfl))
 (d_seal 1 (d_one (d_ret (d_join d_str (d_compH (t := .tp [3, 4]) [("label", 3), ("good", 4)] hot hpn nd (dip_zip hpn (by unfold Gl; kernel_rfl) X.f_zip (d_cons (d_split (V2 _) d_str) (d_cons (V1 _) d_nil))) (blkOk_by (own := [("label", 3), ("good", 4)]) (N := N__law_kin) (by kernel_rfl)) (fun _ _ _ _ _ => (pg_tupH ⟨(a, oe), hot, hpn⟩ (pgs_cons (pg_name (i := 3) nd rfl (.inl (by kernel_rfl)) (.inr (by kernel_rfl))) (pgs_cons (pg_name (i := 4) nd rfl (.inl (by kernel_rfl)) (.inr (by kernel_rfl))) pgs_nil)))) (fun _ _ _ _ _ => (d_ts1 (dt_val (d_var 4 rfl (.inl (by kernel_rfl)) (by kernel_rfl) (by kernel_rfl))))) (fun _ _ _ _ _ => (d_var 3 rfl (.inl (by kernel_rfl)) (by kernel_rfl) (by kernel_rfl)))))))))))))))))
abbrev N__law_try : List Str := ["call_so", "found", "e"]
theorem s__law_try : FnScope N__law_try ["call_so"] (defScope (topS 46)) := ⟨by kernel_rfl, by kernel_rfl, by kernel_rfl, by decide +kernel, by kernel_rfl, by decide +kernel, by decide +kernel⟩
abbrev N__law_known : List Str := ["s", "f", "q", "r", "d", "z"]
theorem s__law_known : FnScope N__law_known [] (defScope (topS 47)) := ⟨by kernel_rfl, by kernel_rfl, by kernel_rfl, by decide +kernel, by kernel_rfl, by decide +kernel, by decide +kernel⟩
theorem c__law_known (X : Fx K mg T) (Y : Ty K mg base) : DFn P w K T mg base 1 "_law_known" 0 m__law_known := by
  obtain ⟨fd, G⟩ := X.d__law_known
  refine dfn_of (F := F__law_known) G X.g__law_known s__law_known (G.bindsN fun _ _ _ _ _ _ us hl => match us, hl with | [], _ => rfl) rfl rfl (by decide) fun cdv A outer s H E hr => ?_
  have nd : N__law_known.Nodup := s__law_known.nd
  have tk : L2N.Takes (cxOf (L2N.CX P w) P w K mg base N__law_known "_law_known" (defScope (topS 47)) (He.ga K "_law_known") cdv A outer s H E) (fun cls d _ H => E cls d H) := L2N.takes_of rfl rfl rfl rfl
  have px : Passes (L2N.CX P w) (cxOf (L2N.CX P w) P w K mg base N__law_known "_law_known" (defScope (topS 47)) (He.ga K "_law_known") cdv A outer s H E) E := L2N.passes_call tk fun _ _ _ _ h => h
  have po : PassesOwn (model P w) (cxOf (L2N.CX P w) P w K mg base N__law_known "_law_known" (defScope (topS 47)) (He.ga K "_law_known") cdv A outer s H E).A (cxOf (L2N.CX P w) P w K mg base N__law_known "_law_known" (defScope (topS 47)) (He.ga K "_law_known") cdv A outer s H E).env (cxOf (L2N.CX P w) P w K mg base N__law_known "_law_known" (defScope (topS 47)) (He.ga K "_law_known") cdv A outer s H E).xe := passes_of rfl
  have V0 : ∀ p : Pos, PE (cxOf (L2N.CX P w) P w K mg base N__law_known "_law_known" (defScope (topS 47)) (He.ga K "_law_known") cdv A outer s H E) (.Name "s" p) (rdE K T mg E (sVar 0)) := fun p => d_var 0 rfl (.inl (by kernel_rfl)) (by kernel_rfl) (by kernel_rfl)
  have V1 : ∀ p : Pos, PE (cxOf (L2N.CX P w) P w K mg base N__law_known "_law_known" (defScope (topS 47)) (He.ga K "_law_known") cdv A outer s H E) (.Name "f" p) (rdE K T mg E (sVar 1)) := fun p => d_var 1 rfl (.inl (by kernel_rfl)) (by kernel_rfl) (by kernel_rfl)
  have V2 : ∀ p : Pos, PE (cxOf (L2N.CX P w) P w K mg base N__law_known "_law_known" (defScope (topS 47)) (He.ga K "_law_known") cdv A outer s H E) (.Name "q" p) (rdE K T mg E (sVar 2)) := fun p => d_var 2 rfl (.inl (by kernel_rfl)) (by kernel_rfl) (by kernel_rfl)
  have V3 : ∀ p : Pos, PE (cxOf (L2N.CX P w) P w K mg base N__law_known "_law_known" (defScope (topS 47)) (He.ga K "_law_known") cdv A outer s H E) (.Name "r" p) (rdE K T mg E (sVar 3)) := fun p => d_var 3 rfl (.inl (by kernel_rfl)) (by kernel_rfl) (by kernel_rfl)
  have V4 : ∀ p : Pos, PE (cxOf (L2N.CX P w) P w K mg base N__law_known "_law_known" (defScope (topS 47)) (He.ga K "_law_known") cdv A outer s H E) (.Name "d" p) (rdE K T mg E (sVar 4)) := fun p => d_var 4 rfl (.inl (by kernel_rfl)) (by kernel_rfl) (by kernel_rfl)
  have V5 : ∀ p : Pos, PE (cxOf (L2N.CX P w) P w K mg base N__law_known "_law_known" (defScope (topS 47)) (He.ga K "_law_known") cdv A outer s H E) (.Name "z" p) (rdE K T mg E (sVar 5)) := fun p => d_var 5 rfl (.inl (by kernel_rfl)) (by kernel_rfl) (by kernel_rfl)
  exact (d_seq (d_asg (t := .tp [0, 1, 2]) (d_tup (d_cons (d_tup (d_cons d_int (d_cons (d_tup (d_cons (d_tup (d_cons d_int (d_cons d_int d_nil))) (d_cons (d_tup (d_cons d_int (d_cons d_int d_nil))) d_nil))) d_nil))) (d_cons (d_tup (d_cons d_int (d_cons (d_tup (d_cons (d_tup (d_cons d_int (d_cons d_int d_nil))) (d_cons (d_tup (d_cons d_int (d_cons d_int d_nil))) d_nil))) d_nil))) (d_cons (d_tup (d_cons d_int (d_cons (d_tup (d_cons (d_tup (d_cons d_int (d_cons (d_un un_neg us_neg d_int) d_nil))) (d_cons (d_tup (d_cons d_int (d_cons d_int d_nil))) d_nil))) d_nil))) d_nil)))) (pg_tup rfl (pgs_cons (pg_name (i := 0) nd rfl (.inl (by kernel_rfl)) (.inl rfl)) (pgs_cons (pg_name (i := 1) nd rfl (.inl (by kernel_rfl)) (.inl rfl)) (pgs_cons (pg_name (i := 2) nd rfl (.inl (by kernel_rfl)) (.inl rfl)) pgs_nil)))))
 (d_seq (d_asg (t := .tp [3, 4, 5]) (d_tup (d_cons (d_tup (d_cons d_int (d_cons (d_tup (d_cons (d_tup (d_cons d_int (d_cons (d_un un_neg us_neg d_int) d_nil))) (d_cons (d_tup (d_cons d_int (d_cons d_int d_nil))) d_nil))) d_nil))) (d_cons (d_tup (d_cons d_int (d_cons (d_tup (d_cons (d_tup (d_cons d_int (d_cons d_int d_nil))) (d_cons (d_tup (d_cons d_int (d_cons d_int d_nil))) d_nil))) d_nil))) (d_cons (d_tup (d_cons d_int (d_cons (d_tup (d_cons (d_tup (d_cons d_int (d_cons d_int d_nil))) (d_cons (d_tup (d_cons d_int (d_cons d_int d_nil))) d_nil))) d_nil))) d_nil)))) (pg_tup rfl (pgs_cons (pg_name (i := 3) nd rfl (.inl (by kernel_rfl)) (.inl rfl)) (pgs_cons (pg_name (i := 4) nd rfl (.inl (by kernel_rfl)) (.inl rfl)) (pgs_cons (pg_name (i := 5) nd rfl (.inl (by kernel_rfl)) (.inl rfl)) pgs_nil)))))
 (d_one (d_ret (d_tup (d_cons (V0 _) (d_cons (V1 _) (d_cons (V2 _) (d_cons (V3 _) (d_cons (V4 _) (d_cons (V5 _) d_nil)))))))))))
abbrev N__law_stands : List Str := []
theorem s__law_stands : FnScope N__law_stands [] (defScope (topS 48)) := ⟨by kernel_rfl, by kernel_rfl, by kernel_rfl, by decide +kernel, by kernel_rfl, by decide +kernel, by decide +kernel⟩
theorem c__law_stands (X : Fx K mg T) (Y : Ty K mg base) : DFn P w K T mg base 1 "_law_stands" 0 m__law_stands := by
  obtain ⟨fd, G⟩ := X.d__law_stands
  refine dfn_of (F := F__law_stands) G X.g__law_stands s__law_stands (G.bindsN fun _ _ _ _ _ _ us hl => match us, hl with | [], _ => rfl) rfl rfl (by decide) fun cdv A outer s H E hr => ?_
  have nd : N__law_stands.Nodup := s__law_stands.nd
  have tk : L2N.Takes (cxOf (L2N.CX P w) P w K mg base N__law_stands "_law_stands" (defScope (topS 48)) (He.ga K "_law_stands") cdv A outer s H E) (fun cls d _ H => E cls d H) := L2N.takes_of rfl rfl rfl rfl
  have px : Passes (L2N.CX P w) (cxOf (L2N.CX P w) P w K mg base N__law_stands "_law_stands" (defScope (topS 48)) (He.ga K "_law_stands") cdv A outer s H E) E := L2N.passes_call tk fun _ _ _ _ h => h
  have po : PassesOwn (model P w) (cxOf (L2N.CX P w) P w K mg base N__law_stands "_law_stands" (defScope (topS 48)) (He.ga K "_law_stands") cdv A outer s H E).A (cxOf (L2N.CX P w) P w K mg base N__law_stands "_law_stands" (defScope (topS 48)) (He.ga K "_law_stands") cdv A outer s H E).env (cxOf (L2N.CX P w) P w K mg base N__law_stands "_law_stands" (defScope (topS 48)) (He.ga K "_law_stands") cdv A outer s H E).xe := passes_of rfl
  exact (d_one (d_ret (d_tup (d_cons (d_tup (d_cons (d_tup (d_cons d_int (d_cons d_int d_nil))) (d_cons (d_tup (d_cons d_int (d_cons d_int d_nil))) d_nil))) (d_cons (d_tup (d_cons (d_tup (d_cons d_int (d_cons d_int d_nil))) (d_cons (d_tup (d_cons d_int (d_cons d_int d_nil))) d_nil))) (d_cons (d_tup (d_cons (d_tup (d_cons d_int (d_cons d_int d_nil))) (d_cons (d_tup (d_cons d_int (d_cons d_int d_nil))) d_nil))) (d_cons (d_tup (d_cons (d_tup (d_cons d_int (d_cons d_int d_nil))) (d_cons (d_tup (d_cons d_int (d_cons d_int d_nil))) d_nil))) d_nil)))))))
abbrev N_law_k07 : List Str := ["script", "cell", "deck", "turn", "size", "step_so", "start_so", "plane_so", "most", "due", "here", "many", "some", "lead", "odd", "s", "f", "q", "r", "d", "z", "a", "b", "c", "none", "round_so"]
theorem s_law_k07 : FnScope N_law_k07 ["script"] (defScope (topS 57)) := ⟨by kernel_rfl, by kernel_rfl, by kernel_rfl, by decide +kernel, by kernel_rfl, by decide +kernel, by decide +kernel⟩
theorem c_law_k07 (X : Fx K mg T) (Y : Ty K mg base) {fd : FuncData} (G : FunD K "law" "law" (defArgs (topS 57)) (defBody (topS 57)) (defScope (topS 57)) [] [] (He.ga K "law") fd) : FnOk P w K mg base (L2N.CX P w) 13 (He.ga K "law") fd ["script"] (spD K T mg 1 m_law_k07) := by
  refine fn_ofC (F := F_law_k07) G s_law_k07 rfl rfl (by decide) fun cdv A outer s H E hcd hr => ?_
  subst hcd
  obtain ⟨gd, Gt⟩ := X.d__law_try
  obtain ⟨kd, Gk⟩ := X.d__law_kin
  have Bt : Binds K gd ["call_so"] [] := Gt.bindsN fun _ _ _ _ _ _ us hl => match us, hl with | [_], _ => rfl
  have Bk : Binds K kd ["e"] [] := Gk.bindsN fun _ _ _ _ _ _ us hl => match us, hl with | [_], _ => rfl
  have nd : N_law_k07.Nodup := s_law_k07.nd
  have tk : L2N.Takes (cxOf (L2N.CX P w) P w K mg base N_law_k07 "law" (defScope (topS 57)) (He.ga K "law") (.ref (He.codeOf K ("law", none))) A outer s H E) (fun cls d _ H => E cls d H) := L2N.takes_of rfl rfl rfl rfl
  have px : Passes (L2N.CX P w) (cxOf (L2N.CX P w) P w K mg base N_law_k07 "law" (defScope (topS 57)) (He.ga K "law") (.ref (He.codeOf K ("law", none))) A outer s H E) E := L2N.passes_call tk fun _ _ _ _ h => h
  have po : PassesOwn (model P w) (cxOf (L2N.CX P w) P w K mg base N_law_k07 "law" (defScope (topS 57)) (He.ga K "law") (.ref (He.codeOf K ("law", none))) A outer s H E).A (cxOf (L2N.CX P w) P w K mg base N_law_k07 "law" (defScope (topS 57)) (He.ga K "law") (.ref (He.codeOf K ("law", none))) A outer s H E).env (cxOf (L2N.CX P w) P w K mg base N_law_k07 "law" (defScope (topS 57)) (He.ga K "law") (.ref (He.codeOf K ("law", none))) A outer s H E).xe := passes_of rfl
  have hr2 : Room (10 + 2) (cxOf (L2N.CX P w) P w K mg base N_law_k07 "law" (defScope (topS 57)) (He.ga K "law") (.ref (He.codeOf K ("law", none))) A outer s H E).A := hr
  have GT : ∀ cdg, GivesN (cxOf (L2N.CX P w) P w K mg base N_law_k07 "law" (defScope (topS 57)) (He.ga K "law") (.ref (He.codeOf K ("law", none))) A outer s H E) NT "_law_try" (defScope (topS 46)) (He.ga K "_law_try") cdg (defBody (topS 46)) "call_so" ((cxOf (L2N.CX P w) P w K mg base N_law_k07 "law" (defScope (topS 57)) (He.ga K "law") (.ref (He.codeOf K ("law", none))) A outer s H E).env.qual ++ "<lambda>") (TTry K T) := fun cdg => try_gives (k := 1) X.kin (c__law_kin X Gk) (Room.mono hr (by decide)) X.g__law_kin Gk.kp Bk (by kernel_rfl) (by kernel_rfl) (by kernel_rfl) (by kernel_rfl) (by kernel_rfl) (by kernel_rfl)
  have TB := Y.tb_law
  have hmT := X.tm_law
  have hu := X.tu_law
  have V0 : ∀ p : Pos, PE (cxOf (L2N.CX P w) P w K mg base N_law_k07 "law" (defScope (topS 57)) (He.ga K "law") (.ref (He.codeOf K ("law", none))) A outer s H E) (.Name "script" p) (rdE K T mg E (sVar 0)) := fun p => d_var 0 rfl (.inl (by kernel_rfl)) (by kernel_rfl) (by kernel_rfl)
  have V1 : ∀ p : Pos, PE (cxOf (L2N.CX P w) P w K mg base N_law_k07 "law" (defScope (topS 57)) (He.ga K "law") (.ref (He.codeOf K ("law", none))) A outer s H E) (.Name "cell" p) (rdE K T mg E (sVar 1)) := fun p => d_var 1 rfl (.inl (by kernel_rfl)) (by kernel_rfl) (by kernel_rfl)
  have V2 : ∀ p : Pos, PE (cxOf (L2N.CX P w) P w K mg base N_law_k07 "law" (defScope (topS 57)) (He.ga K "law") (.ref (He.codeOf K ("law", none))) A outer s H E) (.Name "deck" p) (rdE K T mg E (sVar 2)) := fun p => d_var 2 rfl (.inl (by kernel_rfl)) (by kernel_rfl) (by kernel_rfl)
  have V3 : ∀ p : Pos, PE (cxOf (L2N.CX P w) P w K mg base N_law_k07 "law" (defScope (topS 57)) (He.ga K "law") (.ref (He.codeOf K ("law", none))) A outer s H E) (.Name "turn" p) (rdE K T mg E (sVar 3)) := fun p => d_var 3 rfl (.inl (by kernel_rfl)) (by kernel_rfl) (by kernel_rfl)
  have V4 : ∀ p : Pos, PE (cxOf (L2N.CX P w) P w K mg base N_law_k07 "law" (defScope (topS 57)) (He.ga K "law") (.ref (He.codeOf K ("law", none))) A outer s H E) (.Name "size" p) (rdE K T mg E (sVar 4)) := fun p => d_var 4 rfl (.inl (by kernel_rfl)) (by kernel_rfl) (by kernel_rfl)
  have V5 : ∀ p : Pos, PE (cxOf (L2N.CX P w) P w K mg base N_law_k07 "law" (defScope (topS 57)) (He.ga K "law") (.ref (He.codeOf K ("law", none))) A outer s H E) (.Name "step_so" p) (rdE K T mg E (sVar 5)) := fun p => d_var 5 rfl (.inr (.inl (by kernel_rfl))) (by kernel_rfl) (by kernel_rfl)
  have V6 : ∀ p : Pos, PE (cxOf (L2N.CX P w) P w K mg base N_law_k07 "law" (defScope (topS 57)) (He.ga K "law") (.ref (He.codeOf K ("law", none))) A outer s H E) (.Name "start_so" p) (rdE K T mg E (sVar 6)) := fun p => d_var 6 rfl (.inr (.inl (by kernel_rfl))) (by kernel_rfl) (by kernel_rfl)
  have V7 : ∀ p : Pos, PE (cxOf (L2N.CX P w) P w K mg base N_law_k07 "law" (defScope (topS 57)) (He.ga K "law") (.ref (He.codeOf K ("law", none))) A outer s H E) (.Name "plane_so" p) (rdE K T mg E (sVar 7)) := fun p => d_var 7 rfl (.inr (.inl (by kernel_rfl))) (by kernel_rfl) (by kernel_rfl)
  have V8 : ∀ p : Pos, PE (cxOf (L2N.CX P w) P w K mg base N_law_k07 "law" (defScope (topS 57)) (He.ga K "law") (.ref (He.codeOf K ("law", none))) A outer s H E) (.Name "most" p) (rdE K T mg E (sVar 8)) := fun p => d_var 8 rfl (.inr (.inl (by kernel_rfl))) (by kernel_rfl) (by kernel_rfl)
  have V9 : ∀ p : Pos, PE (cxOf (L2N.CX P w) P w K mg base N_law_k07 "law" (defScope (topS 57)) (He.ga K "law") (.ref (He.codeOf K ("law", none))) A outer s H E) (.Name "due" p) (rdE K T mg E (sVar 9)) := fun p => d_var 9 rfl (.inl (by kernel_rfl)) (by kernel_rfl) (by kernel_rfl)
  have V10 : ∀ p : Pos, PE (cxOf (L2N.CX P w) P w K mg base N_law_k07 "law" (defScope (topS 57)) (He.ga K "law") (.ref (He.codeOf K ("law", none))) A outer s H E) (.Name "here" p) (rdE K T mg E (sVar 10)) := fun p => d_var 10 rfl (.inl (by kernel_rfl)) (by kernel_rfl) (by kernel_rfl)
  have V11 : ∀ p : Pos, PE (cxOf (L2N.CX P w) P w K mg base N_law_k07 "law" (defScope (topS 57)) (He.ga K "law") (.ref (He.codeOf K ("law", none))) A outer s H E) (.Name "many" p) (rdE K T mg E (sVar 11)) := fun p => d_var 11 rfl (.inl (by kernel_rfl)) (by kernel_rfl) (by kernel_rfl)
  have V12 : ∀ p : Pos, PE (cxOf (L2N.CX P w) P w K mg base N_law_k07 "law" (defScope (topS 57)) (He.ga K "law") (.ref (He.codeOf K ("law", none))) A outer s H E) (.Name "some" p) (rdE K T mg E (sVar 12)) := fun p => d_var 12 rfl (.inl (by kernel_rfl)) (by kernel_rfl) (by kernel_rfl)
  have V13 : ∀ p : Pos, PE (cxOf (L2N.CX P w) P w K mg base N_law_k07 "law" (defScope (topS 57)) (He.ga K "law") (.ref (He.codeOf K ("law", none))) A outer s H E) (.Name "lead" p) (rdE K T mg E (sVar 13)) := fun p => d_var 13 rfl (.inl (by kernel_rfl)) (by kernel_rfl) (by kernel_rfl)
  have V14 : ∀ p : Pos, PE (cxOf (L2N.CX P w) P w K mg base N_law_k07 "law" (defScope (topS 57)) (He.ga K "law") (.ref (He.codeOf K ("law", none))) A outer s H E) (.Name "odd" p) (rdE K T mg E (sVar 14)) := fun p => d_var 14 rfl (.inr (.inl (by kernel_rfl))) (by kernel_rfl) (by kernel_rfl)
  have V15 : ∀ p : Pos, PE (cxOf (L2N.CX P w) P w K mg base N_law_k07 "law" (defScope (topS 57)) (He.ga K "law") (.ref (He.codeOf K ("law", none))) A outer s H E) (.Name "s" p) (rdE K T mg E (sVar 15)) := fun p => d_var 15 rfl (.inl (by kernel_rfl)) (by kernel_rfl) (by kernel_rfl)
  have V16 : ∀ p : Pos, PE (cxOf (L2N.CX P w) P w K mg base N_law_k07 "law" (defScope (topS 57)) (He.ga K "law") (.ref (He.codeOf K ("law", none))) A outer s H E) (.Name "f" p) (rdE K T mg E (sVar 16)) := fun p => d_var 16 rfl (.inl (by kernel_rfl)) (by kernel_rfl) (by kernel_rfl)
  have V17 : ∀ p : Pos, PE (cxOf (L2N.CX P w) P w K mg base N_law_k07 "law" (defScope (topS 57)) (He.ga K "law") (.ref (He.codeOf K ("law", none))) A outer s H E) (.Name "q" p) (rdE K T mg E (sVar 17)) := fun p => d_var 17 rfl (.inl (by kernel_rfl)) (by kernel_rfl) (by kernel_rfl)
  have V18 : ∀ p : Pos, PE (cxOf (L2N.CX P w) P w K mg base N_law_k07 "law" (defScope (topS 57)) (He.ga K "law") (.ref (He.codeOf K ("law", none))) A outer s H E) (.Name "r" p) (rdE K T mg E (sVar 18)) := fun p => d_var 18 rfl (.inl (by kernel_rfl)) (by kernel_rfl) (by kernel_rfl)
  have V19 : ∀ p : Pos, PE (cxOf (L2N.CX P w) P w K mg base N_law_k07 "law" (defScope (topS 57)) (He.ga K "law") (.ref (He.codeOf K ("law", none))) A outer s H E) (.Name "d" p) (rdE K T mg E (sVar 19)) := fun p => d_var 19 rfl (.inl (by kernel_rfl)) (by kernel_rfl) (by kernel_rfl)
  have V20 : ∀ p : Pos, PE (cxOf (L2N.CX P w) P w K mg base N_law_k07 "law" (defScope (topS 57)) (He.ga K "law") (.ref (He.codeOf K ("law", none))) A outer s H E) (.Name "z" p) (rdE K T mg E (sVar 20)) := fun p => d_var 20 rfl (.inl (by kernel_rfl)) (by kernel_rfl) (by kernel_rfl)
  have V21 : ∀ p : Pos, PE (cxOf (L2N.CX P w) P w K mg base N_law_k07 "law" (defScope (topS 57)) (He.ga K "law") (.ref (He.codeOf K ("law", none))) A outer s H E) (.Name "a" p) (rdE K T mg E (sVar 21)) := fun p => d_var 21 rfl (.inl (by kernel_rfl)) (by kernel_rfl) (by kernel_rfl)
  have V22 : ∀ p : Pos, PE (cxOf (L2N.CX P w) P w K mg base N_law_k07 "law" (defScope (topS 57)) (He.ga K "law") (.ref (He.codeOf K ("law", none))) A outer s H E) (.Name "b" p) (rdE K T mg E (sVar 22)) := fun p => d_var 22 rfl (.inl (by kernel_rfl)) (by kernel_rfl) (by kernel_rfl)
  have V23 : ∀ p : Pos, PE (cxOf (L2N.CX P w) P w K mg base N_law_k07 "law" (defScope (topS 57)) (He.ga K "law") (.ref (He.codeOf K ("law", none))) A outer s H E) (.Name "c" p) (rdE K T mg E (sVar 23)) := fun p => d_var 23 rfl (.inl (by kernel_rfl)) (by kernel_rfl) (by kernel_rfl)
  have V24 : ∀ p : Pos, PE (cxOf (L2N.CX P w) P w K mg base N_law_k07 "law" (defScope (topS 57)) (He.ga K "law") (.ref (He.codeOf K ("law", none))) A outer s H E) (.Name "none" p) (rdE K T mg E (sVar 24)) := fun p => d_var 24 rfl (.inl (by kernel_rfl)) (by kernel_rfl) (by kernel_rfl)
  have V25 : ∀ p : Pos, PE (cxOf (L2N.CX P w) P w K mg base N_law_k07 "law" (defScope (topS 57)) (He.ga K "law") (.ref (He.codeOf K ("law", none))) A outer s H E) (.Name "round_so" p) (rdE K T mg E (sVar 25)) := fun p => d_var 25 rfl (.inl (by kernel_rfl)) (by kernel_rfl) (by kernel_rfl)
  exact (d_seq (d_for (t := .nm 1) [1, 2, 3, 8, 9, 10, 11, 12, 13, 14] po rfl (di_seq (d_slice (d_op op_addA os_add (d_lst (d_cons d_int d_nil)) (V0 _)) d_po0 (d_po1 d_int))) (pg_name (i := 1) nd rfl (.inl (by kernel_rfl)) (.inl rfl))
  (d_seq (d_set 2 (d_call ((c__law_deck X Y).mono (by decide)) hr (by unfold Gl; kernel_rfl) px (d_cons (V1 _) (d_cons d_int d_nil))) nd rfl (.inl (by kernel_rfl)) (by rfl) (.inl rfl))
 (d_seq (d_for (t := .nm 3) [3, 8, 9, 10, 11, 12, 13] po rfl (di_range1 (by unfold Gl; kernel_rfl) X.f_range (d_cons d_int d_nil)) (pg_name (i := 3) nd rfl (.inl (by kernel_rfl)) (.inl rfl))
  (d_seq (d_set 4 (d_op op_addA os_add d_int (d_call ((c__law_pick X Y).mono (by decide)) hr (by unfold Gl; kernel_rfl) px (d_cons (V2 _) (d_cons d_int d_nil)))) nd rfl (.inl (by kernel_rfl)) (by rfl) (.inl rfl))
 (d_seq (d_set 5 (d_call ((c__law_one X Y).mono (by decide)) hr (by unfold Gl; kernel_rfl) px (d_cons (V2 _) (d_cons (d_lst (d_cons (d_call ((c__law_a_step X Y).mono (by decide)) hr (by unfold Gl; kernel_rfl) px (d_cons (V2 _) (d_cons (V4 _) (d_cons d_int d_nil)))) (d_cons (d_call ((c__law_even_step X Y).mono (by decide)) hr (by unfold Gl; kernel_rfl) px (d_cons (V2 _) (d_cons (V4 _) d_nil))) d_nil))) d_nil))) nd rfl (.inr (by kernel_rfl)) (by rfl) (.inl rfl))
 (d_seq (d_set 6 (d_call ((c__law_a_stand X Y).mono (by decide)) hr (by unfold Gl; kernel_rfl) px (d_cons (V2 _) (d_cons (V4 _) (d_cons d_int d_nil)))) nd rfl (.inr (by kernel_rfl)) (by rfl) (.inl rfl))
 (d_seq (d_asg (t := .tp [7, 8]) (d_tup (d_cons (d_call ((c__law_a_plane X Y).mono (by decide)) hr (by unfold Gl; kernel_rfl) px (d_cons (V2 _) (d_cons (V5 _) (d_cons (V6 _) d_nil)))) (d_cons (d_call ((c__law_pick X Y).mono (by decide)) hr (by unfold Gl; kernel_rfl) px (d_cons (V2 _) (d_cons d_int d_nil))) d_nil))) (pg_tup rfl (pgs_cons (pg_name (i := 7) nd rfl (.inr (by kernel_rfl)) (.inl rfl)) (pgs_cons (pg_name (i := 8) nd rfl (.inr (by kernel_rfl)) (.inl rfl)) pgs_nil))))
 (d_seq (d_parOV 9 10 rfl nd (d_lstF d_nil) (V6 _) (by rfl) rfl rfl (by decide) (by kernel_rfl) (by kernel_rfl))
 (d_seq (d_for (t := .nm 11) [11] po rfl (di_range1 (by unfold Gl; kernel_rfl) X.f_range (d_cons d_int d_nil)) (pg_name (i := 11) nd rfl (.inl (by kernel_rfl)) (.inl rfl))
  (d_seq (d_if (dt_val (d_call ((c__law_is_on X Y).mono (by decide)) hr (by unfold Gl; kernel_rfl) px (d_cons (V10 _) (d_cons (V7 _) d_nil)))) (d_one (d_app 9 (V11 _) rfl (.inl (by kernel_rfl)) (by kernel_rfl) (by kernel_rfl))) d_skip)
 (d_one (d_set 10 (d_call ((c__law_next X Y).mono (by decide)) hr (by unfold Gl; kernel_rfl) px (d_cons (V5 _) (d_cons (V10 _) d_nil))) nd rfl (.inl (by kernel_rfl)) (by rfl) (.inl rfl)))))
 (d_seal 9 (d_seq (d_setLc (t := .nm 11) 12 [("many", 11)] rfl nd (sw_true rfl (by kernel_rfl) rfl (by kernel_rfl)) (di_seq (V9 _)) (blkOk_by (own := [("many", 11)]) (N := N_law_k07) (by kernel_rfl)) (fun _ _ _ _ _ => (pg_name (i := 11) nd rfl (.inl (by kernel_rfl)) (.inr (by kernel_rfl)))) (fun _ _ _ _ _ => (d_ts1 (dt_cmp op_le os_cmp (d_var 11 rfl (.inl (by kernel_rfl)) (by kernel_rfl) (by kernel_rfl)) (d_var 8 rfl (.inr (.inl (by kernel_rfl))) (by kernel_rfl) (by kernel_rfl)) (nomark _)))) (fun _ _ _ _ _ => (d_var 11 rfl (.inl (by kernel_rfl)) (by kernel_rfl) (by kernel_rfl))) rfl (by kernel_rfl))
 (d_seq (d_if (dt_not (dt_val (d_call ((c__law_same X Y).mono (by decide)) hr (by unfold Gl; kernel_rfl) px (d_cons (d_call ((c_all_on X Y).mono (by decide)) hr (by unfold Gl; kernel_rfl) px (d_cons (V5 _) (d_cons (V6 _) (d_cons (V7 _) (d_cons (V8 _) d_nil))))) (d_cons (V12 _) d_nil))))) (d_one (d_ret d_bl)) d_skip)
 (d_seq (d_set 13 (d_ifE (dt_cmp (op_neD hr.units) os_ne (V12 _) (d_lst d_nil) (nomark _)) (d_ix (V12 _) d_int (fun _ _ => rfl)) d_non) nd rfl (.inl (by kernel_rfl)) (by rfl) (.inl rfl))
 (d_seq (d_if (dt_not (dt_val (d_call ((c__law_same X Y).mono (by decide)) hr (by unfold Gl; kernel_rfl) px (d_cons (d_call ((c_first_on X Y).mono (by decide)) hr (by unfold Gl; kernel_rfl) px (d_cons (V5 _) (d_cons (V6 _) (d_cons (V7 _) (d_cons (V8 _) d_nil))))) (d_cons (V13 _) d_nil))))) (d_one (d_ret d_bl)) d_skip)
 (d_one (d_if (dt_not (dt_val (d_call ((c__law_same X Y).mono (by decide)) hr (by unfold Gl; kernel_rfl) px (d_cons (d_call ((c_stays_on X Y).mono (by decide)) hr (by unfold Gl; kernel_rfl) px (d_cons (V5 _) (d_cons (V6 _) (d_cons (V7 _) d_nil)))) (d_cons (d_cmp (op_eqD hr.units) os_eq (d_cb cr_len cs_len (by unfold Gl; kernel_rfl) X.f_len boot_len (d_cons (V9 _) d_nil)) d_int (nomark _)) d_nil))))) (d_one (d_ret d_bl)) d_skip))))))))))))))
 (d_seq (d_set 12 (d_lst (d_cons (d_op op_mulA os_mul (d_tup (d_cons (d_op op_addA os_add (d_op op_pow os_pow d_int d_int) d_int) d_nil)) (d_op op_addA os_add (V4 _) d_int)) (d_cons (d_op op_mulA os_mul (d_tup (d_cons d_bl d_nil)) (d_op op_addA os_add (V4 _) d_int)) (d_cons (d_op op_mulA os_mul (d_lst (d_cons d_int d_nil)) (d_op op_addA os_add (V4 _) d_int)) d_nil)))) nd rfl (.inl (by kernel_rfl)) (by rfl) (.inl rfl))
 (d_seq (d_for (t := .nm 14) [14] po rfl (di_seq (d_op op_addA os_add (V12 _) (d_lst (d_cons d_non (d_cons (d_op op_mulA os_mul (d_tup (d_cons d_int d_nil)) (V4 _)) (d_cons (d_op op_mulA os_mul (d_tup (d_cons d_int d_nil)) (d_op op_addA os_add (V4 _) d_int)) d_nil)))))) (pg_name (i := 14) nd rfl (.inr (by kernel_rfl)) (.inl rfl))
  (d_seq (d_if (dt_cmp (op_neD hr.units) os_ne (d_try X.kin GT (by unfold Gl; kernel_rfl) X.g__law_try Gt Bt s__law_try (.inl (by kernel_rfl)) TB rfl hmT hu hr2 (lamS_by (by kernel_rfl)) rfl (fun _ _ _ _ _ => rfl) (fun A2 outer2 s2 H2 E2 f2 c2 hr => (d_call ((c_first_on X Y).mono (by decide)) hr (by unfold Gl; kernel_rfl) (L2N.passes_call (L2N.takes_of rfl rfl rfl rfl) fun _ _ _ _ h => h) (d_cons (d_var 5 rfl (.inr (.inr (by kernel_rfl))) (by kernel_rfl) (by kernel_rfl)) (d_cons (d_var 6 rfl (.inr (.inr (by kernel_rfl))) (by kernel_rfl) (by kernel_rfl)) (d_cons (d_var 14 rfl (.inr (.inr (by kernel_rfl))) (by kernel_rfl) (by kernel_rfl)) (d_cons d_non d_nil))))))) d_str (nomark _)) (d_one (d_ret d_bl)) d_skip)
 (d_one (d_if (dt_cmp (op_neD hr.units) os_ne (d_try X.kin GT (by unfold Gl; kernel_rfl) X.g__law_try Gt Bt s__law_try (.inl (by kernel_rfl)) TB rfl hmT hu hr2 (lamS_by (by kernel_rfl)) rfl (fun _ _ _ _ _ => rfl) (fun A2 outer2 s2 H2 E2 f2 c2 hr => (d_call ((c_stays_on X Y).mono (by decide)) hr (by unfold Gl; kernel_rfl) (L2N.passes_call (L2N.takes_of rfl rfl rfl rfl) fun _ _ _ _ h => h) (d_cons (d_var 5 rfl (.inr (.inr (by kernel_rfl))) (by kernel_rfl) (by kernel_rfl)) (d_cons (d_var 6 rfl (.inr (.inr (by kernel_rfl))) (by kernel_rfl) (by kernel_rfl)) (d_cons (d_var 14 rfl (.inr (.inr (by kernel_rfl))) (by kernel_rfl) (by kernel_rfl)) d_nil)))))) d_str (nomark _)) (d_one (d_ret d_bl)) d_skip))))
 (d_seq (d_for (t := .nm 14) [14] po rfl (di_seq (d_lst (d_cons d_non (d_cons (d_un un_neg us_neg d_int) (d_cons d_int (d_cons d_bl d_nil)))))) (pg_name (i := 14) nd rfl (.inr (by kernel_rfl)) (.inl rfl))
  (d_one (d_if (dt_cmp (op_neD hr.units) os_ne (d_try X.kin GT (by unfold Gl; kernel_rfl) X.g__law_try Gt Bt s__law_try (.inl (by kernel_rfl)) TB rfl hmT hu hr2 (lamS_by (by kernel_rfl)) rfl (fun _ _ _ _ _ => rfl) (fun A2 outer2 s2 H2 E2 f2 c2 hr => (d_call ((c_all_on X Y).mono (by decide)) hr (by unfold Gl; kernel_rfl) (L2N.passes_call (L2N.takes_of rfl rfl rfl rfl) fun _ _ _ _ h => h) (d_cons (d_var 5 rfl (.inr (.inr (by kernel_rfl))) (by kernel_rfl) (by kernel_rfl)) (d_cons (d_var 6 rfl (.inr (.inr (by kernel_rfl))) (by kernel_rfl) (by kernel_rfl)) (d_cons (d_var 7 rfl (.inr (.inr (by kernel_rfl))) (by kernel_rfl) (by kernel_rfl)) (d_cons (d_var 14 rfl (.inr (.inr (by kernel_rfl))) (by kernel_rfl) (by kernel_rfl)) d_nil))))))) d_str (nomark _)) (d_one (d_ret d_bl)) d_skip)))
 (d_seq (d_if (dt_cmp (op_neD hr.units) os_ne (d_try X.kin GT (by unfold Gl; kernel_rfl) X.g__law_try Gt Bt s__law_try (.inl (by kernel_rfl)) TB rfl hmT hu hr2 (lamS_by (by kernel_rfl)) rfl (fun _ _ _ _ _ => rfl) (fun A2 outer2 s2 H2 E2 f2 c2 hr => (d_call ((c_first_on X Y).mono (by decide)) hr (by unfold Gl; kernel_rfl) (L2N.passes_call (L2N.takes_of rfl rfl rfl rfl) fun _ _ _ _ h => h) (d_cons (d_var 5 rfl (.inr (.inr (by kernel_rfl))) (by kernel_rfl) (by kernel_rfl)) (d_cons d_non (d_cons d_non (d_cons d_non d_nil))))))) d_str (nomark _)) (d_one (d_ret d_bl)) d_skip)
 (d_one (d_if (dt_cmp (op_neD hr.units) os_ne (d_try X.kin GT (by unfold Gl; kernel_rfl) X.g__law_try Gt Bt s__law_try (.inl (by kernel_rfl)) TB rfl hmT hu hr2 (lamS_by (by kernel_rfl)) rfl (fun _ _ _ _ _ => rfl) (fun A2 outer2 s2 H2 E2 f2 c2 hr => (d_call ((c_all_on X Y).mono (by decide)) hr (by unfold Gl; kernel_rfl) (L2N.passes_call (L2N.takes_of rfl rfl rfl rfl) fun _ _ _ _ h => h) (d_cons d_non (d_cons d_non (d_cons d_non (d_cons d_non d_nil))))))) d_str (nomark _)) (d_one (d_ret d_bl)) d_skip)))))))))
 (d_seq (d_asg (t := .tp [15, 16, 17, 18, 19, 20]) (d_call0 ((c__law_known X Y).mono (by decide)) hr (by unfold Gl; kernel_rfl) px) (pg_tup rfl (pgs_cons (pg_name (i := 15) nd rfl (.inl (by kernel_rfl)) (.inl rfl)) (pgs_cons (pg_name (i := 16) nd rfl (.inl (by kernel_rfl)) (.inl rfl)) (pgs_cons (pg_name (i := 17) nd rfl (.inl (by kernel_rfl)) (.inl rfl)) (pgs_cons (pg_name (i := 18) nd rfl (.inl (by kernel_rfl)) (.inl rfl)) (pgs_cons (pg_name (i := 19) nd rfl (.inl (by kernel_rfl)) (.inl rfl)) (pgs_cons (pg_name (i := 20) nd rfl (.inl (by kernel_rfl)) (.inl rfl)) pgs_nil))))))))
 (d_seq (d_asg (t := .tp [21, 22, 23, 24]) (d_call0 ((c__law_stands X Y).mono (by decide)) hr (by unfold Gl; kernel_rfl) px) (pg_tup rfl (pgs_cons (pg_name (i := 21) nd rfl (.inl (by kernel_rfl)) (.inl rfl)) (pgs_cons (pg_name (i := 22) nd rfl (.inl (by kernel_rfl)) (.inl rfl)) (pgs_cons (pg_name (i := 23) nd rfl (.inl (by kernel_rfl)) (.inl rfl)) (pgs_cons (pg_name (i := 24) nd rfl (.inl (by kernel_rfl)) (.inl rfl)) pgs_nil))))))
 (d_seq (d_if (PW.pt (d_orB (dt_cmp (op_neD hr.units) os_ne (d_call ((c_first_on X Y).mono (by decide)) hr (by unfold Gl; kernel_rfl) px (d_cons (V16 _) (d_cons (V21 _) (d_cons (d_tup (d_cons d_int (d_cons d_int (d_cons d_int d_nil)))) (d_cons d_int d_nil))))) d_int (nomark _)) (d_or1 (dt_cmp op_notN os_notN (d_call ((c_first_on X Y).mono (by decide)) hr (by unfold Gl; kernel_rfl) px (d_cons (V15 _) (d_cons (V21 _) (d_cons (d_tup (d_cons d_int (d_cons (d_un un_neg us_neg d_int) (d_cons d_int d_nil)))) (d_cons d_int d_nil))))) d_non (nomark _))))) (d_one (d_ret d_bl)) d_skip)
 (d_seq (d_if (dt_cmp (op_neD hr.units) os_ne (d_call ((c_all_on X Y).mono (by decide)) hr (by unfold Gl; kernel_rfl) px (d_cons (V17 _) (d_cons (V22 _) (d_cons (d_tup (d_cons d_int (d_cons d_int (d_cons d_int d_nil)))) (d_cons d_int d_nil))))) (d_lst (d_cons d_int (d_cons d_int (d_cons d_int d_nil)))) (nomark _)) (d_one (d_ret d_bl)) d_skip)
 (d_seq (d_if (dt_cmp (op_neD hr.units) os_ne (d_call ((c_all_on X Y).mono (by decide)) hr (by unfold Gl; kernel_rfl) px (d_cons (V16 _) (d_cons (V21 _) (d_cons (d_tup (d_cons d_int (d_cons d_int (d_cons d_int d_nil)))) (d_cons d_int d_nil))))) (d_lst (d_cons d_int d_nil)) (nomark _)) (d_one (d_ret d_bl)) d_skip)
 (d_seq (d_if (dt_cmp (op_neD hr.units) os_ne (d_call ((c_all_on X Y).mono (by decide)) hr (by unfold Gl; kernel_rfl) px (d_cons (V16 _) (d_cons (V21 _) (d_cons (d_tup (d_cons d_int (d_cons d_int (d_cons d_int d_nil)))) (d_cons d_int d_nil))))) (d_lst d_nil) (nomark _)) (d_one (d_ret d_bl)) d_skip)
 (d_seq (d_if (PW.pt (d_orB (dt_not (dt_val (d_call ((c_stays_on X Y).mono (by decide)) hr (by unfold Gl; kernel_rfl) px (d_cons (V15 _) (d_cons (V21 _) (d_cons (d_tup (d_cons d_int (d_cons d_int (d_cons d_int d_nil)))) d_nil)))))) (d_orB (dt_val (d_call ((c_stays_on X Y).mono (by decide)) hr (by unfold Gl; kernel_rfl) px (d_cons (V17 _) (d_cons (V22 _) (d_cons (d_tup (d_cons d_int (d_cons d_int (d_cons d_int d_nil)))) d_nil))))) (d_or1 (dt_not (dt_val (d_call ((c_stays_on X Y).mono (by decide)) hr (by unfold Gl; kernel_rfl) px (d_cons (V20 _) (d_cons (V21 _) (d_cons (d_tup (d_cons d_int (d_cons d_int (d_cons d_int d_nil)))) d_nil)))))))))) (d_one (d_ret d_bl)) d_skip)
 (d_seq (d_set 25 (d_tup (d_cons d_int (d_cons (d_tup (d_cons (d_tup (d_cons d_int (d_cons d_int (d_cons d_int d_nil)))) (d_cons (d_tup (d_cons d_int (d_cons d_int (d_cons d_int d_nil)))) (d_cons (d_tup (d_cons d_int (d_cons d_int (d_cons d_int d_nil)))) d_nil)))) d_nil))) nd rfl (.inl (by kernel_rfl)) (by rfl) (.inl rfl))
 (d_seq (d_if (dt_val (d_call ((c_stays_on X Y).mono (by decide)) hr (by unfold Gl; kernel_rfl) px (d_cons (d_tup (d_cons d_int (d_cons (d_tup (d_cons (d_tup (d_cons d_int (d_cons d_int (d_cons d_int d_nil)))) (d_cons (d_tup (d_cons d_int (d_cons d_int (d_cons d_int d_nil)))) (d_cons (d_tup (d_cons d_int (d_cons d_int (d_cons d_int d_nil)))) d_nil)))) d_nil))) (d_cons (d_tup (d_cons (d_tup (d_cons d_int (d_cons d_int d_nil))) (d_cons (d_tup (d_cons d_int (d_cons d_int d_nil))) (d_cons (d_tup (d_cons d_int (d_cons d_int d_nil))) d_nil)))) (d_cons (d_tup (d_cons d_int (d_cons d_int (d_cons d_int (d_cons d_int d_nil))))) d_nil))))) (d_one (d_ret d_bl)) d_skip)
 (d_seq (d_if (dt_not (dt_val (d_call ((c_stays_on X Y).mono (by decide)) hr (by unfold Gl; kernel_rfl) px (d_cons (V19 _) (d_cons (V24 _) (d_cons (d_tup (d_cons d_int (d_cons d_int (d_cons d_int d_nil)))) d_nil)))))) (d_one (d_ret d_bl)) d_skip)
 (d_one (d_ret (d_cmp (op_eqD hr.units) os_eq (d_call ((c_all_on X Y).mono (by decide)) hr (by unfold Gl; kernel_rfl) px (d_cons (V25 _) (d_cons (d_tup (d_cons (d_tup (d_cons d_int (d_cons d_int d_nil))) (d_cons (d_tup (d_cons d_int (d_cons d_int d_nil))) (d_cons (d_tup (d_cons d_int (d_cons d_int d_nil))) d_nil)))) (d_cons (d_tup (d_cons d_int (d_cons d_int (d_cons d_int (d_cons d_int d_nil))))) (d_cons d_int d_nil))))) (d_lst (d_cons d_int (d_cons d_int (d_cons d_int d_nil)))) (nomark _)))))))))))))))
end K07
end Dt

set_option maxHeartbeats 0
namespace Dt
open PySem PySem.Spec PyProof.Rows L2 HotX L2H LamX
namespace K07
def names0 : List PySem.Str := ["ThereError", "InvalidStep", "InvalidStand", "InvalidNumber", "InvalidPlane", "InvalidFacts", "InvalidText", "Unlike", "NoWay", "Beyond", "NothingToUndo", "TooMany", "divisor", "fraction", "plus", "MOST_ENTRY", "MOST_TOP", "MOST_BELOW", "MOST_ROUNDS", "is_within", "is_row", "is_step_value", "is_fraction", "is_stand_value", "need_step", "need_stand", "need_number", "next_stand", "need_plane", "is_on"]
def names1 : List PySem.Str := ["rounds_on", "need_all", "first_on", "all_on", "stays_on", "_law_deck", "_law_pick", "_law_one", "_law_sort", "_law_same", "_law_kin", "_law_try", "_law_known", "_law_stands", "_law_low", "_law_next", "_law_after", "_law_a_step", "_law_even_step", "_law_a_stand", "_law_is_on", "_law_a_plane"]
def names : List PySem.Str := names0 ++ names1
def dd__law_deck : He.DefD := ⟨("_law_deck", none), "_law_deck", "_law_deck", defArgs (topS 40), defBody (topS 40), defScope (topS 40), [], []⟩
def dd__law_pick : He.DefD := ⟨("_law_pick", none), "_law_pick", "_law_pick", defArgs (topS 41), defBody (topS 41), defScope (topS 41), [], []⟩
def dd__law_one : He.DefD := ⟨("_law_one", none), "_law_one", "_law_one", defArgs (topS 42), defBody (topS 42), defScope (topS 42), [], []⟩
def dd__law_even_step : He.DefD := ⟨("_law_even_step", none), "_law_even_step", "_law_even_step", defArgs (topS 53), defBody (topS 53), defScope (topS 53), [], []⟩
def dd__law_a_step : He.DefD := ⟨("_law_a_step", none), "_law_a_step", "_law_a_step", defArgs (topS 52), defBody (topS 52), defScope (topS 52), [], []⟩
def dd__law_low : He.DefD := ⟨("_law_low", none), "_law_low", "_law_low", defArgs (topS 49), defBody (topS 49), defScope (topS 49), [], []⟩
def dd__law_a_stand : He.DefD := ⟨("_law_a_stand", none), "_law_a_stand", "_law_a_stand", defArgs (topS 54), defBody (topS 54), defScope (topS 54), [], []⟩
def dd__law_next : He.DefD := ⟨("_law_next", none), "_law_next", "_law_next", defArgs (topS 50), defBody (topS 50), defScope (topS 50), [], []⟩
def dd__law_after : He.DefD := ⟨("_law_after", none), "_law_after", "_law_after", defArgs (topS 51), defBody (topS 51), defScope (topS 51), [], []⟩
def dd__law_a_plane : He.DefD := ⟨("_law_a_plane", none), "_law_a_plane", "_law_a_plane", defArgs (topS 56), defBody (topS 56), defScope (topS 56), [], []⟩
def dd__law_is_on : He.DefD := ⟨("_law_is_on", none), "_law_is_on", "_law_is_on", defArgs (topS 55), defBody (topS 55), defScope (topS 55), [], []⟩
def dd__law_sort : He.DefD := ⟨("_law_sort", none), "_law_sort", "_law_sort", defArgs (topS 43), defBody (topS 43), defScope (topS 43), [], []⟩
def dd__law_same : He.DefD := ⟨("_law_same", none), "_law_same", "_law_same", defArgs (topS 44), defBody (topS 44), defScope (topS 44), [], []⟩
def dd_is_within : He.DefD := ⟨("is_within", none), "is_within", "is_within", defArgs (topS 22), defBody (topS 22), defScope (topS 22), [], []⟩
def dd_is_row : He.DefD := ⟨("is_row", none), "is_row", "is_row", defArgs (topS 23), defBody (topS 23), defScope (topS 23), [], []⟩
def dd_is_step_value : He.DefD := ⟨("is_step_value", none), "is_step_value", "is_step_value", defArgs (topS 24), defBody (topS 24), defScope (topS 24), [], []⟩
def dd_need_step : He.DefD := ⟨("need_step", none), "need_step", "need_step", defArgs (topS 27), defBody (topS 27), defScope (topS 27), [], []⟩
def dd_divisor : He.DefD := ⟨("divisor", none), "divisor", "divisor", defArgs (topS 14), defBody (topS 14), defScope (topS 14), [], []⟩
def dd_is_fraction : He.DefD := ⟨("is_fraction", none), "is_fraction", "is_fraction", defArgs (topS 25), defBody (topS 25), defScope (topS 25), [], []⟩
def dd_is_stand_value : He.DefD := ⟨("is_stand_value", none), "is_stand_value", "is_stand_value", defArgs (topS 26), defBody (topS 26), defScope (topS 26), [], []⟩
def dd_need_stand : He.DefD := ⟨("need_stand", none), "need_stand", "need_stand", defArgs (topS 28), defBody (topS 28), defScope (topS 28), [], []⟩
def dd_need_plane : He.DefD := ⟨("need_plane", none), "need_plane", "need_plane", defArgs (topS 32), defBody (topS 32), defScope (topS 32), [], []⟩
def dd_need_number : He.DefD := ⟨("need_number", none), "need_number", "need_number", defArgs (topS 29), defBody (topS 29), defScope (topS 29), [], []⟩
def dd_need_all : He.DefD := ⟨("need_all", none), "need_all", "need_all", defArgs (topS 35), defBody (topS 35), defScope (topS 35), [], []⟩
def dd_fraction : He.DefD := ⟨("fraction", none), "fraction", "fraction", defArgs (topS 15), defBody (topS 15), defScope (topS 15), [], []⟩
def dd_plus : He.DefD := ⟨("plus", none), "plus", "plus", defArgs (topS 16), defBody (topS 16), defScope (topS 16), [], []⟩
def dd_is_on : He.DefD := ⟨("is_on", none), "is_on", "is_on", defArgs (topS 33), defBody (topS 33), defScope (topS 33), [], []⟩
def dd_next_stand : He.DefD := ⟨("next_stand", none), "next_stand", "next_stand", defArgs (topS 30), defBody (topS 30), defScope (topS 30), [], []⟩
def dd_rounds_on : He.DefD := ⟨("rounds_on", none), "rounds_on", "rounds_on", defArgs (topS 34), defBody (topS 34), defScope (topS 34), [], []⟩
def dd_all_on : He.DefD := ⟨("all_on", none), "all_on", "all_on", defArgs (topS 37), defBody (topS 37), defScope (topS 37), [], []⟩
def dd_first_on : He.DefD := ⟨("first_on", none), "first_on", "first_on", defArgs (topS 36), defBody (topS 36), defScope (topS 36), [], []⟩
def dd_stays_on : He.DefD := ⟨("stays_on", none), "stays_on", "stays_on", defArgs (topS 38), defBody (topS 38), defScope (topS 38), [], []⟩
def dd__law_kin : He.DefD := ⟨("_law_kin", none), "_law_kin", "_law_kin", defArgs (topS 45), defBody (topS 45), defScope (topS 45), [], []⟩
def dd__law_try : He.DefD := ⟨("_law_try", none), "_law_try", "_law_try", defArgs (topS 46), defBody (topS 46), defScope (topS 46), [], []⟩
def dd__law_known : He.DefD := ⟨("_law_known", none), "_law_known", "_law_known", defArgs (topS 47), defBody (topS 47), defScope (topS 47), [], []⟩
def dd__law_stands : He.DefD := ⟨("_law_stands", none), "_law_stands", "_law_stands", defArgs (topS 48), defBody (topS 48), defScope (topS 48), [], []⟩
def dd_law : He.DefD := ⟨("law", none), "law", "law", defArgs (topS 57), defBody (topS 57), defScope (topS 57), [], []⟩
def fnL0 : List He.DefD := [dd__law_deck, dd__law_pick, dd__law_one, dd__law_even_step, dd__law_a_step, dd__law_low, dd__law_a_stand, dd__law_next, dd__law_after, dd__law_a_plane, dd__law_is_on, dd__law_sort, dd__law_same, dd_is_within, dd_is_row, dd_is_step_value, dd_need_step, dd_divisor, dd_is_fraction, dd_is_stand_value, dd_need_stand, dd_need_plane, dd_need_number, dd_need_all, dd_fraction, dd_plus, dd_is_on, dd_next_stand, dd_rounds_on, dd_all_on]
def fnL1 : List He.DefD := [dd_first_on, dd_stays_on, dd__law_kin, dd__law_try, dd__law_known, dd__law_stands, dd_law]
def fnL : List He.DefD := fnL0 ++ fnL1
def faL0 : List He.Fa := [.glo "_law_deck", .glo "_law_pick", .glo "_law_one", .glo "_law_even_step", .glo "_law_a_step", .glo "_law_low", .glo "_law_a_stand", .glo "_law_next", .glo "_law_after", .glo "_law_a_plane", .glo "_law_is_on", .glo "_law_sort", .glo "_law_same", .glo "is_within", .glo "is_row", .glo "is_step_value", .glo "need_step", .glo "divisor", .glo "is_fraction", .glo "is_stand_value", .glo "need_stand", .glo "need_plane", .glo "need_number", .glo "need_all", .glo "fraction", .glo "plus", .glo "is_on", .glo "next_stand", .glo "rounds_on", .glo "all_on"]
def faL1 : List He.Fa := [.glo "first_on", .glo "stays_on", .glo "_law_kin", .glo "_law_try", .glo "_law_known", .glo "_law_stands", .glo "law", .free "abs", .free "all", .free "bool", .free "enumerate", .free "int", .free "isinstance", .free "len", .free "list", .free "range", .free "str", .free "tuple", .free "zip", .int "MOST_BELOW" (100), .int "MOST_ENTRY" (9), .int "MOST_ROUNDS" (200), .int "MOST_TOP" (1000000000000000000000000000000), .exc "InvalidNumber", .glo "InvalidNumber", .exc "InvalidPlane", .glo "InvalidPlane", .exc "InvalidStand", .glo "InvalidStand", .exc "InvalidStep"]
def faL2 : List He.Fa := [.glo "InvalidStep"]
def faL : List He.Fa := faL0 ++ faL1 ++ faL2
def tfN : List Str := ["law"]
def tfL : List He.Defn := tfN.map fun f => (f, none)
def exB (K : PySem.W.Frag) : Bool := kinB K && apartB K tfN
abbrev hk : PySem.W.Hook := He.hookX 5 faL fnL [] tfL exB
def ob (s : PySem.W.SharedT) : He.AlX := He.obsX 5 faL fnL [] tfL exB (HandSHeadRun.getT s)
theorem ob_eq (s : PySem.W.SharedT) : ob s = hk.obs s.abs := He.obsX_eq (HandSHeadRun.getT_eq s)
theorem run (w : World) : HandSHeadRun.RunEq R (PySem.W.view R.prog [57]) hk ob 8000 names w := by
  intro os
  kernel_rfl
theorem fx_of {w : World} {K : PySem.W.Frag} {h : Heap} {mg : Str → Option Value} (KX : K.In h) (G : h.Ns mainGlobals mg) (c : He.SaysX faL fnL [] tfL exB w h K) : Fx K mg (tabL K tfN) := by
  have ex : kinB K = true ∧ apartB K tfN = true := by
    have q := c.more
    unfold exB at q
    exact Bool.and_eq_true_iff.mp q
  exact ⟨He.free_ok KX G (c.t.d.fact 37 (f := .free "abs") rfl),
    He.free_ok KX G (c.t.d.fact 38 (f := .free "all") rfl),
    He.free_ok KX G (c.t.d.fact 39 (f := .free "bool") rfl),
    He.free_ok KX G (c.t.d.fact 40 (f := .free "enumerate") rfl),
    He.free_ok KX G (c.t.d.fact 41 (f := .free "int") rfl),
    He.free_ok KX G (c.t.d.fact 42 (f := .free "isinstance") rfl),
    He.free_ok KX G (c.t.d.fact 43 (f := .free "len") rfl),
    He.free_ok KX G (c.t.d.fact 44 (f := .free "list") rfl),
    He.free_ok KX G (c.t.d.fact 45 (f := .free "range") rfl),
    He.free_ok KX G (c.t.d.fact 46 (f := .free "str") rfl),
    He.free_ok KX G (c.t.d.fact 47 (f := .free "tuple") rfl),
    He.free_ok KX G (c.t.d.fact 48 (f := .free "zip") rfl),
    He.int_ok KX G (c.t.d.fact 49 (f := .int "MOST_BELOW" (100)) rfl),
    He.int_ok KX G (c.t.d.fact 50 (f := .int "MOST_ENTRY" (9)) rfl),
    He.int_ok KX G (c.t.d.fact 51 (f := .int "MOST_ROUNDS" (200)) rfl),
    He.int_ok KX G (c.t.d.fact 52 (f := .int "MOST_TOP" (1000000000000000000000000000000)) rfl),
    ⟨He.glo_ok KX G (c.t.d.fact 54 (f := .glo "InvalidNumber") rfl), He.exc_ok (c.t.d.fact 53 (f := .exc "InvalidNumber") rfl)⟩,
    ⟨He.glo_ok KX G (c.t.d.fact 56 (f := .glo "InvalidPlane") rfl), He.exc_ok (c.t.d.fact 55 (f := .exc "InvalidPlane") rfl)⟩,
    ⟨He.glo_ok KX G (c.t.d.fact 58 (f := .glo "InvalidStand") rfl), He.exc_ok (c.t.d.fact 57 (f := .exc "InvalidStand") rfl)⟩,
    ⟨He.glo_ok KX G (c.t.d.fact 60 (f := .glo "InvalidStep") rfl), He.exc_ok (c.t.d.fact 59 (f := .exc "InvalidStep") rfl)⟩,
    He.glo_ok KX G (c.t.d.fact 0 (f := .glo "_law_deck") rfl),
    c.t.d.def_ 0 (d := dd__law_deck) rfl,
    He.glo_ok KX G (c.t.d.fact 1 (f := .glo "_law_pick") rfl),
    c.t.d.def_ 1 (d := dd__law_pick) rfl,
    He.glo_ok KX G (c.t.d.fact 2 (f := .glo "_law_one") rfl),
    c.t.d.def_ 2 (d := dd__law_one) rfl,
    He.glo_ok KX G (c.t.d.fact 3 (f := .glo "_law_even_step") rfl),
    c.t.d.def_ 3 (d := dd__law_even_step) rfl,
    He.glo_ok KX G (c.t.d.fact 4 (f := .glo "_law_a_step") rfl),
    c.t.d.def_ 4 (d := dd__law_a_step) rfl,
    He.glo_ok KX G (c.t.d.fact 5 (f := .glo "_law_low") rfl),
    c.t.d.def_ 5 (d := dd__law_low) rfl,
    He.glo_ok KX G (c.t.d.fact 6 (f := .glo "_law_a_stand") rfl),
    c.t.d.def_ 6 (d := dd__law_a_stand) rfl,
    He.glo_ok KX G (c.t.d.fact 7 (f := .glo "_law_next") rfl),
    c.t.d.def_ 7 (d := dd__law_next) rfl,
    He.glo_ok KX G (c.t.d.fact 8 (f := .glo "_law_after") rfl),
    c.t.d.def_ 8 (d := dd__law_after) rfl,
    He.glo_ok KX G (c.t.d.fact 9 (f := .glo "_law_a_plane") rfl),
    c.t.d.def_ 9 (d := dd__law_a_plane) rfl,
    He.glo_ok KX G (c.t.d.fact 10 (f := .glo "_law_is_on") rfl),
    c.t.d.def_ 10 (d := dd__law_is_on) rfl,
    He.glo_ok KX G (c.t.d.fact 11 (f := .glo "_law_sort") rfl),
    c.t.d.def_ 11 (d := dd__law_sort) rfl,
    He.glo_ok KX G (c.t.d.fact 12 (f := .glo "_law_same") rfl),
    c.t.d.def_ 12 (d := dd__law_same) rfl,
    He.glo_ok KX G (c.t.d.fact 13 (f := .glo "is_within") rfl),
    c.t.d.def_ 13 (d := dd_is_within) rfl,
    He.glo_ok KX G (c.t.d.fact 14 (f := .glo "is_row") rfl),
    c.t.d.def_ 14 (d := dd_is_row) rfl,
    He.glo_ok KX G (c.t.d.fact 15 (f := .glo "is_step_value") rfl),
    c.t.d.def_ 15 (d := dd_is_step_value) rfl,
    He.glo_ok KX G (c.t.d.fact 16 (f := .glo "need_step") rfl),
    c.t.d.def_ 16 (d := dd_need_step) rfl,
    He.glo_ok KX G (c.t.d.fact 17 (f := .glo "divisor") rfl),
    c.t.d.def_ 17 (d := dd_divisor) rfl,
    He.glo_ok KX G (c.t.d.fact 18 (f := .glo "is_fraction") rfl),
    c.t.d.def_ 18 (d := dd_is_fraction) rfl,
    He.glo_ok KX G (c.t.d.fact 19 (f := .glo "is_stand_value") rfl),
    c.t.d.def_ 19 (d := dd_is_stand_value) rfl,
    He.glo_ok KX G (c.t.d.fact 20 (f := .glo "need_stand") rfl),
    c.t.d.def_ 20 (d := dd_need_stand) rfl,
    He.glo_ok KX G (c.t.d.fact 21 (f := .glo "need_plane") rfl),
    c.t.d.def_ 21 (d := dd_need_plane) rfl,
    He.glo_ok KX G (c.t.d.fact 22 (f := .glo "need_number") rfl),
    c.t.d.def_ 22 (d := dd_need_number) rfl,
    He.glo_ok KX G (c.t.d.fact 23 (f := .glo "need_all") rfl),
    c.t.d.def_ 23 (d := dd_need_all) rfl,
    He.glo_ok KX G (c.t.d.fact 24 (f := .glo "fraction") rfl),
    c.t.d.def_ 24 (d := dd_fraction) rfl,
    He.glo_ok KX G (c.t.d.fact 25 (f := .glo "plus") rfl),
    c.t.d.def_ 25 (d := dd_plus) rfl,
    He.glo_ok KX G (c.t.d.fact 26 (f := .glo "is_on") rfl),
    c.t.d.def_ 26 (d := dd_is_on) rfl,
    He.glo_ok KX G (c.t.d.fact 27 (f := .glo "next_stand") rfl),
    c.t.d.def_ 27 (d := dd_next_stand) rfl,
    He.glo_ok KX G (c.t.d.fact 28 (f := .glo "rounds_on") rfl),
    c.t.d.def_ 28 (d := dd_rounds_on) rfl,
    He.glo_ok KX G (c.t.d.fact 29 (f := .glo "all_on") rfl),
    c.t.d.def_ 29 (d := dd_all_on) rfl,
    He.glo_ok KX G (c.t.d.fact 30 (f := .glo "first_on") rfl),
    c.t.d.def_ 30 (d := dd_first_on) rfl,
    He.glo_ok KX G (c.t.d.fact 31 (f := .glo "stays_on") rfl),
    c.t.d.def_ 31 (d := dd_stays_on) rfl,
    He.glo_ok KX G (c.t.d.fact 32 (f := .glo "_law_kin") rfl),
    c.t.d.def_ 32 (d := dd__law_kin) rfl,
    He.glo_ok KX G (c.t.d.fact 33 (f := .glo "_law_try") rfl),
    c.t.d.def_ 33 (d := dd__law_try) rfl,
    He.glo_ok KX G (c.t.d.fact 34 (f := .glo "_law_known") rfl),
    c.t.d.def_ 34 (d := dd__law_known) rfl,
    He.glo_ok KX G (c.t.d.fact 35 (f := .glo "_law_stands") rfl),
    c.t.d.def_ 35 (d := dd__law_stands) rfl,
    He.glo_ok KX G (c.t.d.fact 36 (f := .glo "law") rfl),
    c.t.d.def_ 36 (d := dd_law) rfl,
    tabL_mem (tf := tfN) (by decide +kernel),
    tabL_one (tf := tfN) ex.2 (by decide +kernel),
    kinF_of KX G ex.1⟩
theorem ty_of {K : PySem.W.Frag} {mg : Str → Option Value} {base : Heap} (tb : ∀ p ∈ tfL.map (He.cT K), TabB base mg p.1 p.2) : Ty K mg base := ⟨trivial, tb _ (List.mem_map.mpr ⟨("law", none), by decide +kernel, rfl⟩)⟩
theorem law_at {w : World} {K : PySem.W.Frag} {h : Heap} {mg : Str → Option Value} {fa : Addr} (pure : ∀ ns : List Int, ns.length ≤ 63 → (∀ z ∈ ns, Builtin.Int.intBits z ≤ 1048576) → ∃ st, m_law_k07 [.lst (ns.map D.int)] [] = .ok (.bl true) st) (KX : K.In h) (G : h.Ns mainGlobals mg) (hfa : mg "law" = some (.ref fa)) (c : He.SaysX faL fnL [] tfL exB w h K) :
    LamX.LawAtS PySem.Challenge.rw_comethere_k07_planes_that_are_met w K (L2N.CX PySem.Challenge.rw_comethere_k07_planes_that_are_met.prog w) 13 63 "script" mg fa h := by
  have X := fx_of KX G c
  obtain ⟨fd, Gd⟩ := X.d_law
  have e : fa = He.ga K "law" := by
    have q := hfa.symm.trans X.g_law
    injection q with q
    injection q
  subst e
  refine ⟨fd, tfL.map (He.cT K), spD K (tabL K tfN) mg 1 m_law_k07, fun p hp => ?_, fun p hp => ?_, fun p hp => ?_, fun s u => ?_, fun H a ns hl hb hH hS => ?_, fun base _ _ tb => c_law_k07 X (ty_of tb) Gd⟩
  · obtain ⟨d, hd, rfl⟩ := List.mem_map.mp hp
    exact c.empty d hd
  · obtain ⟨d, hd, rfl⟩ := List.mem_map.mp hp
    exact c.out d hd
  · obtain ⟨d, hd, rfl⟩ := List.mem_map.mp hp
    exact PySem.W.codeHd_of_K KX (c.hd d hd)
  · exact FunD.bindsA (ps := ["script"]) Gd (fun _ _ _ _ _ _ us hl => match us, hl with | [_], _ => rfl) s [u] rfl
  · refine law_owes (cs := tfL.map (He.cT K)) (fun p hp => ?_) hH hS (pure ns hl hb)
    obtain ⟨f, hf, rfl⟩ := List.mem_map.mp hp
    exact ⟨_, List.mem_map.mpr ⟨(f, none), List.mem_map.mpr ⟨f, hf, rfl⟩, rfl⟩, rfl⟩
end K07
end Dt
open PySem PySem.W PySem.Calls PyProof.Rows
theorem row_comethere_k07_planes_that_are_met (pure : ∀ ns : List Int, ns.length ≤ 63 → (∀ z ∈ ns, Builtin.Int.intBits z ≤ 1048576) → ∃ st, Dt.m_law_k07 [.lst (ns.map Dt.D.int)] [] = .ok (.bl true) st) : PySem.Challenge.rw_comethere_k07_planes_that_are_met.Holds := by
  w_on; o_law
  refine HandSHeadRun.head_any (r := OpenLaw.row PySem.Challenge.rw_comethere_k07_planes_that_are_met) (q := view (OpenLaw.row PySem.Challenge.rw_comethere_k07_planes_that_are_met).prog [57]) (H := Dt.K07.hk) (ob := Dt.K07.ob) (M := 8000) (loose := Dt.K07.names) (d := HandSHeadRun.topDef (OpenLaw.row PySem.Challenge.rw_comethere_k07_planes_that_are_met).prog 57) (kwd := []) Dt.K07.ob_eq
    (by kernel_rfl) (fun s => by kernel_rfl) Dt.K07.run (by kernel_rfl) (by kernel_rfl) (by kernel_rfl) (by rfl) (by first | assumption | decide +kernel) (by decide +kernel) ⟨rfl, rfl, rfl, rfl, rfl, by decide +kernel⟩ ?hw ?hc
  case hw => w_witness2
  case hc =>
    refine LamX.walk_ofTsE (l := PySem.Challenge.rw_comethere_k07_planes_that_are_met) (n := 63) (k := 13) (x := "script") (CX := fun w => L2N.CX PySem.Challenge.rw_comethere_k07_planes_that_are_met.prog w) rfl (by decide) (by kernel_rfl) ⟨rfl, by decide, by decide⟩ ?F (fun w H s e s' z => by
      obtain ⟨_, _, _, _, _, _, _, _, _, _, _, _, q⟩ := z
      exact q)
    intro w mg fa h Y G hmg0
    obtain ⟨K, KX, c⟩ := Y
    have hmg : mg ("law" : PySem.Str) = some (.ref fa) := by
      have e : (HandSHeadRun.topDef (OpenLaw.row PySem.Challenge.rw_comethere_k07_planes_that_are_met).prog 57).name = ("law" : PySem.Str) := by kernel_rfl
      rw [← e]
      exact hmg0
    exact ⟨K, KX, Dt.K07.law_at pure KX G hmg c⟩

theorem PySem.Challenge.cw_comethere_k07_planes_that_are_met_holds : PySem.Challenge.rw_comethere_k07_planes_that_are_met.Holds := by
  exact row_comethere_k07_planes_that_are_met fun ns h _ => Dt.pure_k07 ns h
