import PyProof.Rows.All
import Wide.All
import OpenK.AllK
import Wide.FinOn
import HandS.ForMost
import HandS.ForExc
import HandS.Wide
import HandS.Style
import HandS.Conv
import HandS.Deep
import HandS.IsInst
import HandS.FStr
import HandS.TupMul
import PyProof.StrOps2
import HandS.Iter
import HandS.Zip
import HandS.SetFor
import HandS.Text
import HandS.WideMore
import HandS.ExcIs
import HandS.NamedTupGet
import PySem.Challenge.RW_shortdecimals_k14_more_errors
set_option Elab.async false
set_option linter.all false
set_option maxRecDepth 100000
set_option exponentiation.threshold 500
section
/-! values without a heap, what bears them, and what a def promises by a plain function -/
namespace Zz
open PySem PySem.Spec PyProof.Rows L2

inductive W where
  | non | bl (b : Bool) | int (i : Int) | str (x : Str) | tup (xs : List W) | lst (xs : List W) | obj (k : Nat) | exc (c : Nat) | scr (xs : List W)

/-- what a designated object holds: a list; an instance's fields -/
inductive OB where
  | lst (ws : List W)
  | ins (fs : List (Str × W))
abbrev Sto := List OB

inductive R (α : Type) where
  | ok (a : α) (S : Sto)
  | exn (c : Nat) (S : Sto)
  | bad
abbrev M (α : Type) := Sto → R α
@[reducible] def M.bind {α β : Type} (x : M α) (f : α → M β) : M β := fun S => match x S with
  | .ok a S' => f a S'
  | .exn c S' => .exn c S'
  | .bad => .bad
@[reducible] def M.ret {α : Type} (a : α) : M α := fun S => .ok a S

/-- a name's value; a list that only this name has -/
inductive Sl where
  | no
  | val (w : W)
  | own (ws : List W)
abbrev En := List Sl
abbrev EM := En → M W
abbrev TM := En → M Bool
abbrev AM := En → M (List W)

/-- the ends of a statement -/
inductive SR where
  | nx (e : En) (S : Sto)
  | rt (w : W) (S : Sto)
  | bk (e : En) (S : Sto)
  | ct (e : En) (S : Sto)
  | exn (c : Nat) (e : En) (S : Sto)
  | bad
abbrev SM := En → Sto → SR

/-- the ghosts: the lists that never change any more; the designated objects' addresses -/
structure Gh where
  F : Addr → Prop
  ob : List Addr

def LsF (g : Gh) (H : Hp) (a : Addr) (vs : List V) : Prop := g.F a ∧ H a = some (.lst vs)

/-- the script -/
def ScrAt (K : PySem.W.Frag) (H : Hp) (a : Addr) (vs : List V) : Prop := (∃ o, H a = some (.frz o (.lst vs))) ∨
  ∃ (o : Obj) (its : Array Value) (n : Nat), K.lookup a = some o ∧ o.cls = .type "list" ∧ o.dict = none ∧ o.data = .seq its n ∧ its.size ≤ sizeLine ∧ Vals vs its.toList
theorem ScrAt.sql {K : PySem.W.Frag} {H : Hp} {a : Addr} {vs : List V} (h : ScrAt K H a vs) : SqL K H a vs := by
  rcases h with ⟨o, h⟩ | h
  · exact .inl (.inr ⟨o, h⟩)
  · exact .inr h
/-! the exception classes -/
def excNames : List Str := ["BadFraction", "BadRange", "BadRule", "BadNumber", "BadText", "NotFound", "DecimalError"]
def cvOf (K : PySem.W.Frag) (n : Nat) : Value := match PySem.W.nsIn K mainGlobals (excNames.getD n "") with
  | some (some v) => v
  | _ => .none
/-- a caught exception of the class cls, without attributes -/
def ExV (cls : Value) (a : Addr) : HO := .ext fun h => ∃ (oe : Obj) (vs : Array Value), h.get? a = some oe ∧ Zc cls none oe ∧ oe.data = .fields vs
mutual
inductive Rep (K : PySem.W.Frag) (g : Gh) (H : Hp) : W → V → Prop
  | non : Rep K g H .non .non
  | bl (b : Bool) : Rep K g H (.bl b) (.bl b)
  | int (i : Int) : Rep K g H (.int i) (.int i)
  | str (x : Str) : Rep K g H (.str x) (.str x)
  | tup {a : Addr} {vs : List V} {ws : List W} : SqT K H a vs → Reps K g H ws vs → Rep K g H (.tup ws) (.ref a)
  | lst {a : Addr} {vs : List V} {ws : List W} : LsF g H a vs → Reps K g H ws vs → Rep K g H (.lst ws) (.ref a)
  | obj {a : Addr} {k : Nat} : g.ob[k]? = some a → Rep K g H (.obj k) (.ref a)
  | scr {a : Addr} {vs : List V} {ws : List W} : ScrAt K H a vs → Reps K g H ws vs → Rep K g H (.scr ws) (.ref a)
  | exc {a : Addr} {c : Nat} : H a = some (ExV (cvOf K c) a) → Rep K g H (.exc c) (.ref a)
inductive Reps (K : PySem.W.Frag) (g : Gh) (H : Hp) : List W → List V → Prop
  | nil : Reps K g H [] []
  | cons {w : W} {v : V} {ws : List W} {vs : List V} : Rep K g H w v → Reps K g H ws vs → Reps K g H (w :: ws) (v :: vs)
end

/-- what never changes -/
def Pers : HO → Prop
  | .tup _ => True
  | .frz _ _ => True
  | .ext _ => True
  | _ => False
structure Ext (g : Gh) (H : Hp) (g' : Gh) (H' : Hp) : Prop where
  F : ∀ a, g.F a → g'.F a ∧ H' a = H a
  P : ∀ a o, H a = some o → Pers o → H' a = some o
  ob : ∀ (k : Nat) (a : Addr), g.ob[k]? = some a → g'.ob[k]? = some a
theorem Ext.refl (g : Gh) (H : Hp) : Ext g H g H := ⟨fun _ h => ⟨h, rfl⟩, fun _ _ h _ => h, fun _ _ h => h⟩
theorem Ext.trans {g g1 g2 : Gh} {H H1 H2 : Hp} (a : Ext g H g1 H1) (b : Ext g1 H1 g2 H2) : Ext g H g2 H2 :=
  ⟨fun x h => ⟨(b.F x (a.F x h).1).1, ((b.F x (a.F x h).1).2).trans (a.F x h).2⟩, fun x o h p => b.P x o (a.P x o h p) p, fun k x h => b.ob k x (a.ob k x h)⟩
section
variable {K : PySem.W.Frag} {g g' : Gh} {H H' : Hp}
theorem Ext.lsf (e : Ext g H g' H') {a : Addr} {vs : List V} (h : LsF g H a vs) : LsF g' H' a vs := by
  exact ⟨(e.F a h.1).1, (e.F a h.1).2.trans h.2⟩
theorem Ext.sqt (e : Ext g H g' H') {a : Addr} {vs : List V} (h : SqT K H a vs) : SqT K H' a vs := by
  rcases h with (h | ⟨o, h⟩) | h
  · exact .inl (.inl (e.P a _ h trivial))
  · exact .inl (.inr ⟨o, e.P a _ h trivial⟩)
  · exact .inr h
theorem Ext.scr (e : Ext g H g' H') {a : Addr} {vs : List V} (h : ScrAt K H a vs) : ScrAt K H' a vs := by
  rcases h with ⟨o, h⟩ | h
  · exact .inl ⟨o, e.P a _ h trivial⟩
  · exact .inr h
mutual
theorem Rep.ext (e : Ext g H g' H') : ∀ {w : W} {v : V}, Rep K g H w v → Rep K g' H' w v
  | _, _, .non => .non
  | _, _, .bl b => .bl b
  | _, _, .int i => .int i
  | _, _, .str x => .str x
  | _, _, .tup s r => .tup (e.sqt s) (Reps.ext e r)
  | _, _, .lst s r => .lst (e.lsf s) (Reps.ext e r)
  | _, _, .obj h => .obj (e.ob _ _ h)
  | _, _, .scr h r => .scr (e.scr h) (Reps.ext e r)
  | _, _, .exc h => .exc (e.P _ _ h trivial)
theorem Reps.ext (e : Ext g H g' H') : ∀ {ws : List W} {vs : List V}, Reps K g H ws vs → Reps K g' H' ws vs
  | _, _, .nil => .nil
  | _, _, .cons r t => .cons (Rep.ext e r) (Reps.ext e t)
end
theorem Reps.length : ∀ {ws : List W} {vs : List V}, Reps K g H ws vs → ws.length = vs.length
  | _, _, .nil => rfl
  | _, _, .cons _ t => by rw [List.length_cons, List.length_cons, Reps.length t]
theorem Reps.get : ∀ {ws : List W} {vs : List V} {i : Nat} {w : W}, Reps K g H ws vs → ws[i]? = some w → ∃ v, vs[i]? = some v ∧ Rep K g H w v
  | _, _, _, _, .nil, e => by simp at e
  | _, _, 0, _, .cons r _, e => by simp at e; subst e; exact ⟨_, rfl, r⟩
  | _, _, i + 1, w, .cons _ t, e => by
    obtain ⟨v, h1, h2⟩ := Reps.get (i := i) (w := w) t (by simpa using e)
    exact ⟨v, by simpa using h1, h2⟩
theorem Reps.getV : ∀ {ws : List W} {vs : List V} {i : Nat} {v : V}, Reps K g H ws vs → vs[i]? = some v → ∃ w, ws[i]? = some w ∧ Rep K g H w v
  | _, _, _, _, .nil, e => by simp at e
  | _, _, 0, _, .cons r _, e => by simp at e; subst e; exact ⟨_, rfl, r⟩
  | _, _, i + 1, w, .cons _ t, e => by
    obtain ⟨v, h1, h2⟩ := Reps.getV (i := i) (v := w) t (by simpa using e)
    exact ⟨v, by simpa using h1, h2⟩
theorem Reps.append : ∀ {ws zs : List W} {vs us : List V}, Reps K g H ws vs → Reps K g H zs us → Reps K g H (ws ++ zs) (vs ++ us)
  | _, _, _, _, .nil, s => s
  | _, _, _, _, .cons r t, s => .cons r (Reps.append t s)
theorem Reps.set {w : W} {v : V} (r : Rep K g H w v) : ∀ {ws : List W} {vs : List V} (i : Nat), Reps K g H ws vs → Reps K g H (ws.set i w) (vs.set i v)
  | _, _, _, .nil => .nil
  | _, _, 0, .cons _ t => .cons r t
  | _, _, i + 1, .cons q t => .cons q (Reps.set r i t)
theorem Reps.take : ∀ {ws : List W} {vs : List V} (n : Nat), Reps K g H ws vs → Reps K g H (ws.take n) (vs.take n)
  | _, _, 0, _ => .nil
  | _, _, _ + 1, .nil => .nil
  | _, _, n + 1, .cons r t => .cons r (Reps.take n t)
theorem Reps.drop : ∀ {ws : List W} {vs : List V} (n : Nat), Reps K g H ws vs → Reps K g H (ws.drop n) (vs.drop n)
  | _, _, 0, r => r
  | _, _, _ + 1, .nil => .nil
  | _, _, n + 1, .cons _ t => Reps.drop n t
theorem Reps.ints : ∀ (ns : List Int), Reps K g H (ns.map W.int) (ns.map V.int)
  | [] => .nil
  | n :: r => .cons (.int n) (Reps.ints r)
end

/-- the designated objects hold this -/
def ObR (K : PySem.W.Frag) (C : Addr) (g : Gh) (H : Hp) (a : Addr) : OB → Prop
  | .lst ws => ∃ vs, H a = some (.lst vs) ∧ Reps K g H ws vs
  | .ins fs => ∃ dx vf, H a = some (.ins C dx vf) ∧ H dx = some (.own a) ∧ vf.map (·.1) = fs.map (·.1) ∧ Reps K g H (fs.map (·.2)) (vf.map (·.2))
structure StoOk (K : PySem.W.Frag) (C : Addr) (g : Gh) (H : Hp) (S : Sto) : Prop where
  len : g.ob.length = S.length
  at_ : ∀ (k : Nat) (a : Addr) (o : OB), g.ob[k]? = some a → S[k]? = some o → ObR K C g H a o
  nd : g.ob.Nodup
  nF : ∀ a ∈ g.ob, ¬ g.F a
def FOk (g : Gh) (H : Hp) : Prop := ∀ a, g.F a → ∃ vs, H a = some (.lst vs)
/-- what a piece of code may have done -/
structure Aft (g : Gh) (H : Hp) (g' : Gh) (H' : Hp) : Prop where
  keep : ∀ b o, H b = some o → b ∉ g.ob → H' b = some o
  F : ∀ a, g.F a → g'.F a
  F' : ∀ a, g'.F a → g.F a ∨ H a = none
  ob : ∃ r, g'.ob = g.ob ++ r ∧ ∀ a ∈ r, H a = none

section
variable {K : PySem.W.Frag} {C : Addr} {g g' g1 g2 : Gh} {H H' H1 H2 : Hp} {S : Sto}
theorem StoOk.there (x : StoOk K C g H S) {a : Addr} (h : a ∈ g.ob) : ∃ o, H a = some o ∧ ¬ Pers o := by
  obtain ⟨k, hk, e⟩ := List.getElem_of_mem h
  have hk' : k < S.length := by rw [← x.len]; exact hk
  have q := x.at_ k a S[k] (by rw [List.getElem?_eq_getElem hk, e]) (List.getElem?_eq_getElem hk')
  cases e2 : S[k] with
  | lst ws => rw [e2] at q; obtain ⟨vs, h, _⟩ := q; exact ⟨_, h, fun z => z⟩
  | ins fs => rw [e2] at q; obtain ⟨dx, vf, h, _⟩ := q; exact ⟨_, h, fun z => z⟩
theorem Aft.refl (g : Gh) (H : Hp) : Aft g H g H := ⟨fun _ _ h _ => h, fun _ h => h, fun _ h => .inl h, ⟨[], by simp, by simp⟩⟩
/-- what came of two pieces; the objects of g are tracked -/
theorem Aft.trans (a : Aft g H g1 H1) (b : Aft g1 H1 g2 H2) (t : ∀ x ∈ g1.ob, ∃ o, H1 x = some o) : Aft g H g2 H2 := by
  obtain ⟨r1, e1, n1⟩ := a.ob
  obtain ⟨r2, e2, n2⟩ := b.ob
  have back : ∀ x, H1 x = none → H x = none := fun x h => by
    cases q : H x with
    | none => rfl
    | some o =>
      by_cases hx : x ∈ g.ob
      · obtain ⟨o', h'⟩ := t x (by rw [e1]; exact List.mem_append_left _ hx)
        rw [h] at h'; cases h'
      · rw [a.keep x o q hx] at h; cases h
  refine ⟨fun x o h hx => b.keep x o (a.keep x o h hx) ?_, fun x h => b.F x (a.F x h), fun x h => ?_, ⟨r1 ++ r2, by rw [e2, e1, List.append_assoc], fun x h => ?_⟩⟩
  · rw [e1]
    intro z
    rcases List.mem_append.mp z with z | z
    · exact hx z
    · rw [n1 x z] at h; cases h
  · rcases b.F' x h with z | z
    · exact a.F' x z
    · exact .inr (back x z)
  · rcases List.mem_append.mp h with z | z
    · exact n1 x z
    · exact back x (n2 x z)
theorem Aft.ext (a : Aft g H g' H') (s : StoOk K C g H S) (f : FOk g H) : Ext g H g' H' := by
  refine ⟨fun x h => ⟨a.F x h, ?_⟩, fun x o h p => a.keep x o h fun z => ?_, fun k x h => ?_⟩
  · obtain ⟨vs, e⟩ := f x h
    rw [e]
    exact a.keep x _ e fun z => s.nF x z h
  · obtain ⟨o', h', n⟩ := s.there z
    rw [h] at h'; cases h'
    exact n p
  · obtain ⟨r, e, _⟩ := a.ob
    rw [e, List.getElem?_append_left (List.getElem?_eq_some_iff.mp h).1]
    exact h
/-- nothing tracked was changed -/
theorem Aft.of_same (h : Same H H') : Aft g H g H' := ⟨fun b o e _ => h b o e, fun _ h => h, fun _ h => .inl h, ⟨[], by simp, by simp⟩⟩
theorem Ext.of_same (f : FOk g H) (h : Same H H') : Ext g H g H' := ⟨fun a q => ⟨q, by obtain ⟨vs, e⟩ := f a q; rw [e]; exact h a _ e⟩, fun a o e _ => h a o e, fun _ _ q => q⟩
theorem FOk.same (f : FOk g H) (h : Same H H') : FOk g H' := fun a q => by
  obtain ⟨vs, e⟩ := f a q
  exact ⟨vs, h a _ e⟩
theorem ObR.ext {a : Addr} {o : OB} (e : Ext g H g' H') (h : ∀ u, H a = some u → H' a = some u) (hd : ∀ dx, H dx = some (.own a) → H' dx = some (.own a)) (x : ObR K C g H a o) : ObR K C g' H' a o := by
  cases o with
  | lst ws => obtain ⟨vs, p, r⟩ := x; exact ⟨vs, h _ p, Reps.ext e r⟩
  | ins fs => obtain ⟨dx, vf, p, d, q, r⟩ := x; exact ⟨dx, vf, h _ p, hd _ d, q, Reps.ext e r⟩
theorem StoOk.same (s : StoOk K C g H S) (f : FOk g H) (h : Same H H') : StoOk K C g H' S :=
  ⟨s.len, fun k a o e1 e2 => ObR.ext (Ext.of_same f h) (fun u q => h _ u q) (fun dx q => h _ _ q) (s.at_ k a o e1 e2), s.nd, s.nF⟩
end

theorem same_upd {H : Hp} {p : Addr} {o : HO} (h : H p = none) : Same H (upd H p o) := fun b x e => by
  rw [upd_ne (ne_of_none e h)]
  exact e

/-! ### the frame -/
structure Bs where
  H : Hp
  g : Gh
  C : Addr
  cv : Nat → Value
structure SlR (K : PySem.W.Frag) (B : Bs) (g : Gh) (H : Hp) (env : En) (σ : L2.St) : Prop where
  len : env.length = σ.length
  val : ∀ (i : Nat) (w : W), env[i]? = some (.val w) → ∃ v, σ[i]? = some (some v) ∧ Rep K g H w v
  own : ∀ (i : Nat) (ws : List W), env[i]? = some (.own ws) → ∃ a vs, σ[i]? = some (some (.ref a)) ∧ H a = some (.lst vs) ∧ Reps K g H ws vs ∧ ¬ g.F a ∧ a ∉ g.ob ∧ B.H a = none
  dist : ∀ (i j : Nat) (ws zs : List W) (a : Addr), i ≠ j → env[i]? = some (.own ws) → env[j]? = some (.own zs) → σ[i]? = some (some (.ref a)) → σ[j]? = some (some (.ref a)) → False
structure Rel (K : PySem.W.Frag) (B : Bs) (env : En) (S : Sto) (g : Gh) (σ : L2.St) (H : Hp) : Prop where
  aft : Aft B.g B.H g H
  sto : StoOk K B.C g H S
  fok : FOk g H
  sl : SlR K B g H env σ

section
variable {K : PySem.W.Frag} {B : Bs} {env : En} {S S' : Sto} {g g' : Gh} {σ : L2.St} {H H' : Hp}
theorem Rel.trk (r : Rel K B env S g σ H) : ∀ x ∈ g.ob, ∃ o, H x = some o := fun x h => let ⟨o, e, _⟩ := r.sto.there h; ⟨o, e⟩
/-- a piece of code that knows nothing of this frame has run -/
theorem Rel.after (r : Rel K B env S g σ H) (a : Aft g H g' H') (s : StoOk K B.C g' H' S') (f : FOk g' H') : Rel K B env S' g' σ H' := by
  have e := a.ext r.sto r.fok
  refine ⟨r.aft.trans a r.trk, s, f, r.sl.len, fun i w h => ?_, fun i ws h => ?_, r.sl.dist⟩
  · obtain ⟨v, h1, h2⟩ := r.sl.val i w h
    exact ⟨v, h1, Rep.ext e h2⟩
  · obtain ⟨x, vs, h1, h2, h3, h4, h5, h6⟩ := r.sl.own i ws h
    refine ⟨x, vs, h1, a.keep x _ h2 h5, Reps.ext e h3, fun z => ?_, fun z => ?_, h6⟩
    · rcases a.F' x z with z | z
      · exact h4 z
      · rw [h2] at z; cases z
    · obtain ⟨q, e1, n⟩ := a.ob
      rw [e1] at z
      rcases List.mem_append.mp z with z | z
      · exact h5 z
      · rw [n x z] at h2; cases h2
theorem Rel.same (r : Rel K B env S g σ H) (h : Same H H') : Rel K B env S g σ H' := r.after (.of_same h) (r.sto.same r.fok h) (r.fok.same h)
/-- a new tuple, or anything that is not a designated object -/
theorem Rel.laid (r : Rel K B env S g σ H) {p : Addr} {o : HO} (h : H p = none) : Rel K B env S g σ (upd H p o) := r.same (same_upd h)
def Gh.addF (g : Gh) (p : Addr) : Gh := ⟨fun a => g.F a ∨ a = p, g.ob⟩
theorem Rel.fresh (r : Rel K B env S g σ H) {p : Addr} (h : H p = none) : B.H p = none ∧ ¬ g.F p ∧ p ∉ g.ob := by
  refine ⟨?_, fun z => ?_, fun z => ?_⟩
  · cases q : B.H p with
    | none => rfl
    | some o =>
      by_cases hp : p ∈ B.g.ob
      · obtain ⟨r1, e1, _⟩ := r.aft.ob
        obtain ⟨o', e⟩ := r.trk p (by rw [e1]; exact List.mem_append_left _ hp)
        rw [h] at e; cases e
      · rw [r.aft.keep p o q hp] at h; cases h
  · obtain ⟨vs, e⟩ := r.fok p z
    rw [h] at e; cases e
  · obtain ⟨o, e⟩ := r.trk p z
    rw [h] at e; cases e
/-- a list becomes one that never changes: it is nobody's -/
theorem ext_addF (g : Gh) (H : Hp) (p : Addr) : Ext g H (g.addF p) H := ⟨fun _ h => ⟨.inl h, rfl⟩, fun _ _ h _ => h, fun _ _ h => h⟩
theorem Rel.addF (r : Rel K B env S g σ H) {p : Addr} {vs : List V} (hp : H p = some (.lst vs)) (hB : B.H p = none) (hn : p ∉ g.ob)
    (ho : ∀ (i : Nat) (ws : List W), env[i]? = some (.own ws) → σ[i]? ≠ some (some (.ref p))) : Rel K B env S (g.addF p) σ H := by
  have e := ext_addF g H p
  refine ⟨⟨r.aft.keep, fun a h => .inl (r.aft.F a h), fun a h => ?_, r.aft.ob⟩, ⟨r.sto.len, fun k a o h1 h2 => ObR.ext e (fun _ q => q) (fun _ q => q) (r.sto.at_ k a o h1 h2), r.sto.nd, fun a h z => ?_⟩, fun a h => ?_, r.sl.len, fun i w h => ?_, fun i ws h => ?_, r.sl.dist⟩
  · rcases h with h | h
    · exact r.aft.F' a h
    · subst h; exact .inr hB
  · rcases z with z | z
    · exact r.sto.nF a h z
    · subst z; exact hn h
  · rcases h with h | h
    · exact r.fok a h
    · subst h; exact ⟨vs, hp⟩
  · obtain ⟨v, h1, h2⟩ := r.sl.val i w h
    exact ⟨v, h1, Rep.ext e h2⟩
  · obtain ⟨x, us, h1, h2, h3, h4, h5, h6⟩ := r.sl.own i ws h
    refine ⟨x, us, h1, h2, Reps.ext e h3, fun z => ?_, h5, h6⟩
    rcases z with z | z
    · exact h4 z
    · subst z; exact ho i ws h h1
/-- a new list that never changes -/
theorem Rel.newF (r : Rel K B env S g σ H) {p : Addr} {vs : List V} (h : H p = none) : Rel K B env S (g.addF p) σ (upd H p (.lst vs)) := by
  obtain ⟨f1, f2, f3⟩ := r.fresh h
  refine (r.laid h).addF upd_same f1 f3 fun i ws q z => ?_
  obtain ⟨x, us, h1, h2, _⟩ := r.sl.own i ws q
  rw [h1] at z; cases z
  rw [h] at h2; cases h2
theorem ext_newF (r : Rel K B env S g σ H) {p : Addr} {o : HO} (h : H p = none) : Ext g H (g.addF p) (upd H p o) := (Ext.of_same r.fok (same_upd h)).trans (ext_addF g _ p)
theorem ext_laid (r : Rel K B env S g σ H) {p : Addr} {o : HO} (h : H p = none) : Ext g H g (upd H p o) := Ext.of_same r.fok (same_upd h)
/-- a name is stored -/
theorem Rel.set (r : Rel K B env S g σ H) {i : Nat} {w : W} {v : V} (h : Rep K g H w v) : Rel K B (env.set i (.val w)) S g (σ.set i (some v)) H := by
  refine ⟨r.aft, r.sto, r.fok, by rw [List.length_set, List.length_set, r.sl.len], fun j u e => ?_, fun j ws e => ?_, fun j k ws zs a hjk e1 e2 e3 e4 => ?_⟩
  · by_cases hj : i = j
    · subst hj
      have hi : i < env.length := by
        have := (List.getElem?_eq_some_iff.mp e).1
        rwa [List.length_set] at this
      rw [List.getElem?_set_self hi] at e
      cases e
      exact ⟨v, List.getElem?_set_self (by rw [← r.sl.len]; exact hi), h⟩
    · rw [List.getElem?_set_ne hj] at e ⊢
      exact r.sl.val j u e
  · by_cases hj : i = j
    · subst hj
      have hi : i < env.length := by
        have := (List.getElem?_eq_some_iff.mp e).1
        rwa [List.length_set] at this
      rw [List.getElem?_set_self hi] at e
      cases e
    · rw [List.getElem?_set_ne hj] at e ⊢
      exact r.sl.own j ws e
  · have ne : ∀ {m : Nat} {us : List W}, (env.set i (.val w))[m]? = some (.own us) → i ≠ m := fun {m us} q z => by
      subst z
      have hi : i < env.length := by
        have := (List.getElem?_eq_some_iff.mp q).1
        rwa [List.length_set] at this
      rw [List.getElem?_set_self hi] at q
      cases q
    have n1 := ne e1
    have n2 := ne e2
    rw [List.getElem?_set_ne n1] at e1 e3
    rw [List.getElem?_set_ne n2] at e2 e4
    exact r.sl.dist j k ws zs a hjk e1 e2 e3 e4
/-- a name is forgotten -/
theorem Rel.drop (r : Rel K B env S g σ H) {i : Nat} {x : Option V} : Rel K B (env.set i .no) S g (σ.set i x) H := by
  have ne : ∀ {m : Nat} {s : Sl}, (env.set i Sl.no)[m]? = some s → s ≠ .no → i ≠ m := fun {m s} q n z => by
    subst z
    have hi : i < env.length := by
      have := (List.getElem?_eq_some_iff.mp q).1
      rwa [List.length_set] at this
    rw [List.getElem?_set_self hi] at q
    cases q
    exact n rfl
  refine ⟨r.aft, r.sto, r.fok, by rw [List.length_set, List.length_set, r.sl.len], fun j u e => ?_, fun j ws e => ?_, fun j k ws zs a hjk e1 e2 e3 e4 => ?_⟩
  · have n := ne e (fun z => by cases z)
    rw [List.getElem?_set_ne n] at e ⊢
    exact r.sl.val j u e
  · have n := ne e (fun z => by cases z)
    rw [List.getElem?_set_ne n] at e ⊢
    exact r.sl.own j ws e
  · have n1 := ne e1 (fun z => by cases z)
    have n2 := ne e2 (fun z => by cases z)
    rw [List.getElem?_set_ne n1] at e1 e3
    rw [List.getElem?_set_ne n2] at e2 e4
    exact r.sl.dist j k ws zs a hjk e1 e2 e3 e4
/-- a name gets a list that only it has -/
theorem Rel.newOwn (r : Rel K B env S g σ H) {i : Nat} {p : Addr} {vs : List V} {ws : List W} (h : H p = none) (q : Reps K g H ws vs) : Rel K B (env.set i (.own ws)) S g (σ.set i (some (.ref p))) (upd H p (.lst vs)) := by
  obtain ⟨f1, f2, f3⟩ := r.fresh h
  have r1 := r.laid (o := .lst vs) h
  have e := ext_laid (o := .lst vs) r h
  refine ⟨r1.aft, r1.sto, r1.fok, by rw [List.length_set, List.length_set, r.sl.len], fun j u e => ?_, fun j zs e1 => ?_, fun j k us zs a hjk e1 e2 e3 e4 => ?_⟩
  · by_cases hj : i = j
    · subst hj
      have hi : i < env.length := by
        have := (List.getElem?_eq_some_iff.mp e).1
        rwa [List.length_set] at this
      rw [List.getElem?_set_self hi] at e
      cases e
    · rw [List.getElem?_set_ne hj] at e ⊢
      exact r1.sl.val j u e
  · by_cases hj : i = j
    · subst hj
      have hi : i < env.length := by
        have := (List.getElem?_eq_some_iff.mp e1).1
        rwa [List.length_set] at this
      rw [List.getElem?_set_self hi] at e1
      cases e1
      exact ⟨p, vs, List.getElem?_set_self (by rw [← r.sl.len]; exact hi), upd_same, Reps.ext e q, f2, f3, f1⟩
    · rw [List.getElem?_set_ne hj] at e1 ⊢
      exact r1.sl.own j zs e1
  · have hne : ∀ {m : Nat} {us : List W}, i ≠ m → env[m]? = some (.own us) → σ[m]? ≠ some (some (.ref p)) := fun {m us} hm e1 e3 => by
      obtain ⟨x, ys, h1, h2, _⟩ := r.sl.own m us e1
      rw [h1] at e3; cases e3
      rw [h] at h2; cases h2
    have hin : ∀ {m : Nat} {us : List W}, (env.set i (.own ws))[m]? = some (.own us) → i = m → (σ.set i (some (V.ref p)))[m]? = some (some (.ref p)) := fun {m us} q z => by
      subst z
      have hi : i < env.length := by
        have := (List.getElem?_eq_some_iff.mp q).1
        rwa [List.length_set] at this
      exact List.getElem?_set_self (by rw [← r.sl.len]; exact hi)
    by_cases hj : i = j
    · by_cases hk : i = k
      · exact hjk (hj.symm.trans hk)
      · rw [hin e1 hj] at e3; cases e3
        rw [List.getElem?_set_ne hk] at e2 e4
        exact hne hk e2 e4
    · by_cases hk : i = k
      · rw [hin e2 hk] at e4; cases e4
        rw [List.getElem?_set_ne hj] at e1 e3
        exact hne hj e1 e3
      · rw [List.getElem?_set_ne hj] at e1 e3
        rw [List.getElem?_set_ne hk] at e2 e4
        exact r.sl.dist j k us zs a hjk e1 e2 e3 e4
/-- such a list is changed -/
theorem Rel.ownUpd (r : Rel K B env S g σ H) {i : Nat} {p : Addr} {vs : List V} {ws zs : List W} (he : env[i]? = some (.own zs)) (hs : σ[i]? = some (some (.ref p))) (q : Reps K g H ws vs) :
    Rel K B (env.set i (.own ws)) S g σ (upd H p (.lst vs)) := by
  obtain ⟨p', us, h1, h2, h3, h4, h5, h6⟩ := r.sl.own i zs he
  rw [hs] at h1; cases h1
  have nP : ∀ a, a ≠ p → upd H p (.lst vs) a = H a := fun a h => upd_ne h
  have e : Ext g H g (upd H p (.lst vs)) := ⟨fun a h => ⟨h, nP a fun z => h4 (z ▸ h)⟩, fun a o h z => by
    rw [nP a fun y => by subst y; rw [h2] at h; cases h; exact z]
    exact h, fun _ _ h => h⟩
  have hi : i < env.length := (List.getElem?_eq_some_iff.mp he).1
  refine ⟨⟨fun b o h hb => ?_, r.aft.F, r.aft.F', r.aft.ob⟩, ⟨r.sto.len, fun k a o e1 e2 => ObR.ext e (fun u q => ?_) (fun dx q => ?_) (r.sto.at_ k a o e1 e2), r.sto.nd, r.sto.nF⟩, fun a h => ?_, by rw [List.length_set, r.sl.len], fun j u e1 => ?_, fun j us' e1 => ?_, fun j k us' zs' a hjk e1 e2 e3 e4 => ?_⟩
  · rw [nP b fun z => by subst z; rw [h6] at h; cases h]
    exact r.aft.keep b o h hb
  · rw [nP a fun z => h5 (z ▸ List.mem_of_getElem? e1)]
    exact q
  · rw [nP dx fun z => by subst z; rw [h2] at q; cases q]
    exact q
  · rw [nP a fun z => h4 (z ▸ h)]
    exact r.fok a h
  · by_cases hj : i = j
    · subst hj
      rw [List.getElem?_set_self hi] at e1
      cases e1
    · rw [List.getElem?_set_ne hj] at e1
      obtain ⟨v, p1, p2⟩ := r.sl.val j u e1
      exact ⟨v, p1, Rep.ext e p2⟩
  · by_cases hj : i = j
    · subst hj
      rw [List.getElem?_set_self hi] at e1
      cases e1
      exact ⟨p, vs, hs, upd_same, Reps.ext e q, h4, h5, h6⟩
    · rw [List.getElem?_set_ne hj] at e1
      obtain ⟨x, ys, p1, p2, p3, p4, p5, p6⟩ := r.sl.own j us' e1
      refine ⟨x, ys, p1, ?_, Reps.ext e p3, p4, p5, p6⟩
      rw [nP x fun z => by subst z; exact r.sl.dist i j zs us' x hj he e1 hs p1]
      exact p2
  · have old : ∀ {m : Nat} {us : List W}, (env.set i (.own ws))[m]? = some (.own us) → ∃ ys, env[m]? = some (.own ys) := fun {m us} q => by
      by_cases hm : i = m
      · subst hm; exact ⟨zs, he⟩
      · rw [List.getElem?_set_ne hm] at q; exact ⟨us, q⟩
    obtain ⟨y1, q1⟩ := old e1
    obtain ⟨y2, q2⟩ := old e2
    exact r.sl.dist j k y1 y2 a hjk q1 q2 e3 e4
/-- such a list is let go: it never changes any more -/
theorem Rel.freeze (r : Rel K B env S g σ H) {i : Nat} {ws : List W} (he : env[i]? = some (.own ws)) : ∃ g', Ext g H g' H ∧ Rel K B (env.set i (.val (.lst ws))) S g' σ H := by
  obtain ⟨p, vs, h1, h2, h3, h4, h5, h6⟩ := r.sl.own i ws he
  have hi : i < env.length := (List.getElem?_eq_some_iff.mp he).1
  have r1 : Rel K B (env.set i .no) S g (σ.set i (some (.ref p))) H := r.drop
  have es : σ.set i (some (V.ref p)) = σ := by
    apply List.ext_getElem?
    intro j
    by_cases hj : i = j
    · subst hj
      rw [List.getElem?_set_self (by rw [← r.sl.len]; exact hi), h1]
    · rw [List.getElem?_set_ne hj]
  have r2 : Rel K B (env.set i .no) S (g.addF p) (σ.set i (some (.ref p))) H := r1.addF h2 h6 h5 fun j us e z => by
    by_cases hj : i = j
    · subst hj
      rw [List.getElem?_set_self hi] at e
      cases e
    · rw [List.getElem?_set_ne hj] at e z
      exact r.sl.dist i j ws us p hj he e h1 z
  have r3 := r2.set (i := i) (w := .lst ws) (v := .ref p) (.lst ⟨.inr rfl, h2⟩ (Reps.ext (ext_addF g H p) h3))
  rw [List.set_set, List.set_set, es] at r3
  exact ⟨g.addF p, ext_addF g H p, r3⟩
/-- a designated list is changed -/
theorem Rel.stoUpd (r : Rel K B env S g σ H) {k : Nat} {p : Addr} {vs : List V} {ws zs : List W} (hk : g.ob[k]? = some p) (hS : S[k]? = some (.lst zs)) (q : Reps K g H ws vs) :
    Ext g H g (upd H p (.lst vs)) ∧ Rel K B env (S.set k (.lst ws)) g σ (upd H p (.lst vs)) := by
  have hm : p ∈ g.ob := List.mem_of_getElem? hk
  obtain ⟨us, hp, _⟩ := r.sto.at_ k p _ hk hS
  have nP : ∀ a, a ≠ p → upd H p (.lst vs) a = H a := fun a h => upd_ne h
  have e : Ext g H g (upd H p (.lst vs)) := ⟨fun a h => ⟨h, nP a fun z => r.sto.nF p hm (z ▸ h)⟩, fun a o h z => by
    rw [nP a fun y => by subst y; rw [hp] at h; cases h; exact z]
    exact h, fun _ _ h => h⟩
  refine ⟨e, ⟨fun b o h hb => ?_, r.aft.F, r.aft.F', r.aft.ob⟩, ⟨by rw [r.sto.len, List.length_set], fun j a o e1 e2 => ?_, r.sto.nd, r.sto.nF⟩, fun a h => ?_, r.sl.len, fun j u e1 => ?_, fun j us' e1 => ?_, r.sl.dist⟩
  · rw [nP b fun z => ?_]
    · exact r.aft.keep b o h hb
    · subst z
      obtain ⟨r1, e1, n1⟩ := r.aft.ob
      rw [e1] at hm
      rcases List.mem_append.mp hm with z | z
      · exact hb z
      · rw [n1 b z] at h; cases h
  · by_cases hj : k = j
    · subst hj
      rw [hk] at e1; cases e1
      rw [List.getElem?_set_self (List.getElem?_eq_some_iff.mp hS).1] at e2
      cases e2
      exact ⟨vs, upd_same, Reps.ext e q⟩
    · rw [List.getElem?_set_ne hj] at e2
      have hne : a ≠ p := fun z => by
        subst z
        have l1 := (List.getElem?_eq_some_iff.mp e1).1
        have l2 := (List.getElem?_eq_some_iff.mp hk).1
        exact hj ((List.getElem?_inj l2 r.sto.nd).mp (hk.trans e1.symm))
      refine ObR.ext e (fun u q => by rw [nP a hne]; exact q) (fun dx q => ?_) (r.sto.at_ j a o e1 e2)
      rw [nP dx fun z => by subst z; rw [hp] at q; cases q]
      exact q
  · rw [nP a fun z => r.sto.nF p hm (z ▸ h)]
    exact r.fok a h
  · obtain ⟨v, p1, p2⟩ := r.sl.val j u e1
    exact ⟨v, p1, Rep.ext e p2⟩
  · obtain ⟨x, ys, p1, p2, p3, p4, p5, p6⟩ := r.sl.own j us' e1
    refine ⟨x, ys, p1, ?_, Reps.ext e p3, p4, p5, p6⟩
    rw [nP x fun z => p5 (z ▸ hm)]
    exact p2
/-- a new designated list -/
theorem Rel.newSto (r : Rel K B env S g σ H) {p : Addr} {vs : List V} {ws : List W} (h : H p = none) (q : Reps K g H ws vs) :
    Ext g H ⟨g.F, g.ob ++ [p]⟩ (upd H p (.lst vs)) ∧ Rel K B env (S ++ [.lst ws]) ⟨g.F, g.ob ++ [p]⟩ σ (upd H p (.lst vs)) := by
  obtain ⟨f1, f2, f3⟩ := r.fresh h
  have hob : ∀ (k : Nat) (a : Addr), g.ob[k]? = some a → (g.ob ++ [p])[k]? = some a := fun k a e => by
    rw [List.getElem?_append_left (List.getElem?_eq_some_iff.mp e).1]
    exact e
  have e : Ext g H ⟨g.F, g.ob ++ [p]⟩ (upd H p (.lst vs)) := ⟨(ext_laid (o := .lst vs) r h).F, (ext_laid (o := .lst vs) r h).P, hob⟩
  have sm : Same H (upd H p (.lst vs)) := same_upd h
  refine ⟨e, ⟨fun b o x y => sm b o (r.aft.keep b o x y), r.aft.F, r.aft.F', ?_⟩, ⟨by simp [r.sto.len], fun j a o e1 e2 => ?_, ?_, fun a ha z => ?_⟩, fun a x => (r.fok.same sm) a x, r.sl.len, fun j u e1 => ?_, fun j us' e1 => ?_, r.sl.dist⟩
  · obtain ⟨r1, e1, n1⟩ := r.aft.ob
    refine ⟨r1 ++ [p], by rw [e1, List.append_assoc], fun a ha => ?_⟩
    rcases List.mem_append.mp ha with z | z
    · exact n1 a z
    · rw [List.mem_singleton.mp z]; exact f1
  · by_cases hj : j < g.ob.length
    · rw [List.getElem?_append_left hj] at e1
      rw [List.getElem?_append_left (by rw [← r.sto.len]; exact hj)] at e2
      exact ObR.ext e (fun u q => sm _ u q) (fun dx q => sm _ _ q) (r.sto.at_ j a o e1 e2)
    · rw [List.getElem?_append_right (Nat.le_of_not_lt hj)] at e1
      rw [List.getElem?_append_right (by rw [← r.sto.len]; exact Nat.le_of_not_lt hj)] at e2
      have hj2 : j - g.ob.length = 0 := by
        have := (List.getElem?_eq_some_iff.mp e1).1
        simp at this
        exact this
      rw [hj2] at e1
      rw [← r.sto.len, hj2] at e2
      cases e1
      cases e2
      exact ⟨vs, upd_same, Reps.ext e q⟩
  · exact List.nodup_append.mpr ⟨r.sto.nd, by simp, fun a ha b hb z => by rw [List.mem_singleton.mp hb] at z; exact f3 (z ▸ ha)⟩
  · rcases List.mem_append.mp ha with y | y
    · exact r.sto.nF a y z
    · rw [List.mem_singleton.mp y] at z; exact f2 z
  · obtain ⟨v, p1, p2⟩ := r.sl.val j u e1
    exact ⟨v, p1, Rep.ext e p2⟩
  · obtain ⟨x, ys, p1, p2, p3, p4, p5, p6⟩ := r.sl.own j us' e1
    refine ⟨x, ys, p1, sm _ _ p2, Reps.ext e p3, p4, fun z => ?_, p6⟩
    rcases List.mem_append.mp z with y | y
    · exact p5 y
    · rw [List.mem_singleton.mp y] at p2; rw [h] at p2; cases p2
end
end Zz
end
section
namespace Zz
open PySem PySem.Spec PyProof.Rows L2

abbrev XS := L2.St → XK
/-- what is asked behind a piece that ended so -/
def Pst {α β : Type} (Rp : Gh → Hp → α → β → Prop) (K : PySem.W.Frag) (B : Bs) (E : XS) (env : En) (σ : L2.St) (g : Gh) (H : Hp) (r : R α) (Q : β → Hp → Prop) : Prop :=
  match r with
  | .ok a S' => ∀ v g' H', Ext g H g' H' → Rel K B env S' g' σ H' → Rp g' H' a v → Q v H'
  | .exn c S' => ∀ g' H', Ext g H g' H' → Rel K B env S' g' σ H' → E σ (B.cv c) none H'
  | .bad => False
def J {α β : Type} (Rp : Gh → Hp → α → β → Prop) (K : PySem.W.Frag) (B : Bs) (E : XS) (m : En → M α) : L2.St → Hp → (β → Hp → Prop) → Prop := fun σ H Q =>
  ∃ env S g, Rel K B env S g σ H ∧ Pst Rp K B E env σ g H (m env S) Q
def RpB (_ : Gh) (_ : Hp) (a b : Bool) : Prop := a = b
abbrev jE (K : PySem.W.Frag) (B : Bs) (E : XS) (m : EM) : TE := J (Rep K) K B E m
abbrev jT (K : PySem.W.Frag) (B : Bs) (E : XS) (m : En → M Bool) : TT := J RpB K B E m
abbrev jA (K : PySem.W.Frag) (B : Bs) (E : XS) (m : AM) : TA := J (Reps K) K B E m

theorem PE.imp {X : Cx} {e : Expr} {t t' : TE} (h : PE X e t) (i : ∀ σ H Q, t' σ H Q → t σ H Q) : PE X e t' := ⟨fun pins s σ H Q I q => h.run pins s σ H Q I (i _ _ _ q)⟩
theorem PT.imp {X : Cx} {e : Expr} {t t' : TT} (h : PT X e t) (i : ∀ σ H Q, t' σ H Q → t σ H Q) : PT X e t' := ⟨fun pins s σ H Q I q => h.run pins s σ H Q I (i _ _ _ q)⟩
theorem PW.imp {X : Cx} {e : Expr} {t t' : TT} (h : PW X e t) (i : ∀ σ H Q, t' σ H Q → t σ H Q) : PW X e t' := ⟨fun w pins s σ H Q I q => h.run w pins s σ H Q I (i _ _ _ q)⟩
theorem PA.imp {X : Cx} {e : List Expr} {t t' : TA} (h : PA X e t) (i : ∀ σ H Q, t' σ H Q → t σ H Q) : PA X e t' := ⟨fun p pins s σ H Q I q => h.run p pins s σ H Q I (i _ _ _ q)⟩
theorem PS.imp {X : Cx} {e : Stmt} {t t' : TS} (h : PS X e t) (i : ∀ D σ H, t' D σ H → t D σ H) : PS X e t' := ⟨fun pins s σ H D I q => h.run pins s σ H D I (i _ _ _ q)⟩
theorem PSs.imp {X : Cx} {e : List Stmt} {t t' : TS} (h : PSs X e t) (i : ∀ D σ H, t' D σ H → t D σ H) : PSs X e t' := ⟨fun pins s σ H D I q => h.run pins s σ H D I (i _ _ _ q)⟩

section
variable {K : PySem.W.Frag} {B : Bs} {E : XS} {env : En} {σ : L2.St} {g g1 : Gh} {H H1 : Hp} {S : Sto}
/-- what is asked may be asked later -/
theorem Pst.later {α β : Type} {Rp : Gh → Hp → α → β → Prop} {r : R α} {Q : β → Hp → Prop} (e : Ext g H g1 H1) (p : Pst Rp K B E env σ g H r Q) : Pst Rp K B E env σ g1 H1 r Q := by
  cases r with
  | ok a S' => exact fun v g' H' e' => p v g' H' (e.trans e')
  | exn c S' => exact fun g' H' e' => p g' H' (e.trans e')
  | bad => exact p
/-- one piece, then another -/
theorem J.bind {α β γ δ : Type} {Rp : Gh → Hp → α → β → Prop} {Rq : Gh → Hp → γ → δ → Prop} {m : En → M α} {k : α → M γ} {Q : δ → Hp → Prop} (R : Rel K B env S g σ H) (p : Pst Rq K B E env σ g H (M.bind (m env) k S) Q)
    {T : β → Hp → Prop} (h : ∀ a v S1 g1 H1, Ext g H g1 H1 → Rel K B env S1 g1 σ H1 → Rp g1 H1 a v → Pst Rq K B E env σ g1 H1 (k a S1) Q → T v H1) : J Rp K B E m σ H T := by
  refine ⟨env, S, g, R, ?_⟩
  unfold M.bind at p
  cases q : m env S with
  | ok a S1 =>
    rw [q] at p
    exact fun v g1 H1 e1 R1 r1 => h a v S1 g1 H1 e1 R1 r1 (p.later e1)
  | exn c S1 =>
    rw [q] at p
    exact p
  | bad =>
    rw [q] at p
    exact p
theorem Pst.ret {α β : Type} {Rp : Gh → Hp → α → β → Prop} {a : α} {v : β} {Q : β → Hp → Prop} (R : Rel K B env S g σ H) (r : Rp g H a v) (p : Pst Rp K B E env σ g H (.ok a S) Q) : Q v H := p v g H (Ext.refl g H) R r
end

/-! ### expressions -/
def eC (w : W) : EM := fun _ S => .ok w S
def eVar (i : Nat) : EM := fun env S => match env[i]? with
  | some (.val w) => .ok w S
  | _ => .bad
def eOp (f : W → W → M W) (a b : EM) : EM := fun env => M.bind (a env) fun x => M.bind (b env) fun y => f x y
def eUn (f : W → M W) (a : EM) : EM := fun env => M.bind (a env) f
def aNil : AM := fun _ => M.ret []
def aCons (a : EM) (r : AM) : AM := fun env => M.bind (a env) fun x => M.bind (r env) fun xs => M.ret (x :: xs)
def eCall (f : List W → M W) (a : AM) : EM := fun env => M.bind (a env) f
def isB : W → M Bool
  | .bl b => M.ret b
  | _ => fun _ => .bad
def tV (a : EM) : En → M Bool := fun env => M.bind (a env) isB
def tNot (a : En → M Bool) : En → M Bool := fun env => M.bind (a env) fun b => M.ret (!b)
def tAnd (a b : En → M Bool) : En → M Bool := fun env => M.bind (a env) fun c => if c = true then b env else M.ret false
def tOr (a b : En → M Bool) : En → M Bool := fun env => M.bind (a env) fun c => if c = true then M.ret true else b env
def eAnd (a b : EM) : EM := fun env => M.bind (a env) fun x => M.bind (isB x) fun c => if c = true then b env else M.ret (.bl false)
def eOr (a b : EM) : EM := fun env => M.bind (a env) fun x => M.bind (isB x) fun c => if c = true then M.ret (.bl true) else b env
def eNot (a : EM) : EM := fun env => M.bind (a env) fun x => M.bind (isB x) fun c => M.ret (.bl (!c))
def eIf (t : En → M Bool) (a b : EM) : EM := fun env => M.bind (t env) fun c => if c = true then a env else b env
def eTup (a : AM) : EM := fun env => M.bind (a env) fun xs S => if xs.length ≤ 1000 then .ok (.tup xs) S else .bad
def eLst (a : AM) : EM := fun env => M.bind (a env) fun xs S => if xs.length ≤ 1000 then .ok (.lst xs) S else .bad

/-- an operation on values, and what the heap's rule asks -/
def OpM (K : PySem.W.Frag) (B : Bs) (E : XS) (f : W → W → M W) (r : R2) : Prop :=
  ∀ (env : En) (S : Sto) (g : Gh) (σ : L2.St) (H : Hp) (x y : W) (v u : V) (Q : VK), Rel K B env S g σ H → Rep K g H x v → Rep K g H y u → Pst (Rep K) K B E env σ g H (f x y S) Q → r v u H Q
def UnM (K : PySem.W.Frag) (B : Bs) (E : XS) (f : W → M W) (r : V → Hp → VK → Prop) : Prop :=
  ∀ (env : En) (S : Sto) (g : Gh) (σ : L2.St) (H : Hp) (x : W) (v : V) (Q : VK), Rel K B env S g σ H → Rep K g H x v → Pst (Rep K) K B E env σ g H (f x S) Q → r v H Q
def CaM (K : PySem.W.Frag) (B : Bs) (E : XS) (f : List W → M W) (r : List V → Hp → VK → Prop) : Prop :=
  ∀ (env : En) (S : Sto) (g : Gh) (σ : L2.St) (H : Hp) (xs : List W) (vs : List V) (Q : VK), Rel K B env S g σ H → Reps K g H xs vs → Pst (Rep K) K B E env σ g H (f xs S) Q → r vs H Q

section
variable {X : Cx} {B : Bs} {E : XS} {a b c : Expr} {es : List Expr} {ma mb mc : EM} {ta tb : En → M Bool} {am : AM} {pos : Pos}
theorem zc {w : W} {v : V} (h : PE X a (tC v)) (r : ∀ g H, Rep X.K g H w v) : PE X a (jE X.K B E (eC w)) := PE.imp h fun σ H Q ⟨env, S, g, R, p⟩ => Pst.ret R (r g H) p
theorem zint {i : Int} {j} : PE X (.Constant (.int i) j pos) (jE X.K B E (eC (.int i))) := zc pe_int fun _ _ => .int i
theorem zbl {i : Bool} {j} : PE X (.Constant (.bool i) j pos) (jE X.K B E (eC (.bl i))) := zc pe_bl fun _ _ => .bl i
theorem znon {j} : PE X (.Constant .none j pos) (jE X.K B E (eC .non)) := zc pe_non fun _ _ => .non
theorem zstr {x : Str} {j} : PE X (.Constant (.str x) j pos) (jE X.K B E (eC (.str x))) := zc pe_str fun _ _ => .str x
theorem zvar' {i : Nat} (h : PE X a (tVar i)) : PE X a (jE X.K B E (eVar i)) := PE.imp h fun σ H Q ⟨env, S, g, R, p⟩ => by
  unfold eVar at p
  cases q : env[i]? with
  | none => rw [q] at p; exact False.elim p
  | some s =>
    rw [q] at p
    cases s with
    | val w =>
      obtain ⟨v, h1, h2⟩ := R.sl.val i w q
      exact ⟨v, h1, p.ret R h2⟩
    | no => exact False.elim p
    | own ws => exact False.elim p
theorem zv (i : Nat) {x : Str} (hN : X.N[i]? = some x := by rfl) (hv : Vis X.env.scope x := by first | exact Or.inl rfl | exact Or.inr (Or.inl rfl) | exact Or.inr (Or.inr rfl)) (hd : (x == ("__debug__" : Str)) = false := by decide)
    (hcd : (x == ("__classdict__" : Str)) = false := by decide) : PE X (.Name x pos) (jE X.K B E (eVar i)) := zvar' (pe_var hN hv hd hcd)
theorem tOp_of {f : W → W → M W} {r : R2} (hf : OpM X.K B E f r) {σ : L2.St} {H : Hp} {Q : VK} (h : jE X.K B E (eOp f ma mb) σ H Q) : tOp r (jE X.K B E ma) (jE X.K B E mb) σ H Q := by
  obtain ⟨env, S, g, R, p⟩ := h
  refine J.bind R p fun x v S1 g1 H1 e1 R1 r1 p1 => ?_
  refine J.bind R1 p1 fun y u S2 g2 H2 e2 R2 r2 p2 => ?_
  exact hf env S2 g2 σ H2 x y v u Q R2 (r1.ext e2) r2 p2
theorem zop {op : Operator} {r : R2} {f : W → W → M W} (ho : OpR X (binaryOp op) r) (hf : OpM X.K B E f r) (ha : PE X a (jE X.K B E ma)) (hb : PE X b (jE X.K B E mb)) : PE X (.BinOp a op b pos) (jE X.K B E (eOp f ma mb)) :=
  PE.imp (pe_op ho ha hb) fun _ _ _ h => tOp_of hf h
theorem zun {op : UnaryOp} {r : V → Hp → VK → Prop} {f : W → M W} (ho : UnR X (unaryOp op) r) (hf : UnM X.K B E f r) (ha : PE X a (jE X.K B E ma)) : PE X (.UnaryOp op a pos) (jE X.K B E (eUn f ma)) :=
  PE.imp (pe_un ho ha) fun σ H Q ⟨env, S, g, R, p⟩ => J.bind R p fun x v S1 g1 H1 e1 R1 r1 p1 => hf env S1 g1 σ H1 x v Q R1 r1 p1
theorem zcmp {op : CmpOp} {r : R2} {f : W → W → M W} (ho : OpR X (compareOp op) r) (hf : OpM X.K B E f r) (ha : PE X a (jE X.K B E ma)) (hb : PE X b (jE X.K B E mb)) (hm : behindInMarks op b = false) : PE X (.Compare a [op] [b] pos) (jE X.K B E (eOp f ma mb)) :=
  PE.imp (pe_cmpR ho ha hb hm) fun _ _ _ h => tOp_of hf h
theorem zix {r : R2} {f : W → W → M W} (ho : IxR X r) (hf : OpM X.K B E f r) (ha : PE X a (jE X.K B E ma)) (hb : PE X b (jE X.K B E mb)) (hs : PlainIx b := by intro _ _; rfl) : PE X (.Subscript a b pos) (jE X.K B E (eOp f ma mb)) :=
  PE.imp (pe_ix ho ha hb hs) fun _ _ _ h => tOp_of hf h
/-- a value that is a bool, as a test -/
theorem tTest_of {t : TE} {ma : EM} {σ : L2.St} {H : Hp} {Q : Bool → Hp → Prop} (i : ∀ Q, jE X.K B E ma σ H Q → t σ H Q) (h : jT X.K B E (tV ma) σ H Q) : tTest t σ H Q := by
  obtain ⟨env, S, g, R, p⟩ := h
  refine i _ (J.bind R p fun x v S1 g1 H1 e1 R1 r1 p1 => ?_)
  cases r1 with
  | bl b => exact ⟨b, rfl, p1.ret R1 rfl⟩
  | _ => exact False.elim p1
theorem ztcmp {op : CmpOp} {r : R2} {f : W → W → M W} (ho : OpR X (compareOp op) r) (hf : OpM X.K B E f r) (ha : PE X a (jE X.K B E ma)) (hb : PE X b (jE X.K B E mb)) (hm : behindInMarks op b = false) : PT X (.Compare a [op] [b] pos) (jT X.K B E (tV (eOp f ma mb))) :=
  PT.imp (pt_cmpR ho ha hb hm) fun _ _ _ h => tTest_of (fun _ q => tOp_of hf q) h
theorem ztv (ha : PE X a (jE X.K B E ma)) (he : ∀ whole, isTrue a X.env whole = (do let v ← whole; standAt a.pos; holding [v] (truthy v)) := by intro _; rfl) : PT X a (jT X.K B E (tV ma)) :=
  PT.imp (pt_val ha he) fun _ _ _ h => tTest_of (fun _ q => q) h
theorem ztnot (ha : PT X a (jT X.K B E ta)) : PT X (.UnaryOp .Not a pos) (jT X.K B E (tNot ta)) :=
  PT.imp (pt_not ha) fun σ H Q ⟨env, S, g, R, p⟩ => J.bind R p fun x v S1 g1 H1 e1 R1 r1 p1 => by
    cases r1
    exact p1.ret R1 rfl
theorem ztand1 (ha : PT X a (jT X.K B E ta)) : PW X (.BoolOp .And [a] pos) (jT X.K B E ta) := pw_and1 ha
theorem ztor1 (ha : PT X a (jT X.K B E ta)) : PW X (.BoolOp .Or [a] pos) (jT X.K B E ta) := pw_or1 ha
theorem ztand {rest : List Expr} (ha : PT X a (jT X.K B E ta)) (hb : PW X (.BoolOp .And (b :: rest) pos) (jT X.K B E tb)) : PW X (.BoolOp .And (a :: b :: rest) pos) (jT X.K B E (tAnd ta tb)) :=
  PW.imp (pw_and ha hb) fun σ H Q ⟨env, S, g, R, p⟩ => J.bind R p fun x v S1 g1 H1 e1 R1 r1 p1 => by
    cases r1
    cases x with
    | true => exact ⟨env, S1, g1, R1, p1⟩
    | false => exact p1.ret R1 rfl
theorem ztor {rest : List Expr} (ha : PT X a (jT X.K B E ta)) (hb : PW X (.BoolOp .Or (b :: rest) pos) (jT X.K B E tb)) : PW X (.BoolOp .Or (a :: b :: rest) pos) (jT X.K B E (tOr ta tb)) :=
  PW.imp (pw_or ha hb) fun σ H Q ⟨env, S, g, R, p⟩ => J.bind R p fun x v S1 g1 H1 e1 R1 r1 p1 => by
    cases r1
    cases x with
    | true => exact p1.ret R1 rfl
    | false => exact ⟨env, S1, g1, R1, p1⟩
/-- the parts of isB -/
theorem isB_bl {K : PySem.W.Frag} {β : Type} {Rq : Gh → Hp → β → β → Prop} {x : W} {v : V} {S : Sto} {env : En} {σ : L2.St} {g : Gh} {H : Hp} {γ δ : Type} {Rr : Gh → Hp → γ → δ → Prop} {k : Bool → M γ} {Q : δ → Hp → Prop} (r : Rep K g H x v) (p : Pst Rr K B E env σ g H (M.bind (isB x) k S) Q) :
    ∃ c, v = .bl c ∧ Pst Rr K B E env σ g H (k c S) Q := by
  cases r with
  | bl b => exact ⟨b, rfl, p⟩
  | _ => exact False.elim p
theorem zone {op} (h : PE X a (jE X.K B E ma)) : PE X (.BoolOp op [a] pos) (jE X.K B E ma) := pe_one h
theorem zand {rest : List Expr} (ha : PE X a (jE X.K B E ma)) (hb : PE X (.BoolOp .And (b :: rest) pos) (jE X.K B E mb)) : PE X (.BoolOp .And (a :: b :: rest) pos) (jE X.K B E (eAnd ma mb)) :=
  PE.imp (pe_and ha hb) fun σ H Q ⟨env, S, g, R, p⟩ => J.bind R p fun x v S1 g1 H1 e1 R1 r1 p1 => by
    obtain ⟨c, rfl, p2⟩ := isB_bl (β := Bool) (Rq := RpB) r1 p1
    refine ⟨c, rfl, ?_⟩
    cases c with
    | true => exact ⟨env, S1, g1, R1, p2⟩
    | false => exact p2.ret R1 (.bl false)
theorem zor {rest : List Expr} (ha : PE X a (jE X.K B E ma)) (hb : PE X (.BoolOp .Or (b :: rest) pos) (jE X.K B E mb)) : PE X (.BoolOp .Or (a :: b :: rest) pos) (jE X.K B E (eOr ma mb)) :=
  PE.imp (pe_or ha hb) fun σ H Q ⟨env, S, g, R, p⟩ => J.bind R p fun x v S1 g1 H1 e1 R1 r1 p1 => by
    obtain ⟨c, rfl, p2⟩ := isB_bl (β := Bool) (Rq := RpB) r1 p1
    refine ⟨c, rfl, ?_⟩
    cases c with
    | true => exact p2.ret R1 (.bl true)
    | false => exact ⟨env, S1, g1, R1, p2⟩
theorem znot (ha : PE X a (jE X.K B E ma)) : PE X (.UnaryOp .Not a pos) (jE X.K B E (eNot ma)) :=
  PE.imp (pe_not ha) fun σ H Q ⟨env, S, g, R, p⟩ => J.bind R p fun x v S1 g1 H1 e1 R1 r1 p1 => by
    obtain ⟨c, rfl, p2⟩ := isB_bl (β := Bool) (Rq := RpB) r1 p1
    exact ⟨c, rfl, p2.ret R1 (.bl _)⟩
theorem zif (hc : PT X c (jT X.K B E ta)) (ha : PE X a (jE X.K B E ma)) (hb : PE X b (jE X.K B E mb)) : PE X (.IfExp c a b pos) (jE X.K B E (eIf ta ma mb)) :=
  PE.imp (pe_ifExp hc ha hb) fun σ H Q ⟨env, S, g, R, p⟩ => J.bind R p fun x v S1 g1 H1 e1 R1 r1 p1 => by
    cases r1
    cases x with
    | true => exact ⟨env, S1, g1, R1, p1⟩
    | false => exact ⟨env, S1, g1, R1, p1⟩
theorem zanil : PA X [] (jA X.K B E aNil) := PA.imp pa_nil fun σ H Q ⟨env, S, g, R, p⟩ => p.ret R .nil
theorem zacons (ha : PE X a (jE X.K B E ma)) (hr : PA X es (jA X.K B E am)) (hs : starEach (a :: es) X.env = (false, eval a X.env) :: starEach es X.env := by rfl) : PA X (a :: es) (jA X.K B E (aCons ma am)) :=
  PA.imp (pa_cons ha hr hs) fun σ H Q ⟨env, S, g, R, p⟩ => J.bind R p fun x v S1 g1 H1 e1 R1 r1 p1 => J.bind R1 p1 fun xs vs S2 g2 H2 e2 R2 r2 p2 => p2.ret R2 (.cons (r1.ext e2) r2)
theorem len1000 {n : Nat} (h : n ≤ 1000) : n ≤ sizeLine := Nat.le_of_lt (small1000 h)
theorem ztup {x1} (h : PA X es (jA X.K B E am)) : PE X (.Tuple es x1 pos) (jE X.K B E (eTup am)) :=
  PE.imp (pe_tup h) fun σ H Q ⟨env, S, g, R, p⟩ => J.bind R p fun xs vs S1 g1 H1 e1 R1 r1 p1 => by
    by_cases hl : xs.length ≤ 1000
    · rw [if_pos hl] at p1
      refine ⟨by rw [← r1.length]; exact len1000 hl, fun q hq => ?_⟩
      have e := ext_laid (o := .tup vs) R1 hq
      exact p1 _ g1 _ e (R1.laid hq) (.tup (.inl (.inl upd_same)) (Reps.ext e r1))
    · rw [if_neg hl] at p1
      exact False.elim p1
theorem zlst (h : PA X es (jA X.K B E am)) : PE X (.List es pos) (jE X.K B E (eLst am)) :=
  PE.imp (pe_lst h) fun σ H Q ⟨env, S, g, R, p⟩ => J.bind R p fun xs vs S1 g1 H1 e1 R1 r1 p1 => by
    by_cases hl : xs.length ≤ 1000
    · rw [if_pos hl] at p1
      refine ⟨by rw [← r1.length]; exact len1000 hl, fun q hq => ?_⟩
      have e := ext_newF (o := .lst vs) R1 hq
      exact p1 _ _ _ e (R1.newF hq) (.lst ⟨.inr rfl, upd_same⟩ (Reps.ext e r1))
    · rw [if_neg hl] at p1
      exact False.elim p1
theorem tCB_of {f : List W → M W} {r : List V → Hp → VK → Prop} (hf : CaM X.K B E f r) {σ : L2.St} {H : Hp} {Q : VK} (h : jE X.K B E (eCall f am) σ H Q) : tCB r (jA X.K B E am) σ H Q := by
  obtain ⟨env, S, g, R, p⟩ := h
  exact J.bind R p fun xs vs S1 g1 H1 e1 R1 r1 p1 => hf env S1 g1 σ H1 xs vs Q R1 r1 p1
theorem zcallB {id : String} {x : Str} {p : Pos} {e : Expr} {f : List W → M W} {r : List V → Hp → VK → Prop} (hc : CallR X (.builtin id) r) (hf : CaM X.K B E f r) (hm : X.mg x = none) (ha : PA X (e :: es) (jA X.K B E am)) (hg : Gl X x := by rfl) (hv : bootBuiltins x = some (.builtin id) := by decide +kernel)
    (hn : x ≠ "__name__" := by decide) (hdb : (x == ("__debug__" : Str)) = false := by decide)
    (he : starEach (e :: es) X.env = (false, eval e X.env) :: starEach es X.env := by rfl) (hpl : (backTo pos (starEach es X.env)).any (·.1) = false := by rfl) : PE X (.Call (.Name x p) (e :: es) [] pos) (jE X.K B E (eCall f am)) :=
  PE.imp (pe_callB hc hg hm hv ha hn hdb he hpl) fun _ _ _ h => tCB_of hf h
theorem zcallTy {id : String} {x : Str} {p : Pos} {e : Expr} {f : List W → M W} {r : List V → Hp → VK → Prop} (hc : CallR X (.type id) r) (hf : CaM X.K B E f r) (hm : X.mg x = none) (ha : PA X (e :: es) (jA X.K B E am)) (hg : Gl X x := by rfl) (hv : bootBuiltins x = some (.type id) := by decide +kernel)
    (hn : x ≠ "__name__" := by decide) (hdb : (x == ("__debug__" : Str)) = false := by decide)
    (he : starEach (e :: es) X.env = (false, eval e X.env) :: starEach es X.env := by rfl) (hpl : (backTo pos (starEach es X.env)).any (·.1) = false := by rfl) : PE X (.Call (.Name x p) (e :: es) [] pos) (jE X.K B E (eCall f am)) :=
  PE.imp (pe_callTy hc hg hm hv ha hn hdb he hpl) fun _ _ _ h => tCB_of hf h
end

/-! ### a def -/
/-- what a def promises by a plain function -/
def spM (K : PySem.W.Frag) (C : Addr) (cv : Nat → Value) (n : Nat) (m : List W → M W) : Sp := fun vs H Q E => ∃ ws S g, vs.length = n ∧ Reps K g H ws vs ∧ StoOk K C g H S ∧ FOk g H ∧
  match m ws S with
  | .ok w S' => ∀ v g' H', Aft g H g' H' → StoOk K C g' H' S' → FOk g' H' → Rep K g' H' w v → Q v H'
  | .exn c S' => ∀ g' H', Aft g H g' H' → StoOk K C g' H' S' → FOk g' H' → E (cv c) none H'
  | .bad => False
structure Def (P : Program) (w : World) (K : PySem.W.Frag) (mg : Str → Option Value) (base : Heap) (C : Addr) (cv : Nat → Value) (k : Nat) (x : Str) (n : Nat) (m : List W → M W) : Prop where
  ex : ∃ f fd ps, mg x = some (.ref f) ∧ PySem.W.keepIn K (.ref f) = true ∧ Binds K fd ps [] ∧ FnOk P w K mg base (L2.CX P w) k f fd ps (spM K C cv n m)
section
variable {X : Cx} {B : Bs} {E : XS} {es : List Expr} {am : AM} {pos : Pos}
theorem zcall {k j n : Nat} {x : Str} {p : Pos} {e : Expr} {m : List W → M W} (D : Def X.prog X.w X.K X.mg X.base B.C B.cv k x n m) (hr : Room j X.A) (hx : ∀ σ, PassesAt (L2.CX X.prog X.w) X σ (E σ)) (ha : PA X (e :: es) (jA X.K B E am)) (hkj : k ≤ j := by decide) (hg : Gl X x := by rfl)
    (hdb : (x == ("__debug__" : Str)) = false := by decide) (he : starEach (e :: es) X.env = (false, eval e X.env) :: starEach es X.env := by rfl) (hpl : (backTo pos (starEach es X.env)).any (·.1) = false := by rfl)
    (hn : (e :: es).length = n := by rfl) (hal : ∀ env S ws S', am env S = .ok ws S' → ws.length = n) :
    PE X (.Call (.Name x p) (e :: es) [] pos) (jE X.K B E (eCall m am)) := by
  obtain ⟨f, fd, ps, hm, hk, hb, F⟩ := D.ex
  refine PE.imp (pe_callS F (hr.mono hkj) hg hm hk hb hx ha hdb he hpl) fun σ H Q ⟨env, S, g, R, p⟩ => ?_
  refine ⟨env, S, g, R, ?_⟩
  unfold eCall M.bind at p
  cases q : am env S with
  | ok ws S1 =>
    rw [q] at p
    intro vs g1 H1 e1 R1 r1
    refine ⟨ws, S1, g1, by rw [← r1.length]; exact hal _ _ _ _ q, r1, R1.sto, R1.fok, ?_⟩
    have p' : Pst (Rep X.K) X.K B E env σ g1 H1 (m ws S1) Q := Pst.later e1 p
    cases q2 : m ws S1 with
    | ok w S2 =>
      rw [q2] at p'
      exact fun v g' H' af st fo rv => p' v g' H' (af.ext R1.sto R1.fok) (R1.after af st fo) rv
    | exn c S2 =>
      rw [q2] at p'
      exact fun g' H' af st fo => p' g' H' (af.ext R1.sto R1.fok) (R1.after af st fo)
    | bad =>
      rw [q2] at p'
      exact p'
  | exn c S1 => rw [q] at p; exact p
  | bad => rw [q] at p; exact p
end
theorem al_nil (env : En) (S : Sto) (ws : List W) (S' : Sto) (h : aNil env S = .ok ws S') : ws.length = 0 := by
  cases h
  rfl
theorem al_cons {n : Nat} {a : EM} {r : AM} (hr : ∀ env S ws S', r env S = .ok ws S' → ws.length = n) (env : En) (S : Sto) (ws : List W) (S' : Sto) (h : aCons a r env S = .ok ws S') : ws.length = n + 1 := by
  unfold aCons M.bind at h
  cases q : a env S with
  | ok x S1 =>
    rw [q] at h
    cases q2 : r env S1 with
    | ok xs S2 =>
      simp only [q2] at h
      cases h
      rw [List.length_cons, hr _ _ _ _ q2]
    | exn c S2 => simp only [q2] at h; cases h
    | bad => simp only [q2] at h; cases h
  | exn c S1 => rw [q] at h; cases h
  | bad => rw [q] at h; cases h
end Zz
end
section
namespace Zz
open PySem PySem.Spec PyProof.Rows L2

/-! ### data -/
mutual
def dat : W → PyData
  | .non => .none
  | .bl b => .bool b
  | .int i => .int i
  | .str x => .str x
  | .tup xs => .tuple (dats xs)
  | .lst xs => .list (dats xs)
  | .scr xs => .list (dats xs)
  | .obj _ => .none
  | .exc _ => .none
def dats : List W → List PyData
  | [] => []
  | x :: xs => dat x :: dats xs
end
mutual
def sh (n : Nat) : W → Bool
  | .non => true
  | .bl _ => true
  | .int _ => true
  | .str x => PyData.strOk x
  | .tup xs => decide (0 < n) && shs (n - 1) xs
  | .lst xs => decide (0 < n) && shs (n - 1) xs
  | .scr xs => decide (0 < n) && shs (n - 1) xs
  | .obj _ => false
  | .exc _ => false
def shs (n : Nat) : List W → Bool
  | [] => true
  | x :: xs => sh n x && shs n xs
end
mutual
theorem sh_dat : ∀ (w : W) (n : Nat), sh n w = true → (dat w).canLay0 = true ∧ (dat w).depth ≤ n
  | .non, n, _ => ⟨by simp [dat, PyData.canLay0], by simp [dat, PyData.depth]⟩
  | .bl b, n, _ => ⟨by simp [dat, PyData.canLay0], by simp [dat, PyData.depth]⟩
  | .int i, n, _ => ⟨by simp [dat, PyData.canLay0], by simp [dat, PyData.depth]⟩
  | .str x, n, h => ⟨by simp only [dat, PyData.canLay0]; simpa [sh] using h, by simp [dat, PyData.depth]⟩
  | .tup xs, n, h => by
    simp only [sh, Bool.and_eq_true, decide_eq_true_eq] at h
    obtain ⟨h1, h2⟩ := shs_dat xs (n - 1) h.2
    exact ⟨by simp only [dat, PyData.canLay0]; exact h1, by simp only [dat, PyData.depth]; omega⟩
  | .lst xs, n, h => by
    simp only [sh, Bool.and_eq_true, decide_eq_true_eq] at h
    obtain ⟨h1, h2⟩ := shs_dat xs (n - 1) h.2
    exact ⟨by simp only [dat, PyData.canLay0]; exact h1, by simp only [dat, PyData.depth]; omega⟩
  | .scr xs, n, h => by
    simp only [sh, Bool.and_eq_true, decide_eq_true_eq] at h
    obtain ⟨h1, h2⟩ := shs_dat xs (n - 1) h.2
    exact ⟨by simp only [dat, PyData.canLay0]; exact h1, by simp only [dat, PyData.depth]; omega⟩
  | .obj _, n, h => by simp [sh] at h
  | .exc _, n, h => by simp [sh] at h
theorem shs_dat : ∀ (ws : List W) (n : Nat), shs n ws = true → PyData.canLayAll0 (dats ws) = true ∧ PyData.depthAll (dats ws) ≤ n
  | [], n, _ => ⟨by simp [dats, PyData.canLayAll0], by simp [dats, PyData.depthAll]⟩
  | x :: xs, n, h => by
    simp only [shs, Bool.and_eq_true] at h
    obtain ⟨h1, h2⟩ := sh_dat x n h.1
    obtain ⟨h3, h4⟩ := shs_dat xs n h.2
    exact ⟨by simp only [dats, PyData.canLayAll0]; rw [h1, h3]; rfl, by simp only [dats, PyData.depthAll]; omega⟩
end
section
variable {K : PySem.W.Frag} {g : Gh} {H : Hp}
mutual
theorem Rep.dp : ∀ {w : W} {v : V} {n : Nat}, Rep K g H w v → sh n w = true → Dp K H v (dat w)
  | _, _, _, .non, _ => .non
  | _, _, _, .bl b, _ => .bl b
  | _, _, _, .int i, _ => .int i
  | _, _, _, .str x, _ => .str x
  | _, _, n, .tup s r, h => by
    simp only [sh, Bool.and_eq_true] at h
    exact .tup s (Reps.dp r h.2)
  | _, _, n, .lst s r, h => by
    simp only [sh, Bool.and_eq_true] at h
    exact .lst (SqL.of s.2) (Reps.dp r h.2)
  | _, _, n, .scr s r, h => by
    simp only [sh, Bool.and_eq_true] at h
    exact .lst s.sql (Reps.dp r h.2)
  | _, _, n, .obj s, h => by simp [sh] at h
  | _, _, n, .exc s, h => by simp [sh] at h
theorem Reps.dp : ∀ {ws : List W} {vs : List V} {n : Nat}, Reps K g H ws vs → shs n ws = true → DpAll K H vs (dats ws)
  | _, _, _, .nil, _ => .nil
  | _, _, n, .cons r t, h => by
    simp only [shs, Bool.and_eq_true] at h
    exact .cons (Rep.dp r h.1) (Reps.dp t h.2)
end
end
theorem shaped_of {w : W} (h : sh 8 w = true) : SeqAt.shaped (dat w) = true := by
  obtain ⟨h1, h2⟩ := sh_dat w 8 h
  unfold SeqAt.shaped
  rw [h1, decide_eq_true (show (dat w).depth ≤ 64 by omega)]
  rfl

/-! ### operations -/
def opEq (x y : W) : M W := fun S => if (sh 8 x && sh 8 y) = true then .ok (.bl (PyData.eqv (dat x) (dat y))) S else .bad
def opNe (x y : W) : M W := fun S => if (sh 8 x && sh 8 y) = true then .ok (.bl (!PyData.eqv (dat x) (dat y))) S else .bad
section
variable {K : PySem.W.Frag} {B : Bs} {E : XS}
theorem m_eq : OpM K B E opEq (rEqD K) := fun env S g σ H x y v u Q R rx ry p => by
  unfold opEq at p
  by_cases h : (sh 8 x && sh 8 y) = true
  · rw [if_pos h] at p
    rw [Bool.and_eq_true] at h
    exact ⟨_, _, rx.dp h.1, ry.dp h.2, shaped_of h.1, shaped_of h.2, p.ret R (.bl _)⟩
  · rw [if_neg h] at p
    exact False.elim p
theorem m_ne : OpM K B E opNe (rNeD K) := fun env S g σ H x y v u Q R rx ry p => by
  unfold opNe at p
  by_cases h : (sh 8 x && sh 8 y) = true
  · rw [if_pos h] at p
    rw [Bool.and_eq_true] at h
    exact ⟨_, _, rx.dp h.1, ry.dp h.2, shaped_of h.1, shaped_of h.2, p.ret R (.bl _)⟩
  · rw [if_neg h] at p
    exact False.elim p
end

def bnd : Int := 2 ^ 400
def sml (i : Int) : Prop := -bnd < i ∧ i < bnd
instance (i : Int) : Decidable (sml i) := by unfold sml; infer_instance
theorem sml_abs {i : Int} (h : sml i) : i.natAbs < 2 ^ 400 := by
  have h1 := h.1
  have h2 := h.2
  unfold bnd at h1 h2
  omega
def s64 (i : Int) : Prop := -(2 ^ 64) < i ∧ i < 2 ^ 64
def gMul (i j : Int) : Prop := s64 i ∨ s64 j ∨ (sml i ∧ sml j)
instance (i : Int) : Decidable (s64 i) := by unfold s64; infer_instance
instance (i j : Int) : Decidable (gMul i j) := by unfold gMul; infer_instance
def strMul (x : Str) (n : Int) : Str := if n < 1 then Str.empty else if (n == 1 || x.length == 0) = true then x else ⟨(List.replicate n.toNat x.cps).foldl (· ++ ·) #[]⟩

def opAdd : W → W → M W
  | .int i, .int j => M.ret (.int (i + j))
  | .str a, .str b => fun S => if a.length + b.length ≤ 1000 then .ok (.str (a ++ b)) S else .bad
  | .tup xs, .tup ys => fun S => if 0 < xs.length ∧ xs.length + ys.length ≤ 1000 then .ok (.tup (xs ++ ys)) S else .bad
  | .lst xs, .lst ys => fun S => if xs.length + ys.length ≤ 1000000 then .ok (.lst (xs ++ ys)) S else .bad
  | _, _ => fun _ => .bad
def opSub : W → W → M W
  | .int i, .int j => M.ret (.int (i - j))
  | _, _ => fun _ => .bad
def opMul : W → W → M W
  | .int i, .int j => fun S => if gMul i j then .ok (.int (i * j)) S else .bad
  | .str x, .int n => fun S => if x.length ≤ 10 ∧ -(2 ^ 62) < n ∧ n ≤ 1000 then .ok (.str (strMul x n)) S else .bad
  | .lst xs, .int n => fun S => if -(2 ^ 62) < n ∧ n < 2 ^ 62 ∧ xs.length * n.toNat ≤ 1000000 then .ok (.lst (List.replicate n.toNat xs).flatten) S else .bad
  | _, _ => fun _ => .bad
def opFdiv : W → W → M W
  | .int i, .int j => fun S => if 0 < j ∧ sml j then .ok (.int (i / j)) S else .bad
  | _, _ => fun _ => .bad
def opMod : W → W → M W
  | .int i, .int j => fun S => if 0 < j then .ok (.int (i % j)) S else .bad
  | _, _ => fun _ => .bad
def opPow : W → W → M W
  | .int i, .int j => fun S => if 0 ≤ j ∧ j ≤ 1000 ∧ i.natAbs < 2 ^ 64 then .ok (.int (i ^ j.toNat)) S else .bad
  | _, _ => fun _ => .bad
def opLt : W → W → M W
  | .int i, .int j => M.ret (.bl (decide (i < j)))
  | _, _ => fun _ => .bad
def opLe : W → W → M W
  | .int i, .int j => M.ret (.bl (decide (i ≤ j)))
  | _, _ => fun _ => .bad
def opGt : W → W → M W
  | .int i, .int j => M.ret (.bl (decide (j < i)))
  | _, _ => fun _ => .bad
def opGe : W → W → M W
  | .int i, .int j => M.ret (.bl (decide (j ≤ i)))
  | _, _ => fun _ => .bad
def isNon : W → Bool
  | .non => true
  | _ => false
def opIs : W → W → M W
  | x, .non => M.ret (.bl (isNon x))
  | .bl a, .bl b => M.ret (.bl (decide (a = b)))
  | _, _ => fun _ => .bad
def opIsn : W → W → M W
  | x, .non => M.ret (.bl (!isNon x))
  | .bl a, .bl b => M.ret (.bl (!decide (a = b)))
  | _, _ => fun _ => .bad
def opNeg : W → M W
  | .int i => M.ret (.int (-i))
  | _ => fun _ => .bad
section
variable {X : Cx} {B : Bs} {E : XS}
theorem line_eq : (sizeLine : Nat) = 16777216 := sizeLine_eq
theorem rep_non {K : PySem.W.Frag} {g : Gh} {H : Hp} {x : W} {v : V} (r : Rep K g H x v) : decide (v = .non) = isNon x := by
  cases r <;> rfl
theorem z_addI : OpM X.K B E opAdd (fun x y H Q => rI0 (fun i j => .int (i + j)) x y H Q ∨ ((∃ i j, x = .str i ∧ y = .str j ∧ i.length + j.length ≤ sizeLine ∧ Q (.str (i ++ j)) H) ∨ (rCatT X.K x y H Q ∨ rCat x y H Q))) := fun env S g σ H x y v u Q R rx ry p => by
  have hz := line_eq
  cases rx with
  | int i =>
    cases ry with
    | int j => exact .inl ⟨i, j, rfl, rfl, p.ret R (.int _)⟩
    | _ => exact False.elim p
  | str a =>
    cases ry with
    | str b =>
      refine .inr (.inl ⟨a, b, rfl, rfl, ?_⟩)
      unfold opAdd at p
      by_cases h : a.length + b.length ≤ 1000
      · simp only [if_pos h] at p
        exact ⟨by omega, p.ret R (.str _)⟩
      · simp only [if_neg h] at p
        exact False.elim p
    | _ => exact False.elim p
  | @tup a vs xs s1 r1 =>
    cases ry with
    | @tup b us ys s2 r2 =>
      refine .inr (.inr (.inl ?_))
      unfold opAdd at p
      have l1 := r1.length
      have l2 := r2.length
      by_cases h : 0 < xs.length ∧ xs.length + ys.length ≤ 1000
      · simp only [if_pos h] at p
        refine ⟨a, b, vs, us, rfl, rfl, s1, s2, fun z => ?_, by omega, fun z => ?_, fun _ q hq => ?_⟩
        · subst z
          simp only [List.length_nil] at l1
          omega
        · subst z
          cases r2
          rw [List.append_nil] at p
          exact p.ret R (.tup s1 r1)
        · have e := ext_laid (o := .tup (vs ++ us)) R hq
          exact p _ _ _ e (R.laid hq) (.tup (.inl (.inl upd_same)) (Reps.ext e (r1.append r2)))
      · simp only [if_neg h] at p
        exact False.elim p
    | _ => exact False.elim p
  | @lst a vs xs s1 r1 =>
    cases ry with
    | @lst b us ys s2 r2 =>
      refine .inr (.inr (.inr ?_))
      unfold opAdd at p
      have l1 := r1.length
      have l2 := r2.length
      by_cases h : xs.length + ys.length ≤ 1000000
      · simp only [if_pos h] at p
        refine ⟨a, b, vs, us, rfl, rfl, s1.2, s2.2, by omega, fun q hq => ?_⟩
        have e := ext_newF (o := .lst (vs ++ us)) R hq
        exact p _ _ _ e (R.newF hq) (.lst ⟨.inr rfl, upd_same⟩ (Reps.ext e (r1.append r2)))
      · simp only [if_neg h] at p
        exact False.elim p
    | _ => exact False.elim p
  | _ => exact False.elim p
theorem h_add : OpR X (binaryOp .Add) (fun x y H Q => rI0 (fun i j => .int (i + j)) x y H Q ∨ ((∃ i j, x = .str i ∧ y = .str j ∧ i.length + j.length ≤ sizeLine ∧ Q (.str (i ++ j)) H) ∨ (rCatT X.K x y H Q ∨ rCat x y H Q))) := op_add.or (op_add_str.or (op_catT.or op_cat))
theorem m_sub : OpM X.K B E opSub (rI0 fun i j => .int (i - j)) := fun env S g σ H x y v u Q R rx ry p => by
  cases rx with
  | int i =>
    cases ry with
    | int j => exact ⟨i, j, rfl, rfl, p.ret R (.int _)⟩
    | _ => exact False.elim p
  | _ => exact False.elim p
def rStrMul : R2 := fun x y H Q => ∃ a n, x = .str a ∧ y = .int n ∧ a.length ≤ 10 ∧ -(2 ^ 62) < n ∧ n ≤ 1000 ∧ Q (.str (strMul a n)) H
theorem foldl_size (c : Array Nat) : ∀ (n : Nat) (acc : Array Nat), ((List.replicate n c).foldl (· ++ ·) acc).size = acc.size + n * c.size
  | 0, acc => by simp
  | n + 1, acc => by
    rw [List.replicate_succ, List.foldl_cons, foldl_size c n, Array.size_append, Nat.succ_mul]
    omega
theorem op_strMul : OpR X (binaryOp .Mult) rStrMul := by
  intro pins s σ H x y v u Q I rx ry h
  obtain ⟨a, n, rfl, rfl, h1, h2, h3, q⟩ := h
  obtain ⟨t, rfl⟩ := rx
  obtain ⟨t', rfl⟩ := ry
  have hz := line_eq
  refine PySem.P.mul_str ?_ (fun h4 _ => ?_) (fun h4 _ => ?_) ?_
  · rw [decide_eq_false (by omega), decide_eq_false (by omega)]; rfl
  · have : (a.length : Int) ≤ (2 ^ 63 - 1) / n := by
      have h5 : (2 ^ 63 - 1) / n ≥ (2 ^ 63 - 1) / 1000 := by
        apply Int.le_ediv_of_mul_le (by omega)
        have : ((2 ^ 63 - 1) / 1000 : Int) * n ≤ ((2 ^ 63 - 1) / 1000 : Int) * 1000 := Int.mul_le_mul_of_nonneg_left h3 (by decide)
        omega
      omega
    omega
  · have : a.length * n.toNat ≤ 10 * 1000 := Nat.mul_le_mul h1 (by omega)
    unfold Builtin.Str.tooLong
    simp only [decide_eq_false_iff_not]
    omega
  · unfold strMul at q
    by_cases hn : n < 1
    · rw [if_pos hn] at q ⊢
      exact ⟨by decide, .str Str.empty, H, I.tok _, ⟨_, rfl⟩, q⟩
    · rw [if_neg hn] at q ⊢
      by_cases hm : (n == 1 || a.length == 0) = true
      · rw [if_pos hm] at q ⊢
        exact ⟨.str a, H, I.tok _, ⟨_, rfl⟩, q⟩
      · rw [if_neg hm] at q ⊢
        refine ⟨?_, .str _, H, I.tok _, ⟨_, rfl⟩, q⟩
        show (List.foldl (fun x1 x2 => x1 ++ x2) #[] (List.replicate n.toNat a.cps)).size ≤ sizeLine
        rw [foldl_size]
        have : n.toNat * a.length ≤ 1000 * 10 := Nat.mul_le_mul (by omega) h1
        have e : a.cps.size = a.length := rfl
        rw [e]
        show 0 + n.toNat * a.length ≤ _
        omega
def rMulI : R2 := fun x y H Q => rI CMul (fun i j => .int (i * j)) x y H Q ∨ rI CMulW (fun i j => .int (i * j)) x y H Q
theorem h_mul : OpR X (binaryOp .Mult) (fun x y H Q => rMulI x y H Q ∨ (rStrMul x y H Q ∨ rRep x y H Q)) := OpR.or (r := rMulI) (op_mul.or op_mulW) (op_strMul.or op_rep)
theorem Reps.rep {K : PySem.W.Frag} {g : Gh} {H : Hp} {ws : List W} {vs : List V} (r : Reps K g H ws vs) : ∀ n : Nat, Reps K g H (List.replicate n ws).flatten (List.replicate n vs).flatten
  | 0 => .nil
  | n + 1 => by
    rw [List.replicate_succ, List.replicate_succ, List.flatten_cons, List.flatten_cons]
    exact r.append (Reps.rep r n)
theorem m_mul : OpM X.K B E opMul (fun x y H Q => rMulI x y H Q ∨ (rStrMul x y H Q ∨ rRep x y H Q)) := fun env S g σ H x y v u Q R rx ry p => by
  have hz := line_eq
  cases rx with
  | int i =>
    cases ry with
    | int j =>
      unfold opMul at p
      by_cases h : gMul i j
      · simp only [if_pos h] at p
        rcases h with h | h | h
        · exact .inl (.inl ⟨i, j, rfl, rfl, .inl h, p.ret R (.int _)⟩)
        · exact .inl (.inl ⟨i, j, rfl, rfl, .inr h, p.ret R (.int _)⟩)
        · exact .inl (.inr ⟨i, j, rfl, rfl, wide_mul (sml_abs h.1) (sml_abs h.2) (by decide) (by decide) (by decide), p.ret R (.int _)⟩)
      · simp only [if_neg h] at p
        exact False.elim p
    | _ => exact False.elim p
  | str a =>
    cases ry with
    | int n =>
      unfold opMul at p
      by_cases h : a.length ≤ 10 ∧ -(2 ^ 62) < n ∧ n ≤ 1000
      · simp only [if_pos h] at p
        exact .inr (.inl ⟨a, n, rfl, rfl, h.1, h.2.1, h.2.2, p.ret R (.str _)⟩)
      · simp only [if_neg h] at p
        exact False.elim p
    | _ => exact False.elim p
  | @lst a vs xs s1 r1 =>
    cases ry with
    | int n =>
      unfold opMul at p
      have l1 := r1.length
      by_cases h : -(2 ^ 62) < n ∧ n < 2 ^ 62 ∧ xs.length * n.toNat ≤ 1000000
      · simp only [if_pos h] at p
        refine .inr (.inr ⟨a, n, vs, rfl, rfl, s1.2, by omega, by omega, by rw [← l1]; omega, fun q hq => ?_⟩)
        have e := ext_newF (o := .lst (List.replicate n.toNat vs).flatten) R hq
        exact p _ _ _ e (R.newF hq) (.lst ⟨.inr rfl, upd_same⟩ (Reps.ext e (Reps.rep r1 _)))
      · simp only [if_neg h] at p
        exact False.elim p
    | _ => exact False.elim p
  | _ => exact False.elim p
theorem m_fdiv : OpM X.K B E opFdiv (rI CDivW fun i j => .int (i / j)) := fun env S g σ H x y v u Q R rx ry p => by
  cases rx with
  | int i =>
    cases ry with
    | int j =>
      unfold opFdiv at p
      by_cases h : 0 < j ∧ sml j
      · simp only [if_pos h] at p
        exact ⟨i, j, rfl, rfl, wide_div h.1 (sml_abs h.2) (by decide) (by decide), p.ret R (.int _)⟩
      · simp only [if_neg h] at p
        exact False.elim p
    | _ => exact False.elim p
  | _ => exact False.elim p
theorem m_mod : OpM X.K B E opMod (rI (fun _ j => 0 < j) fun i j => .int (i % j)) := fun env S g σ H x y v u Q R rx ry p => by
  cases rx with
  | int i =>
    cases ry with
    | int j =>
      unfold opMod at p
      by_cases h : 0 < j
      · simp only [if_pos h] at p
        exact ⟨i, j, rfl, rfl, h, p.ret R (.int _)⟩
      · simp only [if_neg h] at p
        exact False.elim p
    | _ => exact False.elim p
  | _ => exact False.elim p
theorem m_pow : OpM X.K B E opPow (rI CPow fun i j => .int (i ^ j.toNat)) := fun env S g σ H x y v u Q R rx ry p => by
  cases rx with
  | int i =>
    cases ry with
    | int j =>
      unfold opPow at p
      by_cases h : 0 ≤ j ∧ j ≤ 1000 ∧ i.natAbs < 2 ^ 64
      · simp only [if_pos h] at p
        exact ⟨i, j, rfl, rfl, ⟨h.1, by omega, h.2.2⟩, p.ret R (.int _)⟩
      · simp only [if_neg h] at p
        exact False.elim p
    | _ => exact False.elim p
  | _ => exact False.elim p
theorem m_lt : OpM X.K B E opLt (rI0 fun i j => .bl (decide (i < j))) := fun env S g σ H x y v u Q R rx ry p => by
  cases rx with
  | int i =>
    cases ry with
    | int j => exact ⟨i, j, rfl, rfl, p.ret R (.bl _)⟩
    | _ => exact False.elim p
  | _ => exact False.elim p
theorem m_le : OpM X.K B E opLe (rI0 fun i j => .bl (decide (i ≤ j))) := fun env S g σ H x y v u Q R rx ry p => by
  cases rx with
  | int i =>
    cases ry with
    | int j => exact ⟨i, j, rfl, rfl, p.ret R (.bl _)⟩
    | _ => exact False.elim p
  | _ => exact False.elim p
theorem m_gt : OpM X.K B E opGt (rI0 fun i j => .bl (decide (j < i))) := fun env S g σ H x y v u Q R rx ry p => by
  cases rx with
  | int i =>
    cases ry with
    | int j => exact ⟨i, j, rfl, rfl, p.ret R (.bl _)⟩
    | _ => exact False.elim p
  | _ => exact False.elim p
theorem m_ge : OpM X.K B E opGe (rI0 fun i j => .bl (decide (j ≤ i))) := fun env S g σ H x y v u Q R rx ry p => by
  cases rx with
  | int i =>
    cases ry with
    | int j => exact ⟨i, j, rfl, rfl, p.ret R (.bl _)⟩
    | _ => exact False.elim p
  | _ => exact False.elim p
def rIsN : R2 := fun x y H Q => y = .non ∧ Q (.bl (decide (x = .non))) H
def rNotN : R2 := fun x y H Q => y = .non ∧ Q (.bl (!decide (x = .non))) H
theorem h_is : OpR X (compareOp .Is) (fun x y H Q => rIsN x y H Q ∨ rIsB x y H Q) := OpR.or (r := rIsN) op_isN op_isBl
theorem h_isn : OpR X (compareOp .IsNot) (fun x y H Q => rNotN x y H Q ∨ rNotB x y H Q) := OpR.or (r := rNotN) op_notN op_notBl
theorem m_is : OpM X.K B E opIs (fun x y H Q => rIsN x y H Q ∨ rIsB x y H Q) := fun env S g σ H x y v u Q R rx ry p => by
  cases ry with
  | non =>
    refine .inl ⟨rfl, ?_⟩
    rw [rep_non rx]
    have p' : Pst (Rep X.K) X.K B E env σ g H (.ok (.bl (isNon x)) S) Q := by
      cases x <;> exact p
    exact p'.ret R (.bl _)
  | bl b =>
    cases rx with
    | bl a => exact .inr ⟨a, b, rfl, rfl, p.ret R (.bl _)⟩
    | _ => exact False.elim p
  | _ => cases rx <;> exact False.elim p
theorem m_isn : OpM X.K B E opIsn (fun x y H Q => rNotN x y H Q ∨ rNotB x y H Q) := fun env S g σ H x y v u Q R rx ry p => by
  cases ry with
  | non =>
    refine .inl ⟨rfl, ?_⟩
    rw [rep_non rx]
    have p' : Pst (Rep X.K) X.K B E env σ g H (.ok (.bl (!isNon x)) S) Q := by
      cases x <;> exact p
    exact p'.ret R (.bl _)
  | bl b =>
    cases rx with
    | bl a => exact .inr ⟨a, b, rfl, rfl, p.ret R (.bl _)⟩
    | _ => exact False.elim p
  | _ => cases rx <;> exact False.elim p
theorem m_neg : UnM X.K B E opNeg (rU fun i => .int (-i)) := fun env S g σ H x v Q R rx p => by
  cases rx with
  | int i => exact ⟨i, rfl, p.ret R (.int _)⟩
  | _ => exact False.elim p
end

/-! ### items -/
def ofOpt : Option W → M W
  | some w => M.ret w
  | none => fun _ => .bad
def opIx : W → W → M W
  | .tup xs, .int i => ofOpt (atI xs i)
  | .lst xs, .int i => ofOpt (atI xs i)
  | .obj k, .int i => fun S => match S[k]? with
    | some (.lst xs) => ofOpt (atI xs i) S
    | _ => .bad
  | _, _ => fun _ => .bad
section
variable {X : Cx} {B : Bs} {E : XS}
theorem Reps.atI {K : PySem.W.Frag} {g : Gh} {H : Hp} {ws : List W} {vs : List V} {i : Int} {w : W} (r : Reps K g H ws vs) (h : L2.atI ws i = some w) : ∃ v, L2.atI vs i = some v ∧ Rep K g H w v := by
  unfold L2.atI at h ⊢
  rw [← r.length]
  cases e : ixN ws.length i with
  | none => rw [e] at h; cases h
  | some j =>
    rw [e] at h
    exact r.get h
theorem ofOpt_ok {K : PySem.W.Frag} {env : En} {σ : L2.St} {g : Gh} {H : Hp} {o : Option W} {S : Sto} {Q : VK} (p : Pst (Rep K) K B E env σ g H (ofOpt o S) Q) : ∃ w, o = some w ∧ Pst (Rep K) K B E env σ g H (.ok w S) Q := by
  cases o with
  | none => exact False.elim p
  | some w => exact ⟨w, rfl, p⟩
theorem m_ix : OpM X.K B E opIx (rIx X.K) := fun env S g σ H x y v u Q R rx ry p => by
  cases rx with
  | @tup a vs xs s1 r1 =>
    cases ry with
    | int i =>
      obtain ⟨w, e, p⟩ := ofOpt_ok (o := atI xs i) p
      obtain ⟨z, e2, rz⟩ := r1.atI e
      exact .inr (.inl ⟨a, vs, i, z, rfl, rfl, s1, e2, p.ret R rz⟩)
    | _ => exact False.elim p
  | @lst a vs xs s1 r1 =>
    cases ry with
    | int i =>
      obtain ⟨w, e, p⟩ := ofOpt_ok (o := atI xs i) p
      obtain ⟨z, e2, rz⟩ := r1.atI e
      exact .inl ⟨a, vs, i, z, rfl, rfl, SqL.of s1.2, e2, p.ret R rz⟩
    | _ => exact False.elim p
  | @obj a k hk =>
    cases ry with
    | int i =>
      unfold opIx at p
      cases q : S[k]? with
      | none => simp only [q] at p; exact False.elim p
      | some o =>
        cases o with
        | ins fs => simp only [q] at p; exact False.elim p
        | lst xs =>
          simp only [q] at p
          obtain ⟨vs, h1, r1⟩ := R.sto.at_ k a _ hk q
          obtain ⟨w, e, p⟩ := ofOpt_ok (o := atI xs i) p
          obtain ⟨z, e2, rz⟩ := r1.atI e
          exact .inl ⟨a, vs, i, z, rfl, rfl, SqL.of h1, e2, p.ret R rz⟩
    | _ => exact False.elim p
  | _ => exact False.elim p
end

/-! ### calls of built-ins -/
def cAbs : List W → M W
  | [.int i] => M.ret (.int (if i < 0 then -i else i))
  | _ => fun _ => .bad
def cMax2 : List W → M W
  | [.int i, .int j] => M.ret (.int (if j > i then j else i))
  | _ => fun _ => .bad
def cLen : List W → M W
  | [.tup xs] => M.ret (.int xs.length)
  | [.lst xs] => M.ret (.int xs.length)
  | [.str x] => fun S => if x.length ≤ 1000 then .ok (.int x.length) S else .bad
  | [.obj k] => fun S => match S[k]? with
    | some (.lst xs) => .ok (.int xs.length) S
    | _ => .bad
  | _ => fun _ => .bad
def toInts : List W → Option (List Int)
  | [] => some []
  | .int i :: r => (toInts r).map (i :: ·)
  | _ => none
def cSum : List W → M W
  | [.lst xs] => fun S => match toInts xs with
    | some ns => .ok (.int ns.sum) S
    | none => .bad
  | _ => fun _ => .bad
def cInt : List W → M W
  | [.int i] => M.ret (.int i)
  | [.str x] => fun S => match PySem.intText? x with
    | some n => if x.length ≤ 100 then .ok (.int n) S else .bad
    | none => .bad
  | _ => fun _ => .bad
def cStr : List W → M W
  | [.int i] => fun S => if sml i then .ok (.str (toString i)) S else .bad
  | _ => fun _ => .bad
def cList : List W → M W
  | [.lst xs] => M.ret (.lst xs)
  | [.scr xs] => M.ret (.lst xs)
  | [.tup xs] => M.ret (.lst xs)
  | _ => fun _ => .bad
section
variable {X : Cx} {B : Bs} {E : XS}
theorem toInts_eq : ∀ {ws : List W} {ns : List Int}, toInts ws = some ns → ws = ns.map W.int
  | [], ns, h => by cases h; rfl
  | w :: r, ns, h => by
    cases w with
    | int i =>
      unfold toInts at h
      cases q : toInts r with
      | none => rw [q] at h; cases h
      | some ms => rw [q] at h; cases h; rw [toInts_eq q]; rfl
    | _ => cases h
theorem toInts_map : ∀ ns : List Int, toInts (ns.map W.int) = some ns
  | [] => rfl
  | n :: r => by
    show (toInts (r.map W.int)).map (n :: ·) = _
    rw [toInts_map r]
    rfl
theorem Reps.ofInts {K : PySem.W.Frag} {g : Gh} {H : Hp} : ∀ {ns : List Int} {vs : List V}, Reps K g H (ns.map W.int) vs → vs = ns.map V.int
  | [], _, .nil => rfl
  | n :: r, _, .cons (.int _) t => by rw [Reps.ofInts t]; rfl
theorem m_abs : CaM X.K B E cAbs (fun xs H Q => ∃ i, xs = [.int i] ∧ Q (.int (if i < 0 then -i else i)) H) := fun env S g σ H xs vs Q R r p => by
  cases r with
  | nil => exact False.elim p
  | cons r1 t =>
    cases t with
    | nil =>
      cases r1 with
      | int i => exact ⟨i, rfl, p.ret R (.int _)⟩
      | _ => exact False.elim p
    | cons _ _ => cases r1 <;> exact False.elim p
theorem m_max2 : CaM X.K B E cMax2 (fun xs H Q => ∃ i j, xs = [.int i, .int j] ∧ Q (.int (if j > i then j else i)) H) := fun env S g σ H xs vs Q R r p => by
  cases r with
  | nil => exact False.elim p
  | cons r1 t =>
    cases t with
    | nil => cases r1 <;> exact False.elim p
    | cons r2 t2 =>
      cases t2 with
      | nil =>
        cases r1 with
        | int i =>
          cases r2 with
          | int j => exact ⟨i, j, rfl, p.ret R (.int _)⟩
          | _ => exact False.elim p
        | _ => cases r2 <;> exact False.elim p
      | cons _ _ => cases r1 <;> cases r2 <;> exact False.elim p
theorem m_len : CaM X.K B E cLen (fun xs H Q => ∃ x n, xs = [x] ∧ LenV X.K x H n ∧ Q (.int n) H) := fun env S g σ H xs vs Q R r p => by
  have hz := line_eq
  cases r with
  | nil => exact False.elim p
  | cons r1 t =>
    cases t with
    | nil =>
      cases r1 with
      | @tup a us ws s1 r1 => exact ⟨_, ws.length, rfl, .inr ⟨us, s1, r1.length⟩, p.ret R (.int _)⟩
      | @lst a us ws s1 r1 => exact ⟨_, ws.length, rfl, .inl ⟨us, SqL.of s1.2, r1.length⟩, p.ret R (.int _)⟩
      | str x =>
        unfold cLen at p
        by_cases h : x.length ≤ 1000
        · simp only [if_pos h] at p
          exact ⟨_, x.length, rfl, ⟨by omega, rfl⟩, p.ret R (.int _)⟩
        · simp only [if_neg h] at p
          exact False.elim p
      | @obj a k hk =>
        unfold cLen at p
        cases q : S[k]? with
        | none => simp only [q] at p; exact False.elim p
        | some o =>
          cases o with
          | ins fs => simp only [q] at p; exact False.elim p
          | lst ws =>
            simp only [q] at p
            obtain ⟨us, h1, r1⟩ := R.sto.at_ k a _ hk q
            exact ⟨_, ws.length, rfl, .inl ⟨us, SqL.of h1, r1.length⟩, p.ret R (.int _)⟩
      | _ => exact False.elim p
    | cons _ _ => cases r1 <;> exact False.elim p
theorem m_sum : CaM X.K B E cSum (rSum X.K) := fun env S g σ H xs vs Q R r p => by
  cases r with
  | nil => exact False.elim p
  | cons r1 t =>
    cases t with
    | nil =>
      cases r1 with
      | @lst a us ws s1 r1 =>
        unfold cSum at p
        cases q : toInts ws with
        | none => simp only [q] at p; exact False.elim p
        | some ns =>
          simp only [q] at p
          have e := toInts_eq q
          subst e
          have e2 := Reps.ofInts r1
          subst e2
          exact ⟨a, ns, rfl, SqL.of s1.2, p.ret R (.int _)⟩
      | _ => exact False.elim p
    | cons _ _ => cases r1 <;> exact False.elim p
def rInt1 : List V → Hp → VK → Prop := fun xs H Q => (∃ i, xs = [.int i] ∧ Q (.int i) H) ∨ ∃ k, xs = [.bl k] ∧ Q (.int (if k then 1 else 0)) H
def rIntS : List V → Hp → VK → Prop := fun xs H Q => ∃ a n, xs = [.str a] ∧ PySem.intText? a = some n ∧ a.length ≤ 640 ∧ Q (.int n) H
theorem h_int : CallR X (.type "int") (fun xs H Q => rInt1 xs H Q ∨ rIntS xs H Q) := CallR.or (r := rInt1) call_int1 call_int_str
theorem m_int : CaM X.K B E cInt (fun xs H Q => rInt1 xs H Q ∨ rIntS xs H Q) := fun env S g σ H xs vs Q R r p => by
  cases r with
  | nil => exact False.elim p
  | cons r1 t =>
    cases t with
    | nil =>
      cases r1 with
      | int i => exact .inl (.inl ⟨i, rfl, p.ret R (.int _)⟩)
      | str x =>
        unfold cInt at p
        cases q : PySem.intText? x with
        | none => simp only [q] at p; exact False.elim p
        | some n =>
          simp only [q] at p
          by_cases h : x.length ≤ 100
          · simp only [if_pos h] at p
            exact .inr ⟨x, n, rfl, q, by omega, p.ret R (.int _)⟩
          · simp only [if_neg h] at p
            exact False.elim p
      | _ => exact False.elim p
    | cons _ _ => cases r1 <;> exact False.elim p
theorem sml_log {i : Int} (h : sml i) : i.natAbs.log2 < 1920 := Nat.lt_of_lt_of_le (PySem.Flt.log2_lt_of (by decide) (sml_abs h)) (by decide)
theorem m_str : CaM X.K B E cStr (fun xs H Q => ∃ i, xs = [.int i] ∧ i.natAbs.log2 < 1920 ∧ Q (.str (toString i)) H) := fun env S g σ H xs vs Q R r p => by
  cases r with
  | nil => exact False.elim p
  | cons r1 t =>
    cases t with
    | nil =>
      cases r1 with
      | int i =>
        unfold cStr at p
        by_cases h : sml i
        · simp only [if_pos h] at p
          exact ⟨i, rfl, sml_log h, p.ret R (.str _)⟩
        · simp only [if_neg h] at p
          exact False.elim p
      | _ => exact False.elim p
    | cons _ _ => cases r1 <;> exact False.elim p
def rListOf (K : PySem.W.Frag) : List V → Hp → VK → Prop := fun xs H Q => ∃ p ys, xs = [.ref p] ∧ (SqL K H p ys ∨ SqT K H p ys) ∧ ∀ l, H l = none → Q (.ref l) (upd H l (.lst ys))
theorem m_list : CaM X.K B E cList (rListOf X.K) := fun env S g σ H xs vs Q R r p => by
  cases r with
  | nil => exact False.elim p
  | cons r1 t =>
    cases t with
    | nil =>
      cases r1 with
      | @tup a us ws s1 r1 => exact ⟨a, us, rfl, .inr s1, fun l hl => p _ _ _ (ext_newF R hl) (R.newF hl) (.lst ⟨.inr rfl, upd_same⟩ (Reps.ext (ext_newF R hl) r1))⟩
      | @lst a us ws s1 r1 => exact ⟨a, us, rfl, .inl (SqL.of s1.2), fun l hl => p _ _ _ (ext_newF R hl) (R.newF hl) (.lst ⟨.inr rfl, upd_same⟩ (Reps.ext (ext_newF R hl) r1))⟩
      | @scr a us ws s1 r1 => exact ⟨a, us, rfl, .inl s1.sql, fun l hl => p _ _ _ (ext_newF R hl) (R.newF hl) (.lst ⟨.inr rfl, upd_same⟩ (Reps.ext (ext_newF R hl) r1))⟩
      | _ => exact False.elim p
    | cons _ _ => cases r1 <;> exact False.elim p
end

/-! ### isinstance of a built-in type -/
def tyN : W → Option String
  | .non => some "NoneType"
  | .bl _ => some "bool"
  | .int _ => some "int"
  | .str _ => some "str"
  | .tup _ => some "tuple"
  | .lst _ => some "list"
  | _ => none
def isI (T : String) (x : W) : M W := fun S => match tyN x with
  | none => .bad
  | some t => match kitB t T with
    | some b => .ok (.bl b) S
    | none => .bad
section
variable {X : Cx} {B : Bs} {E : XS} {e : Expr} {me : EM} {pos p p2 : Pos} {T x : Str}
theorem rep_ty {g : Gh} {H : Hp} {w : W} {v : V} {t : String} (r : Rep X.K g H w v) (h : tyN w = some t) : TyX X.K H v (.type t) := by
  cases r with
  | non => cases h; exact .base .non
  | bl b => cases h; exact .base (.bl b)
  | int i => cases h; exact .base (.int i)
  | str x => cases h; exact .base (.str x)
  | tup s r =>
    cases h
    rcases s with (s | ⟨o, s⟩) | ⟨o, its, n, s, hc, _⟩
    · exact .base (.tup s)
    · exact .fTuple s
    · exact .kTuple s hc
  | lst s r => cases h; exact .base (.lst s.2)
  | obj _ => cases h
  | scr _ _ => cases h
  | exc _ => cases h
theorem zisi {T : String} {y : Str} (he : PE X e (jE X.K B E me)) (hm : X.mg "isinstance" = none) (hmT : X.mg y = none) (hvT : bootBuiltins y = some (.type T)) (hg : Gl X "isinstance" := by rfl) (hgT : Gl X y := by rfl) (hnT : y ≠ "__name__" := by decide) (hdT : (y == ("__debug__" : Str)) = false := by decide)
    (he1 : starEach (e :: [.Name y p2]) X.env = (false, eval e X.env) :: starEach [.Name y p2] X.env := by rfl) (he2 : starEach [.Name y p2] X.env = (false, eval (.Name y p2) X.env) :: starEach [] X.env := by rfl)
    (hpl : (backTo pos (starEach [.Name y p2] X.env)).any (·.1) = false := by rfl) : PE X (.Call (.Name "isinstance" p) [e, .Name y p2] [] pos) (jE X.K B E (eUn (isI T) me)) := by
  refine PE.imp (pe_callB call_isi hg hm (by decide +kernel) (pa_cons he (pa_cons (pe_bltn (v := .ty T) hgT hmT hvT rfl hnT hdT) pa_nil he2) he1) (by decide) (by decide) he1 hpl) fun σ H Q ⟨env, S, g, R, p⟩ => ?_
  refine J.bind R p fun w v S1 g1 H1 e1 R1 r1 p1 => ?_
  unfold isI at p1
  cases q : tyN w with
  | none => simp only [q] at p1; exact False.elim p1
  | some t =>
    simp only [q] at p1
    cases q2 : kitB t T with
    | none => simp only [q2] at p1; exact False.elim p1
    | some b =>
      simp only [q2] at p1
      exact ⟨v, .ty T, .type t, .type T, b, rfl, .ty T, rep_ty r1 q, kit_ty q2, p1.ret R1 (.bl b)⟩
end
end Zz
end
section
namespace Zz
open PySem PySem.Spec PyProof.Rows L2

def PstS (K : PySem.W.Frag) (B : Bs) (E : XS) (g : Gh) (H : Hp) (r : SR) (D : Ends) : Prop :=
  match r with
  | .nx e S' => ∀ σ' g' H', Ext g H g' H' → Rel K B e S' g' σ' H' → D.nx σ' H'
  | .rt w S' => ∀ v e σ' g' H', Ext g H g' H' → Rel K B e S' g' σ' H' → Rep K g' H' w v → D.rt v H'
  | .bk e S' => ∀ σ' g' H', Ext g H g' H' → Rel K B e S' g' σ' H' → D.bk σ' H'
  | .ct e S' => ∀ σ' g' H', Ext g H g' H' → Rel K B e S' g' σ' H' → D.ct σ' H'
  | .exn c e S' => ∀ σ' g' H', Ext g H g' H' → Rel K B e S' g' σ' H' → E σ' (B.cv c) none H'
  | .bad => False
def jS (K : PySem.W.Frag) (B : Bs) (E : XS) (m : SM) : TS := fun D σ H => ∃ env S g, Rel K B env S g σ H ∧ PstS K B E g H (m env S) D

section
variable {K : PySem.W.Frag} {B : Bs} {E : XS} {env : En} {σ : L2.St} {g g1 : Gh} {H H1 : Hp} {S : Sto}
theorem PstS.later {r : SR} {D : Ends} (e : Ext g H g1 H1) (p : PstS K B E g H r D) : PstS K B E g1 H1 r D := by
  cases r with
  | nx a S' => exact fun σ' g' H' e' => p σ' g' H' (e.trans e')
  | rt w S' => exact fun v a σ' g' H' e' => p v a σ' g' H' (e.trans e')
  | bk a S' => exact fun σ' g' H' e' => p σ' g' H' (e.trans e')
  | ct a S' => exact fun σ' g' H' e' => p σ' g' H' (e.trans e')
  | exn c a S' => exact fun σ' g' H' e' => p σ' g' H' (e.trans e')
  | bad => exact p
end

/-! ### statements -/
/-- an expression, then a statement -/
def sBind {α : Type} (m : En → M α) (k : α → SM) : SM := fun env S => match m env S with
  | .ok a S' => k a env S'
  | .exn c S' => .exn c env S'
  | .bad => .bad
def sSeq (a b : SM) : SM := fun env S => match a env S with
  | .nx e S' => b e S'
  | r => r
def sPass : SM := fun env S => .nx env S
def sRet (a : EM) : SM := sBind a fun w _ S => .rt w S
def sRetN : SM := fun _ S => .rt .non S
def sDrop (a : EM) : SM := sBind a fun _ env S => .nx env S
def sSet (i : Nat) (a : EM) : SM := sBind a fun w env S => .nx (env.set i (.val w)) S
def sIf (t : En → M Bool) (a b : SM) : SM := sBind t fun c env S => if c = true then a env S else b env S
def sBad : SM := fun _ _ => .bad
def sBreak : SM := fun env S => .bk env S
def sCont : SM := fun env S => .ct env S

section
variable {K : PySem.W.Frag} {B : Bs} {E : XS} {env : En} {σ : L2.St} {g g1 : Gh} {H H1 : Hp} {S : Sto}
theorem J.sbind {α β : Type} {Rp : Gh → Hp → α → β → Prop} {m : En → M α} {k : α → SM} {D : Ends} (R : Rel K B env S g σ H) (p : PstS K B E g H (sBind m k env S) D)
    {T : β → Hp → Prop} (h : ∀ a v S1 g1 H1, Ext g H g1 H1 → Rel K B env S1 g1 σ H1 → Rp g1 H1 a v → PstS K B E g1 H1 (k a env S1) D → T v H1) : J Rp K B E m σ H T := by
  refine ⟨env, S, g, R, ?_⟩
  unfold sBind at p
  cases q : m env S with
  | ok a S1 =>
    rw [q] at p
    exact fun v g1 H1 e1 R1 r1 => h a v S1 g1 H1 e1 R1 r1 (p.later e1)
  | exn c S1 =>
    rw [q] at p
    exact fun g' H' e' R' => p σ g' H' e' R'
  | bad =>
    rw [q] at p
    exact p
end

section
variable {X : Cx} {B : Bs} {E : XS} {e c : Expr} {me : EM} {tc : En → M Bool} {st : Stmt} {rest a b : List Stmt} {ma mb : SM} {pos : Pos}
theorem snil : PSs X [] (jS X.K B E sPass) := PSs.imp pss_nil fun D σ H ⟨env, S, g, R, p⟩ => p σ g H (Ext.refl g H) R
theorem scons (h1 : PS X st (jS X.K B E ma)) (h2 : PSs X rest (jS X.K B E mb)) : PSs X (st :: rest) (jS X.K B E (sSeq ma mb)) :=
  PSs.imp (pss_cons h1 h2) fun D σ H ⟨env, S, g, R, p⟩ => by
    refine ⟨env, S, g, R, ?_⟩
    unfold sSeq at p
    cases q : ma env S with
    | nx e' S' =>
      rw [q] at p
      exact fun σ' g' H' e1 R1 => ⟨e', S', g', R1, p.later e1⟩
    | rt w S' => rw [q] at p; exact p
    | bk e' S' => rw [q] at p; exact p
    | ct e' S' => rw [q] at p; exact p
    | exn c e' S' => rw [q] at p; exact p
    | bad => rw [q] at p; exact p
theorem sone (h1 : PS X st (jS X.K B E ma)) : PSs X [st] (jS X.K B E ma) := pss_one h1
theorem spass : PS X (.Pass pos) (jS X.K B E sPass) := PS.imp ps_pass fun D σ H ⟨env, S, g, R, p⟩ => p σ g H (Ext.refl g H) R
theorem sbreak : PS X (.Break pos) (jS X.K B E sBreak) := PS.imp ps_break fun D σ H ⟨env, S, g, R, p⟩ => p σ g H (Ext.refl g H) R
theorem scont : PS X (.Continue pos) (jS X.K B E sCont) := PS.imp ps_continue fun D σ H ⟨env, S, g, R, p⟩ => p σ g H (Ext.refl g H) R
/-- a statement that is never reached -/
theorem snever : PS X st (jS X.K B E sBad) := PS.imp ps_never fun D σ H ⟨env, S, g, R, p⟩ => p
theorem sret (h : PE X e (jE X.K B E me)) : PS X (.Return (some e) pos) (jS X.K B E (sRet me)) :=
  PS.imp (ps_ret h) fun D σ H ⟨env, S, g, R, p⟩ => J.sbind R p fun w v S1 g1 H1 e1 R1 r1 p1 => p1 v env σ g1 H1 (Ext.refl g1 H1) R1 r1
theorem sretN : PS X (.Return none pos) (jS X.K B E sRetN) :=
  PS.imp ps_retN fun D σ H ⟨env, S, g, R, p⟩ => p .non env σ g H (Ext.refl g H) R .non
theorem sexpr (h : PE X e (jE X.K B E me)) (hs : swapsWith e none pos.line X.env = pure false := by rfl) : PS X (.Expr e pos) (jS X.K B E (sDrop me)) :=
  PS.imp (ps_expr h hs) fun D σ H ⟨env, S, g, R, p⟩ => J.sbind R p fun w v S1 g1 H1 e1 R1 r1 p1 => p1 σ g1 H1 (Ext.refl g1 H1) R1
theorem sset (i : Nat) {x : Str} {pos' : Pos} (hN : X.N.Nodup) (he : PE X e (jE X.K B E me)) (hi : X.N[i]? = some x := by rfl) (hx : Loc X.env.scope x := by first | exact .inl rfl | exact .inr rfl)
    (hs : swapsWith e (some (.Name x pos')) pos.line X.env = pure false := by rfl) (hf : X.fn x = true ∨ X.env.scope.names.lookup x = some .local := by first | exact .inl rfl | exact .inr rfl) :
    PS X (.Assign [.Name x pos'] e pos) (jS X.K B E (sSet i me)) :=
  PS.imp (ps_set hN hi hx he hs hf) fun D σ H ⟨env, S, g, R, p⟩ => J.sbind R p fun w v S1 g1 H1 e1 R1 r1 p1 => p1 _ g1 H1 (Ext.refl g1 H1) (R1.set r1)
theorem sif (hc : PT X c (jT X.K B E tc)) (ha : PSs X a (jS X.K B E ma)) (hb : PSs X b (jS X.K B E mb)) : PS X (.If c a b pos) (jS X.K B E (sIf tc ma mb)) :=
  PS.imp (ps_if hc ha hb) fun D σ H ⟨env, S, g, R, p⟩ => J.sbind R p fun w v S1 g1 H1 e1 R1 r1 p1 => by
    cases r1
    cases w with
    | true => exact ⟨env, S1, g1, R1, p1⟩
    | false => exact ⟨env, S1, g1, R1, p1⟩
end

/-! ### a name op= -/
def sAug (i : Nat) (f : W → W → M W) (a : EM) : SM := sBind (eVar i) fun x => sBind a fun y => sBind (fun _ => f x y) fun z env S => .nx (env.set i (.val z)) S
section
variable {X : Cx} {B : Bs} {E : XS} {e : Expr} {me : EM} {pos : Pos}
theorem saug (i : Nat) {x : Str} {op : Operator} {f : W → W → M W} {r : R2} {pos' : Pos} (hN : X.N.Nodup) (ho : OpR X (inplaceOp op) r) (hf : OpM X.K B E f r) (he : PE X e (jE X.K B E me)) (hi : X.N[i]? = some x := by rfl) (hx : Loc X.env.scope x := by first | exact .inl rfl | exact .inr rfl)
    (hfn : X.fn x = true ∨ X.env.scope.names.lookup x = some .local := by first | exact .inl rfl | exact .inr rfl) : PS X (.AugAssign (.Name x pos') op e pos) (jS X.K B E (sAug i f me)) :=
  PS.imp (ps_aug hN hi hx he ho hfn) fun D σ H ⟨env, S, g, R, p⟩ => by
    unfold sAug sBind at p
    cases q : eVar i env S with
    | bad => simp only [q] at p; exact False.elim p
    | exn c S' => unfold eVar at q; split at q <;> cases q
    | ok w S' =>
      simp only [q] at p
      have hS : S' = S ∧ env[i]? = some (.val w) := by
        unfold eVar at q
        cases q3 : env[i]? with
        | none => simp only [q3] at q; cases q
        | some s =>
          simp only [q3] at q
          cases s with
          | val u => simp only at q; cases q; exact ⟨rfl, rfl⟩
          | no => cases q
          | own _ => cases q
      obtain ⟨rfl, q2⟩ := hS
      obtain ⟨v, h1, h2⟩ := R.sl.val i w q2
      refine ⟨v, h1, ?_⟩
      refine J.sbind (k := fun y => sBind (fun _ => f w y) fun z env S => .nx (env.set i (.val z)) S) R p fun y u S1 g1 H1 e1 R1 r1 p1 => ?_
      refine hf env S1 g1 σ H1 w y v u _ R1 (h2.ext e1) r1 ?_
      unfold sBind at p1
      cases q5 : f w y S1 with
      | bad => simp only [q5] at p1; exact p1
      | exn c S' => simp only [q5] at p1; exact fun g' H' e' R' => p1 σ g' H' e' R'
      | ok z S2 =>
        simp only [q5] at p1
        exact fun v' g' H' e' R' rz => p1 _ g' H' e' (R'.set rz)
end

/-! ### targets -/
abbrev Bd := W → En → Option En
def TgOk (K : PySem.W.Frag) (g : TG) (bd : Bd) (vs : List Nat) : Prop :=
  ∀ (B : Bs) (env env1 : En) (S : Sto) (gh : Gh) (σ : L2.St) (H : Hp) (w : W) (v : V) (Q : L2.St → Hp → Prop), Rel K B env S gh σ H → Rep K gh H w v → bd w env = some env1 →
    (∀ σ1, Rel K B env1 S gh σ1 H → wipe σ1 vs = wipe σ vs → (∀ j : Nat, j ∉ vs → env1[j]? = env[j]? ∧ σ1[j]? = σ[j]?) → Q σ1 H) → g v σ H Q
def bdN (i : Nat) : Bd := fun w env => some (env.set i (.val w))
def bdT (is : List Nat) : Bd := fun w env => match w with
  | .tup ws => if ws.length = is.length then some ((is.zip ws).foldl (fun e p => e.set p.1 (.val p.2)) env) else none
  | _ => none
theorem tg_name (K : PySem.W.Frag) (i : Nat) : TgOk K (gName i) (bdN i) [i] := fun B env env1 S gh σ H w v Q R r h k => by
  cases h
  refine k _ (R.set r) ?_ fun j hj => ?_
  · show (σ.set i (some v)).set i none = σ.set i none
    rw [List.set_set]
  · have hji : i ≠ j := fun z => hj (by rw [z]; exact List.mem_singleton.mpr rfl)
    exact ⟨List.getElem?_set_ne hji, List.getElem?_set_ne hji⟩
theorem wipe_get {σ : L2.St} : ∀ {vs : List Nat} {j : Nat}, j ∉ vs → (wipe σ vs)[j]? = σ[j]?
  | [], _, _ => rfl
  | v :: vs, j, h => by
    unfold wipe
    rw [List.getElem?_set_ne (fun z => h (by rw [z]; exact List.mem_cons_self)), wipe_get fun z => h (List.mem_cons_of_mem _ z)]
theorem wipe_in {σ : L2.St} : ∀ {vs : List Nat} {j : Nat}, j ∈ vs → (wipe σ vs)[j]? = if j < σ.length then some none else none
  | [], _, h => by cases h
  | v :: vs, j, h => by
    unfold wipe
    by_cases e : v = j
    · subst e
      by_cases hl : v < σ.length
      · rw [if_pos hl, List.getElem?_set_self (by rw [wipe_length]; exact hl)]
      · rw [if_neg hl]
        exact List.getElem?_eq_none (by rw [List.length_set, wipe_length]; omega)
    · rw [List.getElem?_set_ne e]
      rcases List.mem_cons.mp h with z | z
      · exact absurd z.symm e
      · exact wipe_in z
/-- two states that differ at vs alone are one when these are forgotten -/
theorem wipe_eq {σ σ' : L2.St} {vs : List Nat} (hl : σ.length = σ'.length) (h : ∀ j : Nat, j ∉ vs → σ[j]? = σ'[j]?) : wipe σ vs = wipe σ' vs := by
  apply List.ext_getElem?
  intro j
  by_cases hj : j ∈ vs
  · rw [wipe_in hj, wipe_in hj, hl]
  · rw [wipe_get hj, wipe_get hj, h j hj]
def gEach : List Nat → TGs
  | [] => gNil
  | i :: r => gCons (gName i) (gEach r)
theorem gEach_ok (K : PySem.W.Frag) (B : Bs) (S : Sto) (gh : Gh) (H : Hp) (Q : L2.St → Hp → Prop) : ∀ (is : List Nat) (ws : List W) (vs : List V) (env : En) (σ : L2.St), Rel K B env S gh σ H → Reps K gh H ws vs → ws.length = is.length →
    (∀ σ1, Rel K B ((is.zip ws).foldl (fun e p => e.set p.1 (.val p.2)) env) S gh σ1 H → σ1.length = σ.length → (∀ j : Nat, j ∉ is → ((is.zip ws).foldl (fun e p => e.set p.1 (Sl.val p.2)) env)[j]? = env[j]? ∧ σ1[j]? = σ[j]?) → Q σ1 H) → gEach is vs σ H Q
  | [], ws, vs, env, σ, R, r, hl, k => by
    cases r with
    | nil => exact ⟨rfl, k σ R rfl fun j _ => ⟨rfl, rfl⟩⟩
    | cons _ _ => cases hl
  | i :: is, ws, vs, env, σ, R, r, hl, k => by
    cases r with
    | nil => cases hl
    | @cons w v ws vs r1 r2 =>
      refine ⟨v, vs, rfl, ?_⟩
      refine gEach_ok K B S gh H Q is ws vs _ _ (R.set (i := i) r1) r2 (by simpa using hl) fun σ1 R1 l1 h1 => k σ1 R1 (by rw [l1, List.length_set]) fun j hj => ?_
      have hj2 : j ∉ is := fun z => hj (List.mem_cons_of_mem _ z)
      have hji : i ≠ j := fun z => hj (by rw [z]; exact List.mem_cons_self)
      obtain ⟨a1, a2⟩ := h1 j hj2
      refine ⟨?_, a2.trans (List.getElem?_set_ne hji)⟩
      show ((is.zip ws).foldl (fun e p => e.set p.1 (Sl.val p.2)) (env.set i (.val w)))[j]? = _
      rw [a1, List.getElem?_set_ne hji]
theorem tg_tup (K : PySem.W.Frag) (is : List Nat) : TgOk K (gTup K is.length (gEach is)) (bdT is) is := fun B env env1 S gh σ H w v Q R r h k => by
  cases r with
  | @tup a vs ws s r =>
    unfold bdT at h
    by_cases hl : ws.length = is.length
    · simp only [if_pos hl] at h
      cases h
      refine ⟨a, vs, rfl, s, by rw [← r.length, hl], ?_⟩
      exact gEach_ok K B S gh H Q is ws vs env σ R r hl fun σ1 R1 l1 h1 => k σ1 R1 (wipe_eq l1 fun j hj => (h1 j hj).2) h1
    · simp only [if_neg hl] at h
      cases h
  | _ => cases h
/-- a, b = e -/
def sUnp (is : List Nat) (a : EM) : SM := sBind a fun w env S => match bdT is w env with
  | some e1 => .nx e1 S
  | none => .bad
section
variable {X : Cx} {B : Bs} {E : XS} {e tg : Expr} {me : EM} {pos : Pos}
theorem sunp {g : TG} {is : List Nat} (he : PE X e (jE X.K B E me)) (hg : PG X tg g) (ho : TgOk X.K g (bdT is) is) (hs : swapsWithSole [tg] e pos.line X.env = pure false := by rfl) (hw : swappedStores [tg] e X.env = pure none := by rfl)
    (h1 : (assignEach [tg] X.env).map (·.2) = [assign tg X.env] := by rfl) : PS X (.Assign [tg] e pos) (jS X.K B E (sUnp is me)) :=
  PS.imp (ps_asg he hg hs hw h1) fun D σ H ⟨env, S, g, R, p⟩ => J.sbind R p fun w v S1 g1 H1 e1 R1 r1 p1 => by
    cases q : bdT is w env with
    | none => simp only [q] at p1; exact False.elim p1
    | some env1 =>
      simp only [q] at p1
      exact ho B env env1 S1 g1 σ H1 w v _ R1 r1 q fun σ1 R2 _ _ => p1 σ1 g1 H1 (Ext.refl g1 H1) R2
/-- the targets of names -/
theorem gnil : PGs X [] (gEach []) := pgs_nil
theorem gcons (i : Nat) {is : List Nat} {x : Str} {p : Pos} {es : List Expr} (hN : X.N.Nodup) (h : PGs X es (gEach is)) (hi : X.N[i]? = some x := by rfl) (hx : Loc X.env.scope x := by first | exact .inl rfl | exact .inr rfl)
    (hf : X.fn x = true ∨ X.env.scope.names.lookup x = some .local := by first | exact .inl rfl | exact .inr rfl) (hs : (assignEach (.Name x p :: es) X.env).map (·.2) = assign (.Name x p) X.env :: (assignEach es X.env).map (·.2) := by rfl) :
    PGs X (.Name x p :: es) (gEach (i :: is)) := pgs_cons (pg_name hN hi hx hf) h hs
end

/-! ### a, b = x, y -/
def sPar (is : List Nat) (a : AM) : SM := sBind a fun ws env S => if ws.length = is.length then .nx ((is.zip ws).foldl (fun e p => e.set p.1 (.val p.2)) env) S else .bad
section
variable {X : Cx} {B : Bs} {E : XS} {am : AM} {pos : Pos}
theorem spar2 (i j : Nat) {x y : Str} {a b : Expr} {px py pt : Pos} {kt k2 pt2} (hN : X.N.Nodup) (ha : PA X [a, b] (jA X.K B E am)) (hi : X.N[i]? = some x := by rfl) (hj : X.N[j]? = some y := by rfl) (hij : i ≠ j := by decide)
    (hx : X.env.scope.names.lookup x = some .local := by rfl) (hy : X.env.scope.names.lookup y = some .local := by rfl) (hc : X.calm = true := by rfl)
    (hw : swappedStores [.Tuple [.Name x px, .Name y py] kt pt] (.Tuple [a, b] k2 pt2) X.env = pure (some [x, y]) := by rfl)
    (hs : swapsWithSole [.Tuple [.Name x px, .Name y py] kt pt] (.Tuple [a, b] k2 pt2) pos.line X.env = pure false := by rfl) :
    PS X (.Assign [.Tuple [.Name x px, .Name y py] kt pt] (.Tuple [a, b] k2 pt2) pos) (jS X.K B E (sPar [i, j] am)) :=
  PS.imp (ps_par hc hN hi hj hij hx hy ha hw hs) fun D σ H ⟨env, S, g, R, p⟩ => J.sbind R p fun ws vs S1 g1 H1 e1 R1 r1 p1 => by
    by_cases hl : ws.length = ([i, j] : List Nat).length
    · rw [if_pos hl] at p1
      cases r1 with
      | nil => cases hl
      | cons ra rb =>
        cases rb with
        | nil => cases hl
        | cons rb rc =>
          cases rc with
          | cons _ _ => cases hl
          | nil => exact ⟨_, _, rfl, p1 _ g1 H1 (Ext.refl g1 H1) ((R1.set ra).set rb)⟩
    · rw [if_neg hl] at p1
      exact False.elim p1
theorem spar3 (i j l : Nat) {x y z : Str} {a b c : Expr} {px py pz pt : Pos} {kt k2 pt2} (hN : X.N.Nodup) (ha : PA X [a, b, c] (jA X.K B E am)) (hi : X.N[i]? = some x := by rfl) (hj : X.N[j]? = some y := by rfl) (hl : X.N[l]? = some z := by rfl) (hij : i ≠ j := by decide) (hil : i ≠ l := by decide) (hjl : j ≠ l := by decide)
    (hx : X.env.scope.names.lookup x = some .local := by rfl) (hy : X.env.scope.names.lookup y = some .local := by rfl) (hz : X.env.scope.names.lookup z = some .local := by rfl) (hc : X.calm = true := by rfl)
    (hw : swappedStores [.Tuple [.Name x px, .Name y py, .Name z pz] kt pt] (.Tuple [a, b, c] k2 pt2) X.env = pure (some [x, y, z]) := by rfl)
    (hs : swapsWithSole [.Tuple [.Name x px, .Name y py, .Name z pz] kt pt] (.Tuple [a, b, c] k2 pt2) pos.line X.env = pure false := by rfl) :
    PS X (.Assign [.Tuple [.Name x px, .Name y py, .Name z pz] kt pt] (.Tuple [a, b, c] k2 pt2) pos) (jS X.K B E (sPar [i, j, l] am)) :=
  PS.imp (ps_par3 hc hN hi hj hl hij hil hjl hx hy hz ha hw hs) fun D σ H ⟨env, S, g, R, p⟩ => J.sbind R p fun ws vs S1 g1 H1 e1 R1 r1 p1 => by
    by_cases hl : ws.length = ([i, j, l] : List Nat).length
    · rw [if_pos hl] at p1
      cases r1 with
      | nil => cases hl
      | cons ra rb =>
        cases rb with
        | nil => cases hl
        | cons rb rc =>
          cases rc with
          | nil => cases hl
          | cons rc rd =>
            cases rd with
            | cons _ _ => cases hl
            | nil => exact ⟨_, _, _, rfl, p1 _ g1 H1 (Ext.refl g1 H1) (((R1.set ra).set rb).set rc)⟩
    · rw [if_neg hl] at p1
      exact False.elim p1
end

/-! ### what is walked -/
def ItOk (K : PySem.W.Frag) (g : Gh) (H : Hp) (ws : List W) (J : It) : Prop :=
  ∀ (i : Nat) (g' : Gh) (H' : Hp), Ext g H g' H' → FOk g' H' → (∀ w, ws[i]? = some w → J.go i H' ∧ ∀ x H2, J.yld i H' x H2 → Same H' H2 ∧ Rep K g' H2 w x) ∧ (ws.length ≤ i → J.stop i H')
abbrev jI (K : PySem.W.Frag) (B : Bs) (E : XS) (m : AM) : TI := J (ItOk K) K B E m
theorem PI.imp {X : Cx} {tg e : Expr} {t t' : TI} (h : PI X tg e t) (i : ∀ σ H Q, t' σ H Q → t σ H Q) : PI X tg e t' := ⟨fun pins s σ H Q I q => h.run pins s σ H Q I (i _ _ _ q)⟩
def iLst (a : EM) : AM := fun env => M.bind (a env) fun w S => match w with
  | .lst ws => .ok ws S
  | _ => .bad
def iTup (a : EM) : AM := fun env => M.bind (a env) fun w S => match w with
  | .tup ws => .ok ws S
  | _ => .bad
def rgW (lo : Int) (n : Nat) : List W := (List.range n).map fun i => W.int (lo + (i : Nat))
def smI (i : Int) : Prop := -(2 ^ 62) ≤ i ∧ i < 2 ^ 62
instance (i : Int) : Decidable (smI i) := by unfold smI; infer_instance
def iRg1 (a : EM) : AM := fun env => M.bind (a env) fun w S => match w with
  | .int j => if smI j then .ok (rgW 0 j.toNat) S else .bad
  | _ => .bad
def iRg2 (a b : EM) : AM := fun env => M.bind (a env) fun x => M.bind (b env) fun y S => match x, y with
  | .int i, .int j => if smI i ∧ smI j then .ok (rgW i (j - i).toNat) S else .bad
  | _, _ => .bad
section
variable {X : Cx} {B : Bs} {E : XS} {e a b tg : Expr} {me ma mb : EM} {pos p0 : Pos}
theorem it_list {K : PySem.W.Frag} {g : Gh} {H : Hp} {ws : List W} {vs : List V} {a : Addr} (h : LsF g H a vs) (r : Reps K g H ws vs) : ItOk K g H ws (Itl K a) := fun i g' H' e _ => by
  have h' := e.lsf h
  have r' := Reps.ext e r
  refine ⟨fun w hw => ?_, fun hl => ⟨vs, SqL.of h'.2, by rw [← r.length]; exact hl⟩⟩
  obtain ⟨v, h1, h2⟩ := r'.get hw
  refine ⟨⟨vs, v, SqL.of h'.2, h1⟩, fun x H2 y => ?_⟩
  obtain ⟨rfl, y⟩ := y
  have e2 := y vs (SqL.of h'.2)
  rw [h1] at e2; cases e2
  exact ⟨Same.refl _, h2⟩
theorem it_tup {K : PySem.W.Frag} {g : Gh} {H : Hp} {ws : List W} {vs : List V} {a : Addr} (h : SqT K H a vs) (r : Reps K g H ws vs) : ItOk K g H ws (Itt K a) := fun i g' H' e _ => by
  have h' := e.sqt h
  have r' := Reps.ext e r
  refine ⟨fun w hw => ?_, fun hl => ⟨vs, h', by rw [← r.length]; exact hl⟩⟩
  obtain ⟨v, h1, h2⟩ := r'.get hw
  refine ⟨⟨vs, v, h', h1⟩, fun x H2 y => ?_⟩
  obtain ⟨rfl, y⟩ := y
  have e2 := y vs h'
  rw [h1] at e2; cases e2
  exact ⟨Same.refl _, h2⟩
theorem rgW_get {lo : Int} {n i : Nat} {w : W} (h : (rgW lo n)[i]? = some w) : i < n ∧ w = .int (lo + (i : Nat)) := by
  unfold rgW at h
  rw [List.getElem?_map] at h
  by_cases hi : i < n
  · rw [List.getElem?_range hi] at h
    cases h
    exact ⟨hi, rfl⟩
  · rw [List.getElem?_eq_none (by simpa using hi)] at h
    cases h
theorem it_range {K : PySem.W.Frag} {g : Gh} {H : Hp} {lo : Int} {n : Nat} : ItOk K g H (rgW lo n) (Itr lo n) := fun i g' H' e _ => by
  refine ⟨fun w hw => ?_, fun hl => (by
    have h2 : n ≤ i := by simpa [rgW] using hl
    exact h2)⟩
  obtain ⟨hi, rfl⟩ := rgW_get hw
  refine ⟨hi, fun x H2 y => ?_⟩
  obtain ⟨rfl, rfl⟩ := y
  exact ⟨Same.refl _, .int _⟩
theorem zilst (h : PE X e (jE X.K B E me)) : PI X tg e (jI X.K B E (iLst me)) :=
  PI.imp (pi_list h) fun σ H Q ⟨env, S, g, R, p⟩ => J.bind R p fun w v S1 g1 H1 e1 R1 r1 p1 => by
    cases r1 with
    | @lst a vs ws s r => exact ⟨a, rfl, ⟨vs, SqL.of s.2⟩, p1 _ g1 H1 (Ext.refl g1 H1) R1 (it_list s r)⟩
    | _ => exact False.elim p1
theorem zitup (h : PE X e (jE X.K B E me)) : PI X tg e (jI X.K B E (iTup me)) :=
  PI.imp (pi_tup h) fun σ H Q ⟨env, S, g, R, p⟩ => J.bind R p fun w v S1 g1 H1 e1 R1 r1 p1 => by
    cases r1 with
    | @tup a vs ws s r => exact ⟨a, rfl, ⟨vs, s⟩, p1 _ g1 H1 (Ext.refl g1 H1) R1 (it_tup s r)⟩
    | _ => exact False.elim p1
theorem zirg1 (hm : X.mg "range" = none) (ha : PE X a (jE X.K B E ma)) (hg : Gl X "range" := by rfl) (hs : starEach [a] X.env = [(false, eval a X.env)] := by rfl) (hs0 : starEach [a] X.env = (false, eval a X.env) :: starEach [] X.env := by rfl) : PI X tg (.Call (.Name "range" p0) [a] [] pos) (jI X.K B E (iRg1 ma)) :=
  PI.imp (pi_range1 hg hm (pa_cons ha pa_nil hs0) hs) fun σ H Q ⟨env, S, g, R, p⟩ => J.bind R p fun w v S1 g1 H1 e1 R1 r1 p1 => by
    cases r1 with
    | int j =>
      by_cases h : smI j
      · simp only [if_pos h] at p1
        exact ⟨j, rfl, h.1, h.2, p1 _ g1 H1 (Ext.refl g1 H1) R1 it_range⟩
      · simp only [if_neg h] at p1
        exact False.elim p1
    | _ => exact False.elim p1
theorem zirg2 (hm : X.mg "range" = none) (ha : PE X a (jE X.K B E ma)) (hb : PE X b (jE X.K B E mb)) (hg : Gl X "range" := by rfl) (hs : starEach [a, b] X.env = [(false, eval a X.env), (false, eval b X.env)] := by rfl) (hs2 : starEach [b] X.env = [(false, eval b X.env)] := by rfl)
    (hs0 : starEach [a, b] X.env = (false, eval a X.env) :: starEach [b] X.env := by rfl) (hs1 : starEach [b] X.env = (false, eval b X.env) :: starEach [] X.env := by rfl) : PI X tg (.Call (.Name "range" p0) [a, b] [] pos) (jI X.K B E (iRg2 ma mb)) :=
  PI.imp (pi_range2 hg hm (pa_cons ha (pa_cons hb pa_nil hs1) hs0) hs hs2) fun σ H Q ⟨env, S, g, R, p⟩ => J.bind R p fun w v S1 g1 H1 e1 R1 r1 p1 => J.bind R1 p1 fun w2 v2 S2 g2 H2 e2 R2 r2 p2 => by
    cases r1 with
    | int i =>
      cases r2 with
      | int j =>
        by_cases h : smI i ∧ smI j
        · simp only [if_pos h] at p2
          exact ⟨i, j, rfl, ⟨h.1.1, h.1.2, h.2.1, h.2.2⟩, p2 _ g2 H2 (Ext.refl g2 H2) R2 it_range⟩
        · simp only [if_neg h] at p2
          exact False.elim p2
      | _ => exact False.elim p2
    | _ => cases r2 <;> exact False.elim p2
end

/-! ### for -/
def loopL (bd : Bd) (body : SM) : List W → SM
  | [] => fun env S => .nx env S
  | w :: r => fun env S => match bd w env with
    | none => .bad
    | some env1 => match body env1 S with
      | .nx e S' => loopL bd body r e S'
      | .ct e S' => loopL bd body r e S'
      | .bk e S' => .nx e S'
      | .rt w S' => .rt w S'
      | .exn c e S' => .exn c e S'
      | .bad => .bad
def sFor (src : AM) (bd : Bd) (body : SM) : SM := sBind src fun ws => loopL bd body ws
section
variable {X : Cx} {B : Bs} {E : XS} {iter tg : Expr} {src : AM} {body : List Stmt} {mb : SM} {bd : Bd} {pos : Pos}
theorem sfor {g : TG} {vs : List Nat} (hi : PI X tg iter (jI X.K B E src)) (hg : PG X tg g) (ho : TgOk X.K g bd vs) (hb : PSs X body (jS X.K B E mb)) (hp : PassesOwn (model X.prog X.w) X.A X.env X.xe) (hc : X.calm = true := by rfl)
    (hs : ∀ x, foldedSetIterable iter X.env x = pure x := by intro _; rfl) : PS X (.For tg iter body [] pos) (jS X.K B E (sFor src bd mb)) :=
  PS.imp (ps_for hp hc hi hg hb hs) fun D σ H ⟨env, S, g0, R, p⟩ => J.sbind R p fun ws J S1 g1 H1 e1 R1 it p1 => by
    refine ⟨fun i m σ' H' => m = ws.length - i ∧ i ≤ ws.length ∧ ∃ env' S' g', Ext g1 H1 g' H' ∧ Rel X.K B env' S' g' σ' H' ∧ PstS X.K B E g' H' (loopL bd mb (ws.drop i) env' S') D, ⟨ws.length, by simp, Nat.zero_le _, env, S1, g1, Ext.refl g1 H1, R1, p1⟩, ?_⟩
    rintro i m σ' H' ⟨rfl, hil, env', S', g', e', R', p'⟩
    obtain ⟨it1, it2⟩ := it i g' H' e' R'.fok
    by_cases hlt : i < ws.length
    · obtain ⟨go, yl⟩ := it1 ws[i] (List.getElem?_eq_getElem hlt)
      rw [List.drop_eq_getElem_cons hlt] at p'
      refine .inr ⟨go, fun σ2 H2 => ∃ env2 S2 g2, Ext g1 H1 g2 H2 ∧ Rel X.K B env2 S2 g2 σ2 H2 ∧ PstS X.K B E g2 H2 (loopL bd mb (ws.drop (i + 1)) env2 S2) D, fun σ2 H2 h => ⟨ws.length - (i + 1), by omega, rfl, hlt, h⟩, fun x H2 y => ?_⟩
      obtain ⟨sm, rx⟩ := yl x H2 y
      have eS := Ext.of_same R'.fok sm
      have R2 := R'.same sm
      have p2 := PstS.later eS p'
      unfold loopL at p2
      cases q : bd ws[i] env' with
      | none => simp only [q] at p2; exact False.elim p2
      | some env1 =>
        simp only [q] at p2
        refine ho B env' env1 S' g' σ' H2 ws[i] x _ R2 rx q fun σ1 R3 _ _ => ⟨env1, S', g', R3, ?_⟩
        cases q2 : mb env1 S' with
        | nx e S2 => simp only [q2] at p2; exact fun σ4 g4 H4 e4 R4 => ⟨e, S2, g4, (e'.trans eS).trans e4, R4, p2.later e4⟩
        | ct e S2 => simp only [q2] at p2; exact fun σ4 g4 H4 e4 R4 => ⟨e, S2, g4, (e'.trans eS).trans e4, R4, p2.later e4⟩
        | bk e S2 => simp only [q2] at p2; exact p2
        | rt w S2 => simp only [q2] at p2; exact p2
        | exn c e S2 => simp only [q2] at p2; exact p2
        | bad => simp only [q2] at p2; exact p2
    · have hd : ws.drop i = [] := List.drop_eq_nil_of_le (by omega)
      rw [hd] at p'
      exact .inl ⟨it2 (by omega), p' σ' g' H' (Ext.refl g' H') R'⟩
end

/-! ### while -/
def fuelN : Nat := 2 ^ 200
def loopW (c : En → M Bool) (b : SM) : Nat → SM
  | 0 => fun _ _ => .bad
  | n + 1 => fun env S => match c env S with
    | .ok true S1 => match b env S1 with
      | .nx e S' => loopW c b n e S'
      | .ct e S' => loopW c b n e S'
      | .bk e S' => .nx e S'
      | .rt w S' => .rt w S'
      | .exn c e S' => .exn c e S'
      | .bad => .bad
    | .ok false S1 => .nx env S1
    | .exn c S1 => .exn c env S1
    | .bad => .bad
section
variable {X : Cx} {B : Bs} {E : XS} {c : Expr} {tc : En → M Bool} {body : List Stmt} {mb : SM} {pos : Pos}
theorem swhile (n : Nat) (hc : PT X c (jT X.K B E tc)) (hb : PSs X body (jS X.K B E mb)) (hp : PassesOwn (model X.prog X.w) X.A X.env X.xe) : PS X (.While c body [] pos) (jS X.K B E (loopW tc mb n)) :=
  PS.imp (ps_while hp hc hb) fun D σ H ⟨env, S, g0, R, p⟩ => by
    refine ⟨fun m σ' H' => ∃ env' S' g', Rel X.K B env' S' g' σ' H' ∧ PstS X.K B E g' H' (loopW tc mb m env' S') D, ⟨n, env, S, g0, R, p⟩, ?_⟩
    rintro m σ' H' ⟨env', S', g', R', p'⟩
    cases m with
    | zero => exact False.elim p'
    | succ m =>
      unfold loopW at p'
      refine ⟨env', S', g', R', ?_⟩
      cases q : tc env' S' with
      | bad => simp only [q] at p'; exact p'
      | exn c S1 => simp only [q] at p'; exact fun g1 H1 e1 R1 => p' σ' g1 H1 e1 R1
      | ok t S1 =>
        cases t with
        | false =>
          simp only [q] at p'
          exact fun v g1 H1 e1 R1 r1 => by
            cases r1
            exact p' σ' g1 H1 e1 R1
        | true =>
          simp only [q] at p'
          exact fun v g1 H1 e1 R1 r1 => by
            cases r1
            refine ⟨fun σ2 H2 => ∃ env2 S2 g2, Rel X.K B env2 S2 g2 σ2 H2 ∧ PstS X.K B E g2 H2 (loopW tc mb m env2 S2) D, fun σ2 H2 h => ⟨m, Nat.lt_succ_self m, h⟩, env', S1, g1, R1, ?_⟩
            have p2 := p'.later e1
            cases q2 : mb env' S1 with
            | nx e S2 => simp only [q2] at p2; exact fun σ4 g4 H4 e4 R4 => ⟨e, S2, g4, R4, p2.later e4⟩
            | ct e S2 => simp only [q2] at p2; exact fun σ4 g4 H4 e4 R4 => ⟨e, S2, g4, R4, p2.later e4⟩
            | bk e S2 => simp only [q2] at p2; exact p2
            | rt w S2 => simp only [q2] at p2; exact p2
            | exn c e S2 => simp only [q2] at p2; exact p2
            | bad => simp only [q2] at p2; exact p2
end
end Zz
end
section
namespace Zz
open PySem PySem.Spec PyProof.Rows L2

/-! ### a def -/
def bodyM (N n : Nat) (m : SM) : List W → M W := fun ws S => match m (ws.map .val ++ List.replicate (N - n) .no) S with
  | .nx _ S' => .ok .non S'
  | .rt w S' => .ok w S'
  | .exn c _ S' => .exn c S'
  | _ => .bad
section
variable {P : Program} {w : World} {K : PySem.W.Frag} {mg : Str → Option Value} {base : Heap} {C : Addr} {cv : Nat → Value}
theorem rel_start {g : Gh} {H : Hp} {ws : List W} {vs : List V} {S : Sto} {B : Bs} (hB : B = ⟨H, g, C, cv⟩) {N : List Str} (r : Reps K g H ws vs) (s : StoOk K C g H S) (f : FOk g H) : Rel K B (ws.map .val ++ List.replicate (N.length - ws.length) .no) S g (L2.start N vs) H := by
  subst hB
  refine ⟨Aft.refl g H, s, f, ?_, fun i u h => ?_, fun i us h => ?_, fun i j us zs a hij h => ?_⟩
  · unfold L2.start
    simp only [List.length_append, List.length_map, List.length_replicate, r.length]
  · by_cases hi : i < ws.length
    · rw [List.getElem?_append_left (by simpa using hi), List.getElem?_map] at h
      cases q : ws[i]? with
      | none => rw [q] at h; cases h
      | some x =>
        rw [q] at h
        cases h
        obtain ⟨v, h1, h2⟩ := r.get q
        refine ⟨v, ?_, h2⟩
        unfold L2.start
        rw [List.getElem?_append_left (by rw [List.length_map, ← r.length]; exact hi), List.getElem?_map, h1]
        rfl
    · rw [List.getElem?_append_right (by simpa using hi), List.getElem?_replicate] at h
      split at h <;> cases h
  · exfalso
    by_cases hi : i < ws.length
    · rw [List.getElem?_append_left (by simpa using hi), List.getElem?_map] at h
      cases q : ws[i]? with
      | none => rw [q] at h; cases h
      | some x => rw [q] at h; cases h
    · rw [List.getElem?_append_right (by simpa using hi), List.getElem?_replicate] at h
      split at h <;> cases h
  · exfalso
    by_cases hi : i < ws.length
    · rw [List.getElem?_append_left (by simpa using hi), List.getElem?_map] at h
      cases q : ws[i]? with
      | none => rw [q] at h; cases h
      | some x => rw [q] at h; cases h
    · rw [List.getElem?_append_right (by simpa using hi), List.getElem?_replicate] at h
      split at h <;> cases h
abbrev exE (E : XK) : XS := fun _ cls d H => E cls d H
theorem zdef {x qual : Str} {st : Stmt} {f : Addr} {fd : FuncData} {N ps : List Str} {k a b : Nat} {mb : SM} (ha : N.length = a) (hb : ps.length = b) (F : Fun K x qual st f fd) (Sc : FnScope N ps (defScope st))
    (hbody : ∀ (cdv : Value) (A : Around) (outer : List Env) (s : Shared) (H : Hp) (E : XK) (g : Gh), Room k (A.deeper (envOfC qual (defScope st) s.heap.objs.size f cdv)) →
      PSs (cxOf (L2.CX P w) P w K mg base N qual (defScope st) f cdv A outer s H E) (defBody st) (jS K ⟨H, g, C, cv⟩ (exE E) mb)) :
    FnOk P w K mg base (L2.CX P w) (k + 1) f fd ps (spM K C cv b (bodyM a b mb)) := by
  subst ha hb
  refine F.okX Sc (fun vs H Q E h => ?_) (fun cdv A outer s H vs Q E hr h => ?_)
  · obtain ⟨ws, S, g, hl, _⟩ := h
    exact hl
  · obtain ⟨ws, S, g, hl, r, sto, fok, p⟩ := h
    refine ⟨_, hbody cdv A outer s H E g hr, ?_⟩
    have R := rel_start (C := C) (cv := cv) (B := ⟨H, g, C, cv⟩) rfl (N := N) r sto fok
    refine ⟨_, S, g, R, ?_⟩
    unfold bodyM at p
    rw [← hl, ← r.length] at p
    cases q : mb (ws.map .val ++ List.replicate (N.length - ws.length) .no) S with
    | nx e S' => simp only [q] at p; exact fun σ' g' H' _ R' => p .non g' H' R'.aft R'.sto R'.fok .non
    | rt u S' => simp only [q] at p; exact fun v e σ' g' H' _ R' r' => p v g' H' R'.aft R'.sto R'.fok r'
    | exn c e S' => simp only [q] at p; exact fun σ' g' H' _ R' => p g' H' R'.aft R'.sto R'.fok
    | bk e S' => simp only [q] at p
    | ct e S' => simp only [q] at p
    | bad => simp only [q] at p
end
/-- in a def's body: what a callee raises leaves it -/
theorem pasD {X : Cx} {E : XK} (t : Takes X (fun c d _ H => E c d H)) (σ : L2.St) : PassesAt (L2.CX X.prog X.w) X σ (exE E σ) := passAt t σ
abbrev noE : XS := fun _ _ _ _ => False
theorem pas0 {X : Cx} (σ : L2.St) : PassesAt (L2.CX X.prog X.w) X σ (noE σ) := fun _ _ _ e s' I c => by
  obtain ⟨_, _, _, _, _, _, _, _, _, _, _, _, z⟩ := c
  exact z.elim

/-! ### a list that one name alone has -/
def sOwn (i : Nat) (a : AM) : SM := sBind a fun ws env S => if ws.length ≤ 1000 then .nx (env.set i (.own ws)) S else .bad
def sApp (i : Nat) (a : EM) : SM := fun env S => match env[i]? with
  | some (.own ws) => sBind a (fun w env S => if ws.length < 1000000 then .nx (env.set i (.own (ws ++ [w]))) S else .bad) env S
  | _ => .bad
/-- x[k] = e -/
def sOset (i : Nat) (k a : EM) : SM := fun env S => match env[i]? with
  | some (.own ws) => sBind a (fun w => sBind k fun y env S => match y with
    | .int j => match ixN ws.length j with
      | some n => .nx (env.set i (.own (ws.set n w))) S
      | none => .bad
    | _ => .bad) env S
  | _ => .bad
/-- x += e -/
def sOext (i : Nat) (a : EM) : SM := fun env S => match env[i]? with
  | some (.own ws) => sBind a (fun w env S => match w with
    | .lst zs => if ws.length + zs.length < 1000000 then .nx (env.set i (.own (ws ++ zs))) S else .bad
    | _ => .bad) env S
  | _ => .bad
def sFrz (i : Nat) (m : SM) : SM := fun env S => match env[i]? with
  | some (.own ws) => m (env.set i (.val (.lst ws))) S
  | _ => m env S
def eOix (i : Nat) (a : EM) : EM := fun env => match env[i]? with
  | some (.own ws) => M.bind (a env) fun k => match k with
    | .int j => ofOpt (atI ws j)
    | _ => fun _ => .bad
  | _ => fun _ => .bad
theorem Rel.ownExt {K : PySem.W.Frag} {B : Bs} {env : En} {S : Sto} {g : Gh} {σ : L2.St} {H : Hp} (R : Rel K B env S g σ H) {i : Nat} {p : Addr} {vs : List V} {zs : List W} (he : env[i]? = some (.own zs)) (hs : σ[i]? = some (some (.ref p))) : Ext g H g (upd H p (.lst vs)) := by
  obtain ⟨p', us, h1, h2, h3, h4, h5, h6⟩ := R.sl.own i zs he
  rw [hs] at h1; cases h1
  have nP : ∀ a, a ≠ p → upd H p (.lst vs) a = H a := fun a h => upd_ne h
  exact ⟨fun a h => ⟨h, nP a fun z => h4 (z ▸ h)⟩, fun a o h z => by
    rw [nP a fun y => by subst y; rw [h2] at h; cases h; exact z]
    exact h, fun _ _ h => h⟩
section
variable {X : Cx} {B : Bs} {E : XS} {e tg : Expr} {es : List Expr} {me : EM} {am : AM} {pos : Pos}
theorem sown (i : Nat) {x : Str} {pos' p2 : Pos} (hN : X.N.Nodup) (he : PA X es (jA X.K B E am)) (hi : X.N[i]? = some x := by rfl) (hx : Loc X.env.scope x := by first | exact .inl rfl | exact .inr rfl)
    (hs : swapsWith (.List es p2) (some (.Name x pos')) pos.line X.env = pure false := by rfl) (hf : X.fn x = true ∨ X.env.scope.names.lookup x = some .local := by first | exact .inl rfl | exact .inr rfl) :
    PS X (.Assign [.Name x pos'] (.List es p2) pos) (jS X.K B E (sOwn i am)) :=
  PS.imp (ps_set hN hi hx (pe_lst he) hs hf) fun D σ H ⟨env, S, g, R, p⟩ => J.sbind R p fun ws vs S1 g1 H1 e1 R1 r1 p1 => by
    by_cases hl : ws.length ≤ 1000
    · rw [if_pos hl] at p1
      exact ⟨by rw [← r1.length]; exact len1000 hl, fun q hq => p1 _ g1 _ (ext_laid R1 hq) (R1.newOwn hq r1)⟩
    · rw [if_neg hl] at p1
      exact False.elim p1
theorem sapp (i : Nat) {x : Str} {p0 apos cpos : Pos} (he : PE X e (jE X.K B E me)) (hN : X.N[i]? = some x := by rfl) (hv : Vis X.env.scope x := by first | exact Or.inl rfl | exact Or.inr (Or.inl rfl) | exact Or.inr (Or.inr rfl)) (hd : (x == ("__debug__" : Str)) = false := by decide)
    (hcd : (x == ("__classdict__" : Str)) = false := by decide) (hbase : attributeBase (.Name x p0) "append" X.env (eval (.Name x p0) X.env) = eval (.Name x p0) X.env := by rfl)
    (hfew : ((backTo cpos (starEach (e :: []) X.env)).all (fun x => !x.1) && (backToKw cpos (keywordEach [] X.env)).all (fun x => x.1.isSome) && decide ((e :: []).length + ([] : List Keyword).length + (if ([] : List Keyword).isEmpty then 0 else 1) < 30)) = true := by rfl)
    (hline : (apos.endLine == cpos.line) = true := by rfl) (hs : starEach (e :: []) X.env = (false, eval e X.env) :: starEach [] X.env := by rfl) (hsw : swapsWith (.Call (.Attribute (.Name x p0) "append" apos) [e] [] cpos) none pos.line X.env = pure false := by rfl) :
    PS X (.Expr (.Call (.Attribute (.Name x p0) "append" apos) [e] [] cpos) pos) (jS X.K B E (sApp i me)) := by
  refine PS.imp (ps_expr (pe_bm PySem.F.plainAttrs_list PySem.F.slot_list_append PySem.F.type_list_append mt_append (pe_var hN hv hd hcd) (pa_cons he pa_nil hs) hbase hfew hline hs) hsw) fun D σ H ⟨env, S, g, R, p⟩ => ?_
  unfold sApp at p
  cases q2 : env[i]? with
  | none => simp only [q2] at p; exact False.elim p
  | some s =>
    cases s with
    | no => simp only [q2] at p; exact False.elim p
    | val u => simp only [q2] at p; exact False.elim p
    | own ws =>
      simp only [q2] at p
      obtain ⟨a, vs, h1, h2, h3, _⟩ := R.sl.own i ws q2
      refine ⟨.ref a, h1, .inl ⟨rfl, vs, SqL.of h2⟩, ?_⟩
      refine J.sbind R p fun w v S1 g1 H1 e1 R1 r1 p1 => ?_
      obtain ⟨a', vs', h1', h2', h3', _⟩ := R1.sl.own i ws q2
      rw [h1] at h1'; cases h1'
      by_cases hl : ws.length < 1000000
      · rw [if_pos hl] at p1
        refine ⟨a, vs', v, rfl, rfl, h2', by rw [← h3'.length, line_eq]; omega, ?_⟩
        exact p1 σ g1 _ (R1.ownExt q2 h1) (R1.ownUpd q2 h1 (h3'.append (.cons r1 .nil)))
      · rw [if_neg hl] at p1
        exact False.elim p1
theorem soset (i : Nat) {x : Str} {k : Expr} {mk : EM} {p0 p1 : Pos} (he : PE X e (jE X.K B E me)) (hk : PE X k (jE X.K B E mk)) (hN : X.N[i]? = some x := by rfl) (hv : Vis X.env.scope x := by first | exact Or.inl rfl | exact Or.inr (Or.inl rfl) | exact Or.inr (Or.inr rfl)) (hd : (x == ("__debug__" : Str)) = false := by decide)
    (hcd : (x == ("__classdict__" : Str)) = false := by decide)
    (ha : ∀ v, assign (.Subscript (.Name x p0) k p1) X.env v = (do
      let ov ← holding [v] (eval (.Name x p0) X.env)
      let iv ← holding [v, ov] (eval k X.env)
      standAt p1
      holding [v, ov, iv] (setItem ov iv v)
      release [v, ov, iv] []) := by intro _; rfl)
    (hs : swapsWithSole [.Subscript (.Name x p0) k p1] e pos.line X.env = pure false := by rfl) (hw : swappedStores [.Subscript (.Name x p0) k p1] e X.env = pure none := by rfl)
    (h1 : (assignEach [.Subscript (.Name x p0) k p1] X.env).map (·.2) = [assign (.Subscript (.Name x p0) k p1) X.env] := by rfl) :
    PS X (.Assign [.Subscript (.Name x p0) k p1] e pos) (jS X.K B E (sOset i mk me)) := by
  refine PS.imp (ps_asg he (pg_sub (pe_var hN hv hd hcd) hk set_list ha) hs hw h1) fun D σ H ⟨env, S, g, R, p⟩ => ?_
  unfold sOset at p
  cases q2 : env[i]? with
  | none => simp only [q2] at p; exact False.elim p
  | some s =>
    cases s with
    | no => simp only [q2] at p; exact False.elim p
    | val u => simp only [q2] at p; exact False.elim p
    | own ws =>
      simp only [q2] at p
      refine J.sbind R p fun w v S1 g1 H1 e1 R1 r1 p1 => ?_
      obtain ⟨a, vs, h1, h2, h3, _⟩ := R1.sl.own i ws q2
      refine ⟨.ref a, h1, ?_⟩
      refine J.sbind R1 p1 fun y u S2 g2 H2 e2 R2 r2 p2 => ?_
      obtain ⟨a', vs', h1', h2', h3', _⟩ := R2.sl.own i ws q2
      rw [h1] at h1'; cases h1'
      cases r2 with
      | int j =>
        cases q3 : ixN ws.length j with
        | none => simp only [q3] at p2; exact False.elim p2
        | some n =>
          simp only [q3] at p2
          refine ⟨a, vs', j, n, rfl, rfl, h2', by rw [← h3'.length]; exact q3, ?_⟩
          exact p2 σ g2 _ (R2.ownExt q2 h1) (R2.ownUpd q2 h1 (Reps.set (r1.ext e2) n h3'))
      | _ => exact False.elim p2
theorem soext (i : Nat) {x : Str} {pos' : Pos} (hN : X.N.Nodup) (he : PE X e (jE X.K B E me)) (hi : X.N[i]? = some x := by rfl) (hx : Loc X.env.scope x := by first | exact .inl rfl | exact .inr rfl)
    (hfn : X.fn x = true ∨ X.env.scope.names.lookup x = some .local := by first | exact .inl rfl | exact .inr rfl) : PS X (.AugAssign (.Name x pos') .Add e pos) (jS X.K B E (sOext i me)) := by
  refine PS.imp (ps_aug hN hi hx he iop_ext hfn) fun D σ H ⟨env, S, g, R, p⟩ => ?_
  unfold sOext at p
  cases q2 : env[i]? with
  | none => simp only [q2] at p; exact False.elim p
  | some s =>
    cases s with
    | no => simp only [q2] at p; exact False.elim p
    | val u => simp only [q2] at p; exact False.elim p
    | own ws =>
      simp only [q2] at p
      obtain ⟨a, vs, h1, h2, h3, _⟩ := R.sl.own i ws q2
      refine ⟨.ref a, h1, ?_⟩
      refine J.sbind R p fun w v S1 g1 H1 e1 R1 r1 p1 => ?_
      obtain ⟨a', vs', h1', h2', h3', _⟩ := R1.sl.own i ws q2
      rw [h1] at h1'; cases h1'
      cases r1 with
      | @lst b us zs s1 r1 =>
        by_cases hl : ws.length + zs.length < 1000000
        · simp only [if_pos hl] at p1
          refine ⟨a, b, vs', us, rfl, rfl, h2', s1.2, by rw [← h3'.length, ← r1.length, line_eq]; omega, ?_⟩
          have es : σ.set i (some (V.ref a)) = σ := by
            apply List.ext_getElem?
            intro j
            by_cases hj : i = j
            · subst hj
              rw [List.getElem?_set_self (List.getElem?_eq_some_iff.mp h1).1, h1]
            · rw [List.getElem?_set_ne hj]
          show D.nx (σ.set i (some (V.ref a))) _
          rw [es]
          exact p1 σ g1 _ (R1.ownExt q2 h1) (R1.ownUpd q2 h1 (h3'.append r1))
        · simp only [if_neg hl] at p1
          exact False.elim p1
      | _ => exact False.elim p1
/-- x[k] -/
theorem zoix (i : Nat) {x : Str} {k : Expr} {mk : EM} {p0 : Pos} (hk : PE X k (jE X.K B E mk)) (hN : X.N[i]? = some x := by rfl) (hv : Vis X.env.scope x := by first | exact Or.inl rfl | exact Or.inr (Or.inl rfl) | exact Or.inr (Or.inr rfl)) (hd : (x == ("__debug__" : Str)) = false := by decide)
    (hcd : (x == ("__classdict__" : Str)) = false := by decide) (hs : PlainIx k := by intro _ _; rfl) : PE X (.Subscript (.Name x p0) k pos) (jE X.K B E (eOix i mk)) := by
  refine PE.imp (pe_ix ix_list (pe_var hN hv hd hcd) hk hs) fun σ H Q ⟨env, S, g, R, p⟩ => ?_
  unfold eOix at p
  cases q2 : env[i]? with
  | none => simp only [q2] at p; exact False.elim p
  | some s =>
    cases s with
    | no => simp only [q2] at p; exact False.elim p
    | val u => simp only [q2] at p; exact False.elim p
    | own ws =>
      simp only [q2] at p
      obtain ⟨a, vs, h1, h2, h3, _⟩ := R.sl.own i ws q2
      refine ⟨.ref a, h1, ?_⟩
      refine J.bind R p fun w v S1 g1 H1 e1 R1 r1 p1 => ?_
      obtain ⟨a', vs', h1', h2', h3', _⟩ := R1.sl.own i ws q2
      rw [h1] at h1'; cases h1'
      cases r1 with
      | int j =>
        obtain ⟨w, e, p1⟩ := ofOpt_ok (o := atI ws j) p1
        obtain ⟨z, e2, rz⟩ := h3'.atI e
        exact ⟨a, vs', j, z, rfl, rfl, SqL.of h2', e2, p1.ret R1 rz⟩
      | _ => exact False.elim p1
/-- from here on a list is let go -/
theorem sfrz (i : Nat) {rest : List Stmt} {m : SM} (h : PSs X rest (jS X.K B E m)) : PSs X rest (jS X.K B E (sFrz i m)) :=
  PSs.imp h fun D σ H ⟨env, S, g, R, p⟩ => by
    unfold sFrz at p
    cases q : env[i]? with
    | none => simp only [q] at p; exact ⟨env, S, g, R, p⟩
    | some s =>
      cases s with
      | no => simp only [q] at p; exact ⟨env, S, g, R, p⟩
      | val u => simp only [q] at p; exact ⟨env, S, g, R, p⟩
      | own ws =>
        simp only [q] at p
        obtain ⟨g', e, R'⟩ := R.freeze q
        exact ⟨_, S, g', R', p.later e⟩
end

/-! ### comprehensions -/
def noOwn (is : List Nat) (env : En) : Bool := is.all fun i => match env[i]? with
  | some (.own _) => false
  | _ => true
def kill : List Nat → En → En
  | [], env => env
  | i :: r, env => (kill r env).set i .no
def compL (bd : Bd) (cond : En → M Bool) (elt : EM) (envw : En) : List W → List W → M (List W)
  | [], acc => M.ret acc
  | w :: r, acc => fun S => match bd w envw with
    | none => .bad
    | some env1 => match cond env1 S with
      | .ok true S1 => match elt env1 S1 with
        | .ok y S2 => if acc.length < 1000000 then compL bd cond elt envw r (acc ++ [y]) S2 else .bad
        | _ => .bad
      | .ok false S1 => compL bd cond elt envw r acc S1
      | _ => .bad
def eComp (src : AM) (bd : Bd) (is : List Nat) (cond : En → M Bool) (elt : EM) : EM := fun env => M.bind (src env) fun ws S => if noOwn is env = true then
    match compL bd cond elt (kill is env) ws [] S with
    | .ok ys S' => .ok (.lst ys) S'
    | _ => .bad
  else .bad
def cYes : En → M Bool := fun _ => M.ret true
section
variable {K : PySem.W.Frag} {B : Bs} {env env1 : En} {S S' : Sto} {g g' : Gh} {σ σ1 : L2.St} {H H' : Hp}
theorem kill_get : ∀ {is : List Nat} {env : En} {j : Nat}, j ∉ is → (kill is env)[j]? = env[j]?
  | [], _, _, _ => rfl
  | i :: r, env, j, h => by
    unfold kill
    rw [List.getElem?_set_ne (fun z => h (by rw [z]; exact List.mem_cons_self)), kill_get fun z => h (List.mem_cons_of_mem _ z)]
theorem Rel.killed (R : Rel K B env S g σ H) : ∀ is : List Nat, Rel K B (kill is env) S g (wipe σ is) H
  | [] => R
  | i :: r => (R.killed r).drop
theorem noOwn_of {is : List Nat} (h : noOwn is env = true) {i : Nat} {ws : List W} (hi : i ∈ is) : env[i]? ≠ some (.own ws) := fun e => by
  have q := List.all_eq_true.mp h i hi
  rw [e] at q
  cases q
/-- the frame as it was, over a later heap -/
theorem Rel.restore {is : List Nat} (R : Rel K B env S g σ H) (R1 : Rel K B env1 S' g' σ1 H') (e : Ext g H g' H') (hn : noOwn is env = true) (h : ∀ j : Nat, j ∉ is → env1[j]? = env[j]? ∧ σ1[j]? = σ[j]?) : Rel K B env S' g' σ H' := by
  have ni : ∀ {i : Nat} {ws : List W}, env[i]? = some (.own ws) → i ∉ is := fun {i ws} q z => noOwn_of hn z q
  refine ⟨R1.aft, R1.sto, R1.fok, R.sl.len, fun i w q => ?_, fun i ws q => ?_, R.sl.dist⟩
  · obtain ⟨v, h1, h2⟩ := R.sl.val i w q
    exact ⟨v, h1, h2.ext e⟩
  · obtain ⟨h1, h2⟩ := h i (ni q)
    rw [← h2]
    exact R1.sl.own i ws (by rw [h1]; exact q)
/-- the base with one more object -/
abbrev Bs.plus (B : Bs) (D : Addr) (o : HO) : Bs := ⟨upd B.H D o, B.g, B.C, B.cv⟩
theorem Rel.addD {D : Addr} {o : HO} (R : Rel K B env S g σ H) (hD : H D = some o) (nF : ¬ g.F D) (nob : D ∉ g.ob) (no : ∀ (i : Nat) (ws : List W), env[i]? = some (.own ws) → σ[i]? ≠ some (some (.ref D))) : Rel K (B.plus D o) env S g σ H := by
  refine ⟨⟨fun b u h hb => ?_, R.aft.F, fun a h => ?_, ?_⟩, R.sto, R.fok, R.sl.len, R.sl.val, fun i ws q => ?_, R.sl.dist⟩
  · have h : upd B.H D o b = some u := h
    by_cases e : b = D
    · subst e
      rw [upd_same] at h; cases h
      exact hD
    · rw [upd_ne e] at h
      exact R.aft.keep b u h hb
  · rcases R.aft.F' a h with z | z
    · exact .inl z
    · refine .inr ?_
      show upd B.H D o a = none
      have hne : a ≠ D := fun y => nF (y ▸ h)
      rw [upd_ne hne]
      exact z
  · obtain ⟨r, e, n⟩ := R.aft.ob
    refine ⟨r, e, fun a ha => ?_⟩
    show upd B.H D o a = none
    have hne : a ≠ D := fun y => nob (by rw [e, ← y]; exact List.mem_append_right _ ha)
    rw [upd_ne hne]
    exact n a ha
  · obtain ⟨x, vs, h1, h2, h3, h4, h5, h6⟩ := R.sl.own i ws q
    refine ⟨x, vs, h1, h2, h3, h4, h5, ?_⟩
    show upd B.H D o x = none
    have hne : x ≠ D := fun y => no i ws q (by rw [h1, y])
    rw [upd_ne hne]
    exact h6
theorem Rel.delD {D : Addr} {o : HO} (R : Rel K (B.plus D o) env S g σ H) (hB : B.H D = none) : Rel K B env S g σ H := by
  have back : ∀ a, upd B.H D o a = none → B.H a = none := fun a h => by
    by_cases e : a = D
    · subst e; exact hB
    · rw [upd_ne e] at h; exact h
  refine ⟨⟨fun b u h hb => R.aft.keep b u ?_ hb, R.aft.F, fun a h => ?_, ?_⟩, R.sto, R.fok, R.sl.len, R.sl.val, fun i ws q => ?_, R.sl.dist⟩
  · show upd B.H D o b = some u
    rw [upd_ne (ne_of_none h hB)]
    exact h
  · rcases R.aft.F' a h with z | z
    · exact .inl z
    · exact .inr (back a z)
  · obtain ⟨r, e, n⟩ := R.aft.ob
    exact ⟨r, e, fun a ha => back a (n a ha)⟩
  · obtain ⟨x, vs, h1, h2, h3, h4, h5, h6⟩ := R.sl.own i ws q
    exact ⟨x, vs, h1, h2, h3, h4, h5, back x h6⟩
structure Dok (B : Bs) (D : Addr) : Prop where
  hB : B.H D = none
  nF : ¬ B.g.F D
  nob : D ∉ B.g.ob
theorem Rel.dOut {D : Addr} {o : HO} (R : Rel K (B.plus D o) env S g σ H) (d : Dok B D) : ¬ g.F D ∧ D ∉ g.ob ∧ H D = some o ∧ ∀ (i : Nat) (ws : List W), env[i]? = some (.own ws) → σ[i]? ≠ some (some (.ref D)) := by
  have u : upd B.H D o D = some o := upd_same
  refine ⟨fun z => ?_, fun z => ?_, R.aft.keep D o u d.nob, fun i ws q z => ?_⟩
  · rcases R.aft.F' D z with y | y
    · exact d.nF y
    · have y : upd B.H D o D = none := y
      rw [u] at y; cases y
  · obtain ⟨r, e, n⟩ := R.aft.ob
    rw [e] at z
    rcases List.mem_append.mp z with y | y
    · exact d.nob y
    · have y : upd B.H D o D = none := n D y
      rw [u] at y; cases y
  · obtain ⟨x, vs, h1, _, _, _, _, h6⟩ := R.sl.own i ws q
    rw [h1] at z; cases z
    have h6 : upd B.H D o D = none := h6
    rw [u] at h6; cases h6
theorem Rel.chgD {D : Addr} {vs us : List V} (R : Rel K (B.plus D (.lst vs)) env S g σ H) (d : Dok B D) : Ext g H g (upd H D (.lst us)) ∧ Rel K (B.plus D (.lst us)) env S g σ (upd H D (.lst us)) := by
  obtain ⟨nF, nob, hD, no⟩ := R.dOut d
  have nP : ∀ a, a ≠ D → upd H D (.lst us) a = H a := fun a h => upd_ne h
  have e : Ext g H g (upd H D (.lst us)) := ⟨fun a h => ⟨h, nP a fun z => nF (z ▸ h)⟩, fun a o h z => by
    rw [nP a fun y => by subst y; rw [hD] at h; cases h; exact z]
    exact h, fun _ _ h => h⟩
  refine ⟨e, ?_⟩
  have R0 := R.delD d.hB
  have R1 : Rel K B env S g σ (upd H D (.lst us)) := by
    refine ⟨⟨fun b o h hb => ?_, R0.aft.F, R0.aft.F', R0.aft.ob⟩, ⟨R0.sto.len, fun k a o e1 e2 => ObR.ext e (fun u q => ?_) (fun dx q => ?_) (R0.sto.at_ k a o e1 e2), R0.sto.nd, R0.sto.nF⟩, fun a h => ?_, R0.sl.len, fun i w q => ?_, fun i ws q => ?_, R0.sl.dist⟩
    · rw [nP b (ne_of_none h d.hB)]
      exact R0.aft.keep b o h hb
    · rw [nP a fun z => nob (z ▸ List.mem_of_getElem? e1)]
      exact q
    · rw [nP dx fun z => by subst z; rw [hD] at q; cases q]
      exact q
    · rw [nP a fun z => nF (z ▸ h)]
      exact R0.fok a h
    · obtain ⟨v, h1, h2⟩ := R0.sl.val i w q
      exact ⟨v, h1, h2.ext e⟩
    · obtain ⟨x, ys, h1, h2, h3, h4, h5, h6⟩ := R0.sl.own i ws q
      refine ⟨x, ys, h1, ?_, Reps.ext e h3, h4, h5, h6⟩
      rw [nP x fun z => no i ws q (by rw [h1, z])]
      exact h2
  exact R1.addD upd_same nF nob no
end
theorem compL_step {bd : Bd} {cond : En → M Bool} {elt : EM} {envw : En} {w : W} {r acc : List W} {S : Sto} {ys : List W} {Sf : Sto} (h : compL bd cond elt envw (w :: r) acc S = .ok ys Sf) :
    ∃ env1 b S1, bd w envw = some env1 ∧ cond env1 S = .ok b S1 ∧ (b = true → ∃ y S2, elt env1 S1 = .ok y S2 ∧ acc.length < 1000000 ∧ compL bd cond elt envw r (acc ++ [y]) S2 = .ok ys Sf) ∧ (b = false → compL bd cond elt envw r acc S1 = .ok ys Sf) := by
  unfold compL at h
  cases q : bd w envw with
  | none => simp only [q] at h; cases h
  | some env1 =>
    simp only [q] at h
    cases q2 : cond env1 S with
    | bad => simp only [q2] at h; cases h
    | exn c S1 => simp only [q2] at h; cases h
    | ok b S1 =>
      refine ⟨env1, b, S1, rfl, q2, fun hb => ?_, fun hb => ?_⟩
      · subst hb
        simp only [q2] at h
        cases q3 : elt env1 S1 with
        | bad => simp only [q3] at h; cases h
        | exn c S2 => simp only [q3] at h; cases h
        | ok y S2 =>
          simp only [q3] at h
          by_cases hl : acc.length < 1000000
          · rw [if_pos hl] at h
            exact ⟨y, S2, rfl, hl, h⟩
          · rw [if_neg hl] at h; cases h
      · subst hb
        simp only [q2] at h
        exact h
def tAny (K : PySem.W.Frag) (B : Bs) (cond : En → M Bool) : TT := fun σ H Q => ∃ D o, jT K (B.plus D o) noE cond σ H Q
def eAny (K : PySem.W.Frag) (B : Bs) (elt : EM) : TE := fun σ H Q => ∃ D o, jE K (B.plus D o) noE elt σ H Q
section
variable {X : Cx} {B : Bs} {E : XS} {elt tg iter : Expr} {ifs : List Expr} {scope : Scope} {own : List (Str × Nat)} {pos : Pos} {src : AM} {bd : Bd} {cond : En → M Bool} {me : EM}
theorem wipe_idem (σ : L2.St) (vs : List Nat) : wipe (wipe σ vs) vs = wipe σ vs := wipe_eq (wipe_length σ vs) fun j hj => wipe_get hj
theorem tLc_of {g : TG} {is : List Nat} (ho : TgOk X.K g bd is) {σ : L2.St} {H : Hp} {Q : VK} (h : jE X.K B E (eComp src bd is cond me) σ H Q) : tLc (jI X.K B E src) g (tAny X.K B cond) (eAny X.K B me) is σ H Q := by
  obtain ⟨env, S, g0, R, p⟩ := h
  refine J.bind R p fun ws J S1 g1 H1 e1 R1 it p1 => fun D hD => ?_
  by_cases hn : noOwn is env = true
  · rw [if_pos hn] at p1
    cases q : compL bd cond me (kill is env) ws [] S1 with
    | bad => simp only [q] at p1; exact False.elim p1
    | exn c S' => simp only [q] at p1; exact False.elim p1
    | ok ys Sf =>
      simp only [q] at p1
      obtain ⟨d1, d2, d3⟩ := R1.fresh hD
      have dk : Dok B D := ⟨d1, fun z => d2 (R1.aft.F D z), fun z => d3 (by obtain ⟨r, e, _⟩ := R1.aft.ob; rw [e]; exact List.mem_append_left _ z)⟩
      have sm1 := same_upd (o := .lst []) hD
      have no1 : ∀ (i : Nat) (ws : List W), env[i]? = some (.own ws) → σ[i]? ≠ some (some (.ref D)) := fun i ws q z => by
        obtain ⟨x, vs, h1, h2, _⟩ := R1.sl.own i ws q
        rw [h1] at z; cases z
        rw [hD] at h2; cases h2
      refine ⟨fun i m H' => m = ws.length - i ∧ i ≤ ws.length ∧ ∃ S' g' vs acc, Ext g1 H1 g' H' ∧ Rel X.K (B.plus D (.lst vs)) env S' g' σ H' ∧ Reps X.K g' H' acc vs ∧ compL bd cond me (kill is env) (ws.drop i) acc S' = .ok ys Sf,
        ⟨ws.length, by simp, Nat.zero_le _, S1, g1, [], [], Ext.of_same R1.fok sm1, (R1.laid hD).addD upd_same d2 d3 no1, .nil, q⟩, ?_⟩
      rintro i m H' ⟨rfl, hil, S', g', vs, acc, e', R', ra, q'⟩
      obtain ⟨it1, it2⟩ := it i g' H' e' R'.fok
      by_cases hlt : i < ws.length
      · obtain ⟨go, yl⟩ := it1 ws[i] (List.getElem?_eq_getElem hlt)
        rw [List.drop_eq_getElem_cons hlt] at q'
        obtain ⟨env1, b, S2, hb1, hb2, hyes, hno⟩ := compL_step q'
        refine .inr ⟨go, fun H2 => ∃ S' g' vs acc, Ext g1 H1 g' H2 ∧ Rel X.K (B.plus D (.lst vs)) env S' g' σ H2 ∧ Reps X.K g' H2 acc vs ∧ compL bd cond me (kill is env) (ws.drop (i + 1)) acc S' = .ok ys Sf, fun H2 h => ⟨ws.length - (i + 1), by omega, rfl, hlt, h⟩, fun x H2 y => ?_⟩
        obtain ⟨sm, rx⟩ := yl x H2 y
        have eS := Ext.of_same R'.fok sm
        have R2 := R'.same sm
        refine ho (B.plus D (.lst vs)) (kill is env) env1 S' g' (wipe σ is) H2 ws[i] x _ (R2.killed is) rx hb1 fun σ1 R3 hw hj => ⟨by rw [hw, wipe_idem], D, .lst vs, env1, S', g', R3, ?_⟩
        have hj' : ∀ j : Nat, j ∉ is → env1[j]? = env[j]? ∧ σ1[j]? = σ[j]? := fun j hx => by
          obtain ⟨a1, a2⟩ := hj j hx
          exact ⟨a1.trans (kill_get hx), a2.trans (wipe_get hx)⟩
        rw [hb2]
        intro c g3 H3 e3 R4 rc
        cases rc
        cases b with
        | false =>
          rw [if_neg Bool.false_ne_true]
          exact ⟨S2, g3, vs, acc, (e'.trans eS).trans e3, R2.restore R4 e3 hn hj', Reps.ext (eS.trans e3) ra, hno rfl⟩
        | true =>
          rw [if_pos rfl]
          obtain ⟨y, S3, hy, hl, hq⟩ := hyes rfl
          refine ⟨D, .lst vs, env1, S2, g3, R4, ?_⟩
          rw [hy]
          intro v g4 H4 e4 R5 rv
          obtain ⟨_, _, hD4, _⟩ := R5.dOut dk
          have e34 := e3.trans e4
          have R6 := R2.restore R5 e34 hn hj'
          obtain ⟨e5, R7⟩ := R6.chgD (us := vs ++ [v]) dk
          refine ⟨vs, hD4, by rw [← ra.length, line_eq]; omega, S3, g4, vs ++ [v], acc ++ [y], ((e'.trans eS).trans e34).trans e5, R7, ?_, hq⟩
          exact (Reps.ext ((eS.trans e34).trans e5) ra).append (.cons (rv.ext e5) .nil)
      · have hd : ws.drop i = [] := List.drop_eq_nil_of_le (by omega)
        rw [hd] at q'
        refine .inl ⟨it2 (by omega), ?_⟩
        cases q'
        obtain ⟨n1, n2, hD', n3⟩ := R'.dOut dk
        have R8 := (R'.delD d1).addF hD' d1 n2 n3
        have e8 := ext_addF g' H' D
        exact p1 (.ref D) _ H' (e'.trans e8) R8 (.lst ⟨.inr rfl, hD'⟩ (Reps.ext e8 ra))
  · rw [if_neg hn] at p1
    exact False.elim p1
theorem zcomp {g : TG} (hN : X.N.Nodup) (hi : PI X tg iter (jI X.K B E src)) (ho : TgOk X.K g bd (own.map (·.2))) (ok : BlkOk X.N X.env.scope scope own)
    (hg : ∀ (s : Shared) (H : Hp) (C : Addr) (cl : List (Str × Addr)) (fp : List Addr), PG (X.blk s H scope (compEnvC scope cl C X.env) fp) tg g)
    (ht : ∀ (D : Addr) (o : HO) (s : Shared) (H : Hp) (C : Addr) (cl : List (Str × Addr)) (fp : List Addr), PTs (X.blk s H scope (compEnvC scope cl C X.env) fp) ifs (jT X.K (B.plus D o) noE cond))
    (he : ∀ (D : Addr) (o : HO) (s : Shared) (H : Hp) (C : Addr) (cl : List (Str × Addr)) (fp : List Addr), PE (X.blk s H scope (compEnvC scope cl C X.env) fp) elt (jE X.K (B.plus D o) noE me))
    (hc : X.calm = true := by rfl) (hs : ∀ x, foldedSetIterable iter X.env x = pure x := by intro _; rfl) : PE X (.ListComp elt [⟨tg, iter, ifs, 0⟩] scope pos) (jE X.K B E (eComp src bd (own.map (·.2)) cond me)) :=
  PE.imp (pe_lc hc hN hi ok hg (fun s H C cl fp => ⟨fun pins s1 σ H Q I ⟨D, o, q⟩ => (ht D o s _ C cl fp).run pins s1 σ H Q I q⟩) (fun s H C cl fp => ⟨fun pins s1 σ H Q I ⟨D, o, q⟩ => (he D o s _ C cl fp).run pins s1 σ H Q I q⟩) hs) fun σ H Q h => tLc_of ho h
/-- x = [..] -/
theorem zsetcomp {g : TG} (i : Nat) {y : Str} {py spos : Pos} (hN : X.N.Nodup) (hi : PI X tg iter (jI X.K B E src)) (ho : TgOk X.K g bd (own.map (·.2))) (ok : BlkOk X.N X.env.scope scope own)
    (hg : ∀ (s : Shared) (H : Hp) (C : Addr) (cl : List (Str × Addr)) (fp : List Addr), PG (X.blk s H scope (compEnvC scope cl C X.env) fp) tg g)
    (ht : ∀ (D : Addr) (o : HO) (s : Shared) (H : Hp) (C : Addr) (cl : List (Str × Addr)) (fp : List Addr), PTs (X.blk s H scope (compEnvC scope cl C X.env) fp) ifs (jT X.K (B.plus D o) noE cond))
    (he : ∀ (D : Addr) (o : HO) (s : Shared) (H : Hp) (C : Addr) (cl : List (Str × Addr)) (fp : List Addr), PE (X.blk s H scope (compEnvC scope cl C X.env) fp) elt (jE X.K (B.plus D o) noE me))
    (hsw : swapsWith (.ListComp elt [⟨tg, iter, ifs, 0⟩] scope pos) (some (.Name y py)) spos.line X.env = pure true) (hy : X.N[i]? = some y := by rfl) (hyl : X.env.scope.names.lookup y = some .local := by rfl)
    (hc : X.calm = true := by rfl) (hs : ∀ x, foldedSetIterable iter X.env x = pure x := by intro _; rfl) : PS X (.Assign [.Name y py] (.ListComp elt [⟨tg, iter, ifs, 0⟩] scope pos) spos) (jS X.K B E (sSet i (eComp src bd (own.map (·.2)) cond me))) :=
  PS.imp (ps_setLc hc hN hy hyl hsw hi ok hg (fun s H C cl fp => ⟨fun pins s1 σ H Q I ⟨D, o, q⟩ => (ht D o s _ C cl fp).run pins s1 σ H Q I q⟩) (fun s H C cl fp => ⟨fun pins s1 σ H Q I ⟨D, o, q⟩ => (he D o s _ C cl fp).run pins s1 σ H Q I q⟩) hs) fun D σ H ⟨env, S, g, R, p⟩ =>
    tLc_of ho (J.sbind R p fun w v S1 g1 H1 e1 R1 r1 p1 => p1 _ g1 H1 (Ext.refl g1 H1) (R1.set r1))
theorem tsnil : PTs X [] (jT X.K B E cYes) := ⟨fun pins s σ H Q I ⟨env, S, g, R, p⟩ => pts_nil.run pins s σ H Q I (p.ret R rfl)⟩
theorem tsone {c : Expr} (h : PT X c (jT X.K B E cond)) : PTs X [c] (jT X.K B E cond) := pts_one h
end
end Zz
end
section
namespace Zz
open PySem PySem.Spec PyProof.Rows L2

/-! ### slices -/
def cutW {α : Type} (xs : List α) (lo hi : Option Int) : List α := (xs.drop (HT.sIx xs.length 0 lo)).take (HT.sIx xs.length xs.length hi - HT.sIx xs.length 0 lo)
theorem cutW_V (xs : List V) (lo hi : Option Int) : cutW xs lo hi = cutV xs lo hi := rfl
abbrev OM := En → M (Option Int)
def oNone : OM := fun _ => M.ret none
def oSome (a : EM) : OM := fun env => M.bind (a env) fun w => match w with
  | .int i => M.ret (some i)
  | _ => fun _ => .bad
def opSl (x : W) (lo hi : Option Int) : M W := match x with
  | .lst xs => M.ret (.lst (cutW xs lo hi))
  | .tup xs => fun S => if ¬ (HT.sIx xs.length 0 lo = 0 ∧ HT.sIx xs.length xs.length hi = xs.length) then .ok (.tup (cutW xs lo hi)) S else .bad
  | .str z => fun S => if z.length ≤ 1000 then .ok (.str (cutS z lo hi)) S else .bad
  | _ => fun _ => .bad
def eSl (a : EM) (lo hi : OM) : EM := fun env => M.bind (a env) fun x => M.bind (lo env) fun l => M.bind (hi env) fun h => opSl x l h
def RpO (_ : Gh) (_ : Hp) (a b : Option Int) : Prop := a = b
section
variable {X : Cx} {B : Bs} {E : XS} {e : Expr} {me : EM} {lo hi : Option Expr} {ml mh : OM} {pos p2 : Pos}
theorem zonone : PO X none (J RpO X.K B E oNone) := ⟨fun pins s σ H Q I ⟨env, S, g, R, p⟩ => po_none.run pins s σ H Q I (p.ret R rfl)⟩
theorem zosome (h : PE X e (jE X.K B E me)) : PO X (some e) (J RpO X.K B E (oSome me)) := ⟨fun pins s σ H Q I ⟨env, S, g, R, p⟩ => (po_some h).run pins s σ H Q I (J.bind R p fun w v S1 g1 H1 e1 R1 r1 p1 => by
  cases r1 with
  | int i => exact ⟨i, rfl, p1.ret R1 rfl⟩
  | _ => exact False.elim p1)⟩
theorem Reps.cut {K : PySem.W.Frag} {g : Gh} {H : Hp} {ws : List W} {vs : List V} (r : Reps K g H ws vs) (lo hi : Option Int) : Reps K g H (cutW ws lo hi) (cutV vs lo hi) := by
  unfold cutW cutV
  rw [r.length]
  exact Reps.take _ (Reps.drop _ r)
theorem zsl (he : PE X e (jE X.K B E me)) (hl : PO X lo (J RpO X.K B E ml)) (hu : PO X hi (J RpO X.K B E mh)) : PE X (.Subscript e (.Slice lo hi none p2) pos) (jE X.K B E (eSl me ml mh)) :=
  PE.imp (pe_slice (sl_list.or (sl_tup.or sl_str)) he hl hu) fun σ H Q ⟨env, S, g, R, p⟩ => J.bind R p fun x v S1 g1 H1 e1 R1 r1 p1 => J.bind R1 p1 fun l l' S2 g2 H2 e2 R2 r2 p2 => J.bind R2 p2 fun h h' S3 g3 H3 e3 R3 r3 p3 => by
    have hz := line_eq
    cases r2
    cases r3
    have rx := r1.ext (e2.trans e3)
    cases rx with
    | @lst a vs ws s r =>
      refine .inl ⟨a, vs, rfl, SqL.of s.2, fun q hq => ?_⟩
      exact p3 _ _ _ (ext_newF R3 hq) (R3.newF hq) (.lst ⟨.inr rfl, upd_same⟩ (Reps.ext (ext_newF R3 hq) (r.cut l h)))
    | @tup a vs ws s r =>
      refine .inr (.inl ⟨a, vs, rfl, s, ?_⟩)
      unfold opSl at p3
      by_cases hc : ¬ (HT.sIx ws.length 0 l = 0 ∧ HT.sIx ws.length ws.length h = ws.length)
      · simp only [if_pos hc] at p3
        refine ⟨by rw [← r.length]; exact hc, fun q hq => ?_⟩
        exact p3 _ _ _ (ext_laid R3 hq) (R3.laid hq) (.tup (.inl (.inl upd_same)) (Reps.ext (ext_laid R3 hq) (r.cut l h)))
      · simp only [if_neg hc] at p3
        exact False.elim p3
    | str z =>
      refine .inr (.inr ⟨z, rfl, ?_⟩)
      unfold opSl at p3
      by_cases hc : z.length ≤ 1000
      · simp only [if_pos hc] at p3
        exact ⟨by omega, p3.ret R3 (.str _)⟩
      · simp only [if_neg hc] at p3
        exact False.elim p3
    | _ => exact False.elim p3
end

/-! ### in -/
def flatW : W → Bool
  | .non => true
  | .bl _ => true
  | .int _ => true
  | .str _ => true
  | _ => false
def isin (x : W) (ys : List W) : Bool := ys.any fun z => PyData.eqv (dat z) (dat x)
def strin (a b : Str) : Bool := !(Builtin.Str.occurrences b a 0 b.length 1).isEmpty
def opInB (x y : W) : M Bool := match y with
  | .tup ys => fun S => if (flatW x && ys.all flatW) = true then .ok (isin x ys) S else .bad
  | .lst ys => fun S => if (sh 8 x && sh 8 (.lst ys)) = true then .ok (isin x ys) S else .bad
  | .str b => match x with
    | .str a => M.ret (strin a b)
    | _ => fun _ => .bad
  | _ => fun _ => .bad
def opIn (x y : W) : M W := M.bind (opInB x y) fun b => M.ret (.bl b)
def opNin (x y : W) : M W := M.bind (opInB x y) fun b => M.ret (.bl (!b))
theorem dats_map (ws : List W) : dats ws = ws.map dat := by
  induction ws with
  | nil => rfl
  | cons w r ih => unfold dats; rw [ih]; rfl
section
variable {X : Cx} {B : Bs} {E : XS}
theorem flat_rep {K : PySem.W.Frag} {g : Gh} {H : Hp} {w : W} {v : V} (r : Rep K g H w v) (h : flatW w = true) : flatV v = true := by
  cases r with
  | non => rfl
  | bl _ => rfl
  | int _ => rfl
  | str _ => rfl
  | _ => cases h
theorem eqv_rep {K : PySem.W.Frag} {g : Gh} {H : Hp} {w u : W} {v z : V} (r : Rep K g H w v) (h : flatW w = true) (r2 : Rep K g H u z) (h2 : flatW u = true) : eqV v z = PyData.eqv (dat w) (dat u) := by
  cases r with
  | non => cases r2 <;> first | (cases h2; done) | (simp only [dat, PyData.eqv]; rfl)
  | bl _ => cases r2 <;> first | (cases h2; done) | (simp only [dat, PyData.eqv]; rfl)
  | int _ => cases r2 <;> first | (cases h2; done) | (simp only [dat, PyData.eqv]; rfl)
  | str _ => cases r2 <;> first | (cases h2; done) | (simp only [dat, PyData.eqv]; rfl)
  | _ => cases h
theorem flats_rep {K : PySem.W.Frag} {g : Gh} {H : Hp} : ∀ {ws : List W} {vs : List V}, Reps K g H ws vs → ws.all flatW = true → vs.all flatV = true
  | _, _, .nil, _ => rfl
  | _, _, .cons r t, h => by
    rw [List.all_cons, Bool.and_eq_true] at h ⊢
    exact ⟨flat_rep r h.1, flats_rep t h.2⟩
theorem isin_rep {K : PySem.W.Frag} {g : Gh} {H : Hp} {x : W} {v : V} (rx : Rep K g H x v) (hx : flatW x = true) : ∀ {ws : List W} {vs : List V}, Reps K g H ws vs → ws.all flatW = true → inV v vs = isin x ws
  | _, _, .nil, _ => rfl
  | _, _, .cons r t, h => by
    rw [List.all_cons, Bool.and_eq_true] at h
    have ih := isin_rep rx hx t h.2
    unfold inV isin at ih ⊢
    rw [List.any_cons, List.any_cons, ih, eqv_rep r h.1 rx hx]
def rStrIn : R2 := fun x y H Q => ∃ i j, x = .str i ∧ y = .str j ∧ Q (.bl (strin i j)) H
def rStrNin : R2 := fun x y H Q => ∃ i j, x = .str i ∧ y = .str j ∧ Q (.bl (!strin i j)) H
def rInA (K : PySem.W.Frag) : R2 := fun x y H Q => rIn K false x y H Q ∨ (rInD K x y H Q ∨ rStrIn x y H Q)
def rNinA (K : PySem.W.Frag) : R2 := fun x y H Q => rIn K true x y H Q ∨ (rNotInD K x y H Q ∨ rStrNin x y H Q)
theorem h_in (hu : X.A.units + 65 < cLine) : OpR X (compareOp .In) (rInA X.K) := op_in_seq.or ((op_inD hu).or (show OpR X (compareOp .In) rStrIn from op_in_str))
theorem h_nin (hu : X.A.units + 65 < cLine) : OpR X (compareOp .NotIn) (rNinA X.K) := op_notIn_seq.or ((op_notInD hu).or (show OpR X (compareOp .NotIn) rStrNin from op_notin_str))
theorem m_inB {env : En} {S : Sto} {g : Gh} {σ : L2.St} {H : Hp} {x y : W} {v u : V} {k : Bool → M W} {Q : VK} (R : Rel X.K B env S g σ H) (rx : Rep X.K g H x v) (ry : Rep X.K g H y u) (p : Pst (Rep X.K) X.K B E env σ g H (M.bind (opInB x y) k S) Q) :
    ∃ b, Pst (Rep X.K) X.K B E env σ g H (k b S) Q ∧ ((∃ a vs, u = .ref a ∧ (SqL X.K H a vs ∨ SqT X.K H a vs) ∧ flatV v = true ∧ vs.all flatV = true ∧ b = inV v vs) ∨ (∃ d ds, Dp X.K H v d ∧ Dp X.K H u (.list ds) ∧ SeqAt.shaped d = true ∧ SeqAt.shaped (.list ds) = true ∧ b = ds.any fun z => PyData.eqv z d) ∨
      ∃ i j, v = .str i ∧ u = .str j ∧ b = strin i j) := by
  cases ry with
  | @tup a vs ws s r =>
    unfold M.bind opInB at p
    by_cases h : (flatW x && ws.all flatW) = true
    · simp only [if_pos h] at p
      rw [Bool.and_eq_true] at h
      exact ⟨_, p, .inl ⟨a, vs, rfl, .inr s, flat_rep rx h.1, flats_rep r h.2, (isin_rep rx h.1 r h.2).symm⟩⟩
    · simp only [if_neg h] at p
      exact False.elim p
  | @lst a vs ws s r =>
    unfold M.bind opInB at p
    by_cases h : (sh 8 x && sh 8 (.lst ws)) = true
    · simp only [if_pos h] at p
      rw [Bool.and_eq_true] at h
      refine ⟨_, p, .inr (.inl ⟨dat x, dats ws, rx.dp h.1, ?_, shaped_of h.1, ?_, ?_⟩)⟩
      · have q := (Rep.lst s r).dp h.2
        exact q
      · have q := shaped_of h.2
        exact q
      · unfold isin
        rw [dats_map, List.any_map]
        rfl
    · simp only [if_neg h] at p
      exact False.elim p
  | str b =>
    cases rx with
    | str a => exact ⟨strin a b, p, .inr (.inr ⟨a, b, rfl, rfl, rfl⟩)⟩
    | _ => exact False.elim p
  | _ => exact False.elim p
theorem m_in : OpM X.K B E opIn (rInA X.K) := fun env S g σ H x y v u Q R rx ry p => by
  obtain ⟨b, p, h⟩ := m_inB (X := X) R rx ry p
  have q := p.ret R (.bl b)
  rcases h with ⟨a, vs, h1, h2, h3, h4, rfl⟩ | ⟨d, ds, h1, h2, h3, h4, rfl⟩ | ⟨i, j, h1, h2, rfl⟩
  · exact .inl ⟨a, vs, h1, h2, h3, h4, q⟩
  · exact .inr (.inl ⟨d, ds, h1, h2, h3, h4, q⟩)
  · exact .inr (.inr ⟨i, j, h1, h2, q⟩)
theorem m_nin : OpM X.K B E opNin (rNinA X.K) := fun env S g σ H x y v u Q R rx ry p => by
  obtain ⟨b, p, h⟩ := m_inB (X := X) R rx ry p
  have q := p.ret R (.bl (!b))
  rcases h with ⟨a, vs, h1, h2, h3, h4, rfl⟩ | ⟨d, ds, h1, h2, h3, h4, rfl⟩ | ⟨i, j, h1, h2, rfl⟩
  · exact .inl ⟨a, vs, h1, h2, h3, h4, q⟩
  · exact .inr (.inl ⟨d, ds, h1, h2, h3, h4, q⟩)
  · exact .inr (.inr ⟨i, j, h1, h2, q⟩)
theorem units65 {k : Nat} {A : Around} (r : Room k A) : A.units + 65 < cLine := by have := r.un; omega
theorem units64 {k : Nat} {A : Around} (r : Room k A) : A.units + 64 < cLine := by have := r.un; omega
end

/-! ### lists that are designated -/
def eNewS (a : AM) : EM := fun env => M.bind (a env) fun ws S => if ws.length ≤ 1000 then .ok (.obj S.length) (S ++ [.lst ws]) else .bad
/-- list(x), designated -/
def cListS : List W → M W
  | [.lst xs] => fun S => .ok (.obj S.length) (S ++ [.lst xs])
  | [.scr xs] => fun S => .ok (.obj S.length) (S ++ [.lst xs])
  | _ => fun _ => .bad
/-- o[k] = e -/
def sSto (o k a : EM) : SM := sBind a fun w => sBind o fun x => sBind k fun y env S => match x, y with
  | .obj n, .int j => match S[n]? with
    | some (.lst xs) => match ixN xs.length j with
      | some m => .nx env (S.set n (.lst (xs.set m w)))
      | none => .bad
    | _ => .bad
  | _, _ => .bad
section
variable {X : Cx} {B : Bs} {E : XS} {e o k : Expr} {es : List Expr} {me mo mk : EM} {am : AM} {pos : Pos}
theorem obj_new {K : PySem.W.Frag} {env : En} {S : Sto} {g : Gh} {σ : L2.St} {H : Hp} (R : Rel K B env S g σ H) (p : Addr) (H' : Hp) : Rep K ⟨g.F, g.ob ++ [p]⟩ H' (.obj S.length) (.ref p) := by
  refine .obj ?_
  rw [← R.sto.len]
  simp
theorem znewS (h : PA X es (jA X.K B E am)) : PE X (.List es pos) (jE X.K B E (eNewS am)) :=
  PE.imp (pe_lst h) fun σ H Q ⟨env, S, g, R, p⟩ => J.bind R p fun xs vs S1 g1 H1 e1 R1 r1 p1 => by
    by_cases hl : xs.length ≤ 1000
    · rw [if_pos hl] at p1
      refine ⟨by rw [← r1.length]; exact len1000 hl, fun q hq => ?_⟩
      obtain ⟨e2, R2⟩ := R1.newSto hq r1
      exact p1 _ _ _ e2 R2 (obj_new R1 q _)
    · rw [if_neg hl] at p1
      exact False.elim p1
theorem m_listS : CaM X.K B E cListS (rListOf X.K) := fun env S g σ H xs vs Q R r p => by
  cases r with
  | nil => exact False.elim p
  | cons r1 t =>
    cases t with
    | nil =>
      cases r1 with
      | @lst a us ws s1 r1 =>
        refine ⟨a, us, rfl, .inl (SqL.of s1.2), fun l hl => ?_⟩
        obtain ⟨e2, R2⟩ := R.newSto hl r1
        exact p _ _ _ e2 R2 (obj_new R l _)
      | @scr a us ws s1 r1 =>
        refine ⟨a, us, rfl, .inl s1.sql, fun l hl => ?_⟩
        obtain ⟨e2, R2⟩ := R.newSto hl r1
        exact p _ _ _ e2 R2 (obj_new R l _)
      | _ => exact False.elim p
    | cons _ _ => cases r1 <;> exact False.elim p
theorem ssto {p1 : Pos} (he : PE X e (jE X.K B E me)) (ho : PE X o (jE X.K B E mo)) (hk : PE X k (jE X.K B E mk))
    (ha : ∀ v, assign (.Subscript o k p1) X.env v = (do
      let ov ← holding [v] (eval o X.env)
      let iv ← holding [v, ov] (eval k X.env)
      standAt p1
      holding [v, ov, iv] (setItem ov iv v)
      release [v, ov, iv] []) := by intro _; rfl)
    (hs : swapsWithSole [.Subscript o k p1] e pos.line X.env = pure false := by rfl) (hw : swappedStores [.Subscript o k p1] e X.env = pure none := by rfl)
    (h1 : (assignEach [.Subscript o k p1] X.env).map (·.2) = [assign (.Subscript o k p1) X.env] := by rfl) :
    PS X (.Assign [.Subscript o k p1] e pos) (jS X.K B E (sSto mo mk me)) :=
  PS.imp (ps_asg he (pg_sub ho hk set_list ha) hs hw h1) fun D σ H ⟨env, S, g, R, p⟩ => J.sbind R p fun w v S1 g1 H1 e1 R1 r1 p1 => J.sbind R1 p1 fun x u S2 g2 H2 e2 R2 r2 p2 => J.sbind R2 p2 fun y z S3 g3 H3 e3 R3 r3 p3 => by
    have rw' := r1.ext (e2.trans e3)
    have rx := r2.ext e3
    cases rx with
    | @obj a n hn =>
      cases r3 with
      | int j =>
        cases q : S3[n]? with
        | none => simp only [q] at p3; exact False.elim p3
        | some ob =>
          cases ob with
          | ins fs => simp only [q] at p3; exact False.elim p3
          | lst xs =>
            simp only [q] at p3
            cases q2 : ixN xs.length j with
            | none => simp only [q2] at p3; exact False.elim p3
            | some m =>
              simp only [q2] at p3
              obtain ⟨vs, h1, r4⟩ := R3.sto.at_ n a _ hn q
              obtain ⟨e5, R5⟩ := R3.stoUpd hn q (Reps.set rw' m r4)
              exact ⟨a, vs, j, m, rfl, rfl, h1, by rw [← r4.length]; exact q2, p3 σ g3 _ e5 R5⟩
      | _ => exact False.elim p3
    | _ => cases r3 <;> exact False.elim p3
end

/-! ### len(set(xs)) of ints; max(xs), min(xs); xs.index(x), xs.count(x) -/
def dedup (ns : List Int) : List Int := (((List.range ns.length).map fun i => ns.getD i 0)).foldl PyProof.Rows.step_dedup []
def eLenSet (a : EM) : EM := fun env => M.bind (a env) fun w => match w with
  | .lst xs => fun S => match toInts xs with
    | some ns => if ns.length ≤ 4000 then .ok (.int (dedup ns).length) S else .bad
    | none => .bad
  | _ => fun _ => .bad
def maxL : List Int → Option Int
  | [] => none
  | x :: r => some (r.foldl max x)
def minL : List Int → Option Int
  | [] => none
  | x :: r => some (r.foldl min x)
def cMaxL : List W → M W
  | [.lst xs] => fun S => match (toInts xs).bind maxL with
    | some n => .ok (.int n) S
    | none => .bad
  | _ => fun _ => .bad
def cMinL : List W → M W
  | [.lst xs] => fun S => match (toInts xs).bind minL with
    | some n => .ok (.int n) S
    | none => .bad
  | _ => fun _ => .bad
theorem foldl_max_ge : ∀ (r : List Int) (x : Int), x ≤ r.foldl max x ∧ (∀ y ∈ r, y ≤ r.foldl max x) ∧ (r.foldl max x = x ∨ r.foldl max x ∈ r)
  | [], x => ⟨Int.le_refl _, by simp, .inl rfl⟩
  | a :: r, x => by
    obtain ⟨h1, h2, h3⟩ := foldl_max_ge r (max x a)
    rw [List.foldl_cons]
    refine ⟨by omega, fun y hy => ?_, ?_⟩
    · rcases List.mem_cons.mp hy with rfl | hy
      · omega
      · exact h2 y hy
    · rcases h3 with h3 | h3
      · rw [h3]
        by_cases hxa : x ≤ a
        · rw [Int.max_eq_right hxa]; exact .inr List.mem_cons_self
        · rw [Int.max_eq_left (by omega)]; exact .inl rfl
      · exact .inr (List.mem_cons_of_mem _ h3)
theorem foldl_min_le : ∀ (r : List Int) (x : Int), r.foldl min x ≤ x ∧ (∀ y ∈ r, r.foldl min x ≤ y) ∧ (r.foldl min x = x ∨ r.foldl min x ∈ r)
  | [], x => ⟨Int.le_refl _, by simp, .inl rfl⟩
  | a :: r, x => by
    obtain ⟨h1, h2, h3⟩ := foldl_min_le r (min x a)
    rw [List.foldl_cons]
    refine ⟨by omega, fun y hy => ?_, ?_⟩
    · rcases List.mem_cons.mp hy with rfl | hy
      · omega
      · exact h2 y hy
    · rcases h3 with h3 | h3
      · rw [h3]
        by_cases hxa : x ≤ a
        · rw [Int.min_eq_left hxa]; exact .inl rfl
        · rw [Int.min_eq_right (by omega)]; exact .inr List.mem_cons_self
      · exact .inr (List.mem_cons_of_mem _ h3)
section
variable {X : Cx} {B : Bs} {E : XS} {a : Expr} {ma : EM} {pos : Pos}
def tLenSetA (K : PySem.W.Frag) (ta : TE) : TE := fun σ H Q => ta σ H fun x H1 => ∃ (l : Addr) (ns : List Int), x = .ref l ∧ SqL K H1 l (ns.map V.int) ∧ ns.length ≤ 4000 ∧ Q (.int ((dedup ns).length : Nat)) H1
theorem pe_lenSetA {ta : TE} {p p2 q : Pos} (hg : Gl X "len") (hm : X.mg "len" = none) (hg2 : Gl X "set") (hm2 : X.mg "set" = none) (ha : PE X a ta) (hc : X.calm = true)
    (na : starEach [a] X.env = (false, eval a X.env) :: starEach [] X.env) : PE X (.Call (.Name "len" p) [.Call (.Name "set" p2) [a] [] q] [] pos) (tLenSetA X.K ta) := by
  refine ⟨fun pins s σ H Q I h => ?_⟩
  refine Call_ (ld_blt I hg hm PySem.boot_len ?_)
  refine PyProof.Rows.callWith_builtin1 (PyProof.Rows.args_cons ?_ rfl) rfl rfl
  refine Call_ (ld_blt I hg2 hm2 PyProof.Rows.boot_set ?_)
  refine PyProof.Rows.callWith_type1 (PyProof.Rows.args_cons (thn (ha.run pins s σ H _ I h) fun v s1 ⟨x, H1, I1, r1, q1⟩ => PyProof.Rows.args_nil ?_) na) na rfl
  obtain ⟨l, ns, rfl, hq, hl, q1⟩ := q1
  cases r1
  obtain ⟨its, r, pl, hz⟩ := I1.list hq
  have hlen : its.toArray.size = ns.length := by rw [List.size_toArray, ← r.length, List.length_map]
  refine call_set_list (I1.ok.hd hc) pl.isList (ns := ns) (by simpa using r.ints) (by rw [hlen]; unfold scanBound; omega) fun h' tk hS hk => ?_
  refine PyProof.Rows.args_nil ?_
  rw [hlen] at hS
  obtain ⟨o, es, ep, t, ho, hex, hd, _, _, _, hf, hn⟩ := hS
  have I2 : L2.Inv X pins σ H1 { s1 with heap := h', toks := tk } := I1.kept fun b o e => hk b o (Heap.lt_size e) e
  have hle := PyProof.Rows.firstMet_length_le (fun i => ns.getD i 0) ns.length
  exact call_len_set ho hex hd hf (by rw [hn] <;> omega) ⟨.int ((dedup ns).length : Nat), H1, I2.tok _, ⟨_, by rw [hn]; rfl⟩, q1⟩
theorem zlenset {p p2 q : Pos} (hm : X.mg "len" = none) (hm2 : X.mg "set" = none) (ha : PE X a (jE X.K B E ma)) (hg : Gl X "len" := by rfl) (hg2 : Gl X "set" := by rfl) (hc : X.calm = true := by rfl)
    (na : starEach [a] X.env = (false, eval a X.env) :: starEach [] X.env := by rfl) : PE X (.Call (.Name "len" p) [.Call (.Name "set" p2) [a] [] q] [] pos) (jE X.K B E (eLenSet ma)) :=
  PE.imp (pe_lenSetA hg hm hg2 hm2 ha hc na) fun σ H Q ⟨env, S, g, R, p⟩ => J.bind R p fun w v S1 g1 H1 e1 R1 r1 p1 => by
    cases r1 with
    | @lst l us ws s1 r1 =>
      cases q : toInts ws with
      | none => simp only [q] at p1; exact False.elim p1
      | some ns =>
        simp only [q] at p1
        have e := toInts_eq q
        subst e
        have e2 := Reps.ofInts r1
        subst e2
        by_cases hl : ns.length ≤ 4000
        · rw [if_pos hl] at p1
          exact ⟨l, ns, rfl, SqL.of s1.2, hl, p1.ret R1 (.int _)⟩
        · rw [if_neg hl] at p1
          exact False.elim p1
    | _ => exact False.elim p1
theorem m_maxL : CaM X.K B E cMaxL (rMax X.K) := fun env S g σ H xs vs Q R r p => by
  cases r with
  | nil => exact False.elim p
  | cons r1 t =>
    cases t with
    | nil =>
      cases r1 with
      | @lst l us ws s1 r1 =>
        unfold cMaxL at p
        cases q : toInts ws with
        | none => simp only [q] at p; exact False.elim p
        | some ns =>
          simp only [q] at p
          have e := toInts_eq q
          subst e
          have e2 := Reps.ofInts r1
          subst e2
          cases ns with
          | nil => exact False.elim p
          | cons x r =>
            refine ⟨l, x :: r, rfl, SqL.of s1.2, by simp, fun m hm hle => ?_⟩
            have p : Pst (Rep X.K) X.K B E env σ g H (.ok (.int (r.foldl max x)) S) Q := p
            obtain ⟨h1, h2, h3⟩ := foldl_max_ge r x
            have e3 : m = r.foldl max x := by
              have a1 : r.foldl max x ∈ x :: r := by
                rcases h3 with h3 | h3
                · rw [h3]; exact List.mem_cons_self
                · exact List.mem_cons_of_mem _ h3
              have a2 := hle _ a1
              have a3 : m ≤ r.foldl max x := by
                rcases List.mem_cons.mp hm with rfl | hm
                · exact h1
                · exact h2 m hm
              omega
            rw [e3]
            exact p.ret R (.int _)
      | _ => exact False.elim p
    | cons _ _ => cases r1 <;> exact False.elim p
theorem m_minL : CaM X.K B E cMinL (rMin X.K) := fun env S g σ H xs vs Q R r p => by
  cases r with
  | nil => exact False.elim p
  | cons r1 t =>
    cases t with
    | nil =>
      cases r1 with
      | @lst l us ws s1 r1 =>
        unfold cMinL at p
        cases q : toInts ws with
        | none => simp only [q] at p; exact False.elim p
        | some ns =>
          simp only [q] at p
          have e := toInts_eq q
          subst e
          have e2 := Reps.ofInts r1
          subst e2
          cases ns with
          | nil => exact False.elim p
          | cons x r =>
            refine ⟨l, x :: r, rfl, SqL.of s1.2, by simp, fun m hm hle => ?_⟩
            have p : Pst (Rep X.K) X.K B E env σ g H (.ok (.int (r.foldl min x)) S) Q := p
            obtain ⟨h1, h2, h3⟩ := foldl_min_le r x
            have e3 : m = r.foldl min x := by
              have a1 : r.foldl min x ∈ x :: r := by
                rcases h3 with h3 | h3
                · rw [h3]; exact List.mem_cons_self
                · exact List.mem_cons_of_mem _ h3
              have a2 := hle _ a1
              have a3 : r.foldl min x ≤ m := by
                rcases List.mem_cons.mp hm with rfl | hm
                · exact h1
                · exact h2 m hm
              omega
            rw [e3]
            exact p.ret R (.int _)
      | _ => exact False.elim p
    | cons _ _ => cases r1 <;> exact False.elim p
end

/-! ### list(range(a, b)), range(a, b, -1), zip -/
def eLstRg1 (a : EM) : EM := fun env => M.bind (a env) fun w S => match w with
  | .int j => if smI j ∧ j ≤ 1000000 then .ok (.lst (rgW 0 j.toNat)) S else .bad
  | _ => .bad
def eLstRg2 (a b : EM) : EM := fun env => M.bind (a env) fun x => M.bind (b env) fun y S => match x, y with
  | .int i, .int j => if smI i ∧ smI j ∧ j - i ≤ 1000000 then .ok (.lst (rgW i (j - i).toNat)) S else .bad
  | _, _ => .bad
def rgC (lo c : Int) (n : Nat) : List W := (List.range n).map fun i => W.int (lo + (i : Nat) * c)
/-- range(a, b, c): down by one -/
def iRg3 (a b c : EM) : AM := fun env => M.bind (a env) fun x => M.bind (b env) fun y => M.bind (c env) fun z S => match x, y, z with
  | .int i, .int j, .int k => if smI i ∧ smI j ∧ k = -1 then .ok (rgC i (-1) (i - j).toNat) S else .bad
  | _, _, _ => .bad
def zipW : List W → List W → List W
  | x :: xs, y :: ys => .tup [x, y] :: zipW xs ys
  | _, _ => []
def iZip2 (a b : EM) : AM := fun env => M.bind (a env) fun x => M.bind (b env) fun y S => match x, y with
  | .lst xs, .lst ys => .ok (zipW xs ys) S
  | _, _ => .bad
section
variable {X : Cx} {B : Bs} {E : XS} {a b c tg : Expr} {ma mb mc : EM} {pos p0 p1 p2 : Pos}
theorem reps_rg {K : PySem.W.Frag} {g : Gh} {H : Hp} (lo : Int) (n : Nat) : Reps K g H (rgW lo n) ((List.range n).map fun i => V.int (lo + (i : Nat))) := by
  have e1 : rgW lo n = ((List.range n).map fun i => lo + (i : Nat)).map W.int := by unfold rgW; rw [List.map_map]; rfl
  have e2 : ((List.range n).map fun i => V.int (lo + (i : Nat))) = ((List.range n).map fun i => lo + (i : Nat)).map V.int := by rw [List.map_map]; rfl
  rw [e1, e2]
  exact Reps.ints _
theorem zlrg1 (hm : X.mg "list" = none) (hm2 : X.mg "range" = none) (ha : PE X a (jE X.K B E ma)) (hc : X.calm = true := by rfl) (hg : Gl X "list" := by rfl) (hg2 : Gl X "range" := by rfl) (na : starEach [a] X.env = (false, eval a X.env) :: starEach [] X.env := by rfl)
    (nb : starEach [.Call (.Name "range" p2) [a] [] p1] X.env = (false, eval (.Call (.Name "range" p2) [a] [] p1) X.env) :: starEach [] X.env := by rfl) : PE X (.Call (.Name "list" p0) [.Call (.Name "range" p2) [a] [] p1] [] pos) (jE X.K B E (eLstRg1 ma)) :=
  PE.imp (pe_listRg hc hg hm (prg_1 hg2 hm2 ha na) nb) fun σ H Q ⟨env, S, g, R, p⟩ => J.bind R p fun w v S1 g1 H1 e1 R1 r1 p1 => by
    cases r1 with
    | int j =>
      by_cases h : smI j ∧ j ≤ 1000000
      · simp only [if_pos h] at p1
        obtain ⟨⟨h1, h2⟩, h3⟩ := h
        refine ⟨j, rfl, ⟨by decide, by decide, h1, h2, by omega⟩, fun q hq => ?_⟩
        have e := ext_newF (o := .lst (rgV 0 j)) R1 hq
        refine p1 _ _ _ e (R1.newF hq) (.lst ⟨.inr rfl, upd_same⟩ ?_)
        unfold rgV
        rw [Int.sub_zero]
        exact reps_rg 0 j.toNat
      · simp only [if_neg h] at p1
        exact False.elim p1
    | _ => exact False.elim p1
theorem zlrg2 (hm : X.mg "list" = none) (hm2 : X.mg "range" = none) (ha : PE X a (jE X.K B E ma)) (hb : PE X b (jE X.K B E mb)) (hc : X.calm = true := by rfl) (hg : Gl X "list" := by rfl) (hg2 : Gl X "range" := by rfl) (na : starEach [a, b] X.env = (false, eval a X.env) :: starEach [b] X.env := by rfl)
    (nb : starEach [b] X.env = (false, eval b X.env) :: starEach [] X.env := by rfl) (hp : (backTo p1 (starEach [b] X.env)).any (·.1) = false := by rfl)
    (nc : starEach [.Call (.Name "range" p2) [a, b] [] p1] X.env = (false, eval (.Call (.Name "range" p2) [a, b] [] p1) X.env) :: starEach [] X.env := by rfl) : PE X (.Call (.Name "list" p0) [.Call (.Name "range" p2) [a, b] [] p1] [] pos) (jE X.K B E (eLstRg2 ma mb)) :=
  PE.imp (pe_listRg hc hg hm (prg_2 hg2 hm2 ha hb na nb hp) nc) fun σ H Q ⟨env, S, g, R, p⟩ => J.bind R p fun w v S1 g1 H1 e1 R1 r1 p1 => J.bind R1 p1 fun w2 v2 S2 g2 H2 e2 R2 r2 p2 => by
    cases r1 with
    | int i =>
      cases r2 with
      | int j =>
        by_cases h : smI i ∧ smI j ∧ j - i ≤ 1000000
        · simp only [if_pos h] at p2
          obtain ⟨⟨h1, h2⟩, ⟨h3, h4⟩, h5⟩ := h
          refine ⟨i, j, rfl, rfl, ⟨h1, h2, h3, h4, by omega⟩, fun q hq => ?_⟩
          have e := ext_newF (o := .lst (rgV i j)) R2 hq
          exact p2 _ _ _ e (R2.newF hq) (.lst ⟨.inr rfl, upd_same⟩ (reps_rg i (j - i).toNat))
        · simp only [if_neg h] at p2
          exact False.elim p2
      | _ => exact False.elim p2
    | _ => cases r2 <;> exact False.elim p2
theorem it_rangeC {K : PySem.W.Frag} {g : Gh} {H : Hp} {lo c : Int} {n : Nat} : ItOk K g H (rgC lo c n) (Itc lo c n) := fun i g' H' e _ => by
  refine ⟨fun w hw => ?_, fun hl => (by
    have h2 : n ≤ i := by simpa [rgC] using hl
    exact h2)⟩
  unfold rgC at hw
  rw [List.getElem?_map] at hw
  by_cases hi : i < n
  · rw [List.getElem?_range hi] at hw
    cases hw
    refine ⟨hi, fun x H2 y => ?_⟩
    obtain ⟨rfl, rfl⟩ := y
    exact ⟨Same.refl _, .int _⟩
  · rw [List.getElem?_eq_none (by simpa using hi)] at hw
    cases hw
theorem zirg3 (hm : X.mg "range" = none) (ha : PE X a (jE X.K B E ma)) (hb : PE X b (jE X.K B E mb)) (hc : PE X c (jE X.K B E mc)) (hg : Gl X "range" := by rfl)
    (hs : starEach [a, b, c] X.env = (false, eval a X.env) :: starEach [b, c] X.env := by rfl) (hs1 : starEach [b, c] X.env = (false, eval b X.env) :: starEach [c] X.env := by rfl) (hs2 : starEach [c] X.env = (false, eval c X.env) :: starEach [] X.env := by rfl)
    (hpl : (backTo pos (starEach [b, c] X.env)).any (·.1) = false := by rfl) : PI X tg (.Call (.Name "range" p0) [a, b, c] [] pos) (jI X.K B E (iRg3 ma mb mc)) :=
  PI.imp (pi_range3 hg hm (pa_cons ha (pa_cons hb (pa_cons hc pa_nil hs2) hs1) hs) hs hpl) fun σ H Q ⟨env, S, g, R, p⟩ => J.bind R p fun w v S1 g1 H1 e1 R1 r1 p1 => J.bind R1 p1 fun w2 v2 S2 g2 H2 e2 R2 r2 p2 => J.bind R2 p2 fun w3 v3 S3 g3 H3 e3 R3 r3 p3 => by
    cases r1 with
    | int i =>
      cases r2 with
      | int j =>
        cases r3 with
        | int k =>
          by_cases h : smI i ∧ smI j ∧ k = -1
          · simp only [if_pos h] at p3
            obtain ⟨⟨h1, h2⟩, ⟨h3, h4⟩, rfl⟩ := h
            exact ⟨i, j, -1, (i - j).toNat, rfl, RgC.neg h1 h2 h3 h4, p3 _ g3 H3 (Ext.refl g3 H3) R3 it_rangeC⟩
          · simp only [if_neg h] at p3
            exact False.elim p3
        | _ => exact False.elim p3
      | _ => cases r3 <;> exact False.elim p3
    | _ => cases r2 <;> cases r3 <;> exact False.elim p3
theorem zipW_get : ∀ {xs ys : List W} {i : Nat} {w : W}, (zipW xs ys)[i]? = some w → ∃ x y, w = .tup [x, y] ∧ xs[i]? = some x ∧ ys[i]? = some y
  | [], _, _, _, h => by simp [zipW] at h
  | _ :: _, [], _, _, h => by simp [zipW] at h
  | x :: xs, y :: ys, 0, w, h => by
    simp [zipW] at h
    exact ⟨x, y, h.symm, rfl, rfl⟩
  | x :: xs, y :: ys, i + 1, w, h => by
    simp only [zipW, List.getElem?_cons_succ] at h
    obtain ⟨a, b, h1, h2, h3⟩ := zipW_get h
    exact ⟨a, b, h1, by simpa using h2, by simpa using h3⟩
theorem zipW_len : ∀ (xs ys : List W), (zipW xs ys).length = min xs.length ys.length
  | [], _ => by simp [zipW]
  | _ :: _, [] => by simp [zipW]
  | x :: xs, y :: ys => by simp only [zipW, List.length_cons, zipW_len xs ys]; omega
theorem it_zip {K : PySem.W.Frag} {g : Gh} {H : Hp} {xs ys : List W} {vs us : List V} {a b : Addr} (h : LsF g H a vs) (r : Reps K g H xs vs) (h2 : LsF g H b us) (r2 : Reps K g H ys us) : ItOk K g H (zipW xs ys) (Itz K a b) := fun i g' H' e f => by
  have l1 := e.lsf h
  have l2 := e.lsf h2
  have q1 := Reps.ext e r
  have q2 := Reps.ext e r2
  refine ⟨fun w hw => ?_, fun hl => ⟨vs, us, SqL.of l1.2, SqL.of l2.2, ?_⟩⟩
  · obtain ⟨x, y, rfl, hx, hy⟩ := zipW_get hw
    obtain ⟨v, a1, a2⟩ := q1.get hx
    obtain ⟨u, b1, b2⟩ := q2.get hy
    refine ⟨⟨vs, us, v, u, SqL.of l1.2, SqL.of l2.2, a1, b1⟩, fun z H2 yl => ?_⟩
    obtain ⟨T, v', u', rfl, hT, rfl, c1, c2⟩ := yl
    have d1 := c1 vs (SqL.of l1.2)
    have d2 := c2 us (SqL.of l2.2)
    rw [a1] at d1; cases d1
    rw [b1] at d2; cases d2
    have sm := same_upd (o := .tup [v, u]) hT
    have ex : Ext g' H' g' (upd H' T (.tup [v, u])) := ⟨fun x hx => ⟨hx, upd_ne fun z => by
      subst z
      obtain ⟨k, hk⟩ := f x hx
      rw [hT] at hk; cases hk⟩, fun x o hx _ => sm x o hx, fun _ _ hh => hh⟩
    exact ⟨sm, .tup (.inl (.inl upd_same)) (.cons (a2.ext ex) (.cons (b2.ext ex) .nil))⟩
  · rw [zipW_len] at hl
    rw [← r.length, ← r2.length]
    omega
theorem zizip {elts : List Expr} {kk : Nat} {tpos : Pos} (hm : X.mg "zip" = none) (ha : PE X a (jE X.K B E ma)) (hb : PE X b (jE X.K B E mb)) (hg : Gl X "zip" := by rfl) (hs : starEach [a, b] X.env = (false, eval a X.env) :: starEach [b] X.env := by rfl) (hs2 : starEach [b] X.env = (false, eval b X.env) :: starEach [] X.env := by rfl)
    (hpl : (backTo pos (starEach [b] X.env)).any (·.1) = false := by rfl) : PI X (.Tuple elts kk tpos) (.Call (.Name "zip" p0) [a, b] [] pos) (jI X.K B E (iZip2 ma mb)) :=
  PI.imp (pi_zip hg hm (pa_cons ha (pa_cons hb pa_nil hs2) hs) hs hpl) fun σ H Q ⟨env, S, g, R, p⟩ => J.bind R p fun w v S1 g1 H1 e1 R1 r1 p1 => J.bind R1 p1 fun w2 v2 S2 g2 H2 e2 R2 r2 p2 => by
    have r1' := r1.ext e2
    cases r1' with
    | @lst x vs ws s r =>
      cases r2 with
      | @lst y us zs s2 r2 => exact ⟨x, y, vs, us, rfl, SqL.of s.2, SqL.of s2.2, p2 _ g2 H2 (Ext.refl g2 H2) R2 (it_zip s r s2 r2)⟩
      | _ => exact False.elim p2
    | _ => cases r2 <;> exact False.elim p2
end

/-! ### f-strings, partition -/
def fmtW : W → M Str
  | .str y => fun S => if y.length ≤ 1000 then .ok y S else .bad
  | .int i => fun S => if sml i then .ok (toString i) S else .bad
  | _ => fun _ => .bad
def eFmt (a : EM) : EM := fun env => M.bind (a env) fun w => M.bind (fmtW w) fun y => M.ret (.str y)
def joinM : List EM → Str → En → M Str
  | [], acc, _ => M.ret acc
  | a :: r, acc, env => M.bind (a env) fun w S => match w with
    | .str y => if (acc ++ y).length ≤ 1000 then joinM r (acc ++ y) env S else .bad
    | _ => .bad
def eJoin (as : List EM) : EM := fun env => M.bind (joinM as Str.empty env) fun y => M.ret (.str y)
def ePart (a b : EM) : EM := fun env => M.bind (a env) fun x => match x with
  | .str s => M.bind (b env) fun y S => match y with
    | .str t => if (t.length == 0) = false ∧ s.length ≤ 1000 then .ok (.tup [.str (Txt.partition s t).1, .str (Txt.partition s t).2.1, .str (Txt.partition s t).2.2]) S else .bad
    | _ => .bad
  | _ => fun _ => .bad
section
variable {X : Cx} {B : Bs} {E : XS} {a b : Expr} {ma mb : EM} {pos : Pos}
theorem zfmt (ha : PE X a (jE X.K B E ma)) : PE X (.FormattedValue a (-1) none pos) (jE X.K B E (eFmt ma)) :=
  PE.imp (pe_fmt ha) fun σ H Q ⟨env, S, g, R, p⟩ => J.bind R p fun w v S1 g1 H1 e1 R1 r1 p1 => by
    have hz := line_eq
    cases r1 with
    | str y =>
      by_cases h : y.length ≤ 1000
      · unfold M.bind fmtW at p1
        simp only [if_pos h] at p1
        exact .inl ⟨y, rfl, by omega, Pst.ret (v := V.str y) R1 (.str y) p1⟩
      · unfold M.bind fmtW at p1
        simp only [if_neg h] at p1
        exact False.elim p1
    | int i =>
      by_cases h : sml i
      · unfold M.bind fmtW at p1
        simp only [if_pos h] at p1
        exact .inr ⟨i, rfl, sml_log h, Pst.ret (v := V.str _) R1 (.str _) p1⟩
      · unfold M.bind fmtW at p1
        simp only [if_neg h] at p1
        exact False.elim p1
    | _ => exact False.elim p1
inductive ZJ (X : Cx) (B : Bs) (E : XS) : List Expr → List EM → Prop where
  | nil : ZJ X B E [] []
  | cons {e : Expr} {m : EM} {es : List Expr} {ms : List EM} (h : PE X e (jE X.K B E m)) (r : ZJ X B E es ms) : ZJ X B E (e :: es) (m :: ms)
theorem ZJ.pj {es : List Expr} {ms : List EM} (h : ZJ X B E es ms) : PJ X es (ms.map fun m => jE X.K B E m) := by
  induction h with
  | nil => exact .nil
  | cons h r ih => exact .cons h ih
theorem tJs_of {Q : Str → Hp → Prop} : ∀ (ms : List EM) (acc : Str) (env : En) (S : Sto) (g : Gh) (σ : L2.St) (H : Hp), Rel X.K B env S g σ H → Pst (fun _ _ a b => a = b) X.K B E env σ g H (joinM ms acc env S) Q → tJs (ms.map fun m => jE X.K B E m) acc σ H Q
  | [], acc, env, S, g, σ, H, R, p => p.ret R rfl
  | m :: ms, acc, env, S, g, σ, H, R, p => J.bind R p fun w v S1 g1 H1 e1 R1 r1 p1 => by
    have hz := line_eq
    cases r1 with
    | str y =>
      by_cases h : (acc ++ y).length ≤ 1000
      · simp only [if_pos h] at p1
        exact ⟨y, rfl, by omega, tJs_of ms (acc ++ y) env S1 g1 σ H1 R1 p1⟩
      · simp only [if_neg h] at p1
        exact False.elim p1
    | _ => exact False.elim p1
theorem zjoin {v1 v2 : Expr} {rest : List Expr} {ms : List EM} (h : ZJ X B E (v1 :: v2 :: rest) ms) : PE X (.JoinedStr (v1 :: v2 :: rest) pos) (jE X.K B E (eJoin ms)) :=
  PE.imp (pe_joined h.pj) fun σ H Q ⟨env, S, g, R, p⟩ => tJs_of ms Str.empty env S g σ H R (by
    unfold eJoin M.bind at p
    cases q : joinM ms Str.empty env S with
    | ok y S1 =>
      rw [q] at p
      intro v g1 H1 e1 R1 r1
      subst r1
      exact p _ g1 H1 e1 R1 (.str y)
    | exn c S1 => rw [q] at p; exact p
    | bad => rw [q] at p; exact p)
theorem zpart {apos : Pos} (ha : PE X a (jE X.K B E ma)) (hb : PE X b (jE X.K B E mb)) (hs : starEach [b] X.env = [(false, eval b X.env)] := by rfl) (hbase : attributeBase a "partition" X.env (eval a X.env) = eval a X.env := by rfl) (hline : (apos.endLine == pos.line) = true := by rfl) :
    PE X (.Call (.Attribute a "partition" apos) [b] [] pos) (jE X.K B E (ePart ma mb)) :=
  PE.imp (pe_partition ha hb hs hbase hline) fun σ H Q ⟨env, S, g, R, p⟩ => J.bind R p fun w v S1 g1 H1 e1 R1 r1 p1 => by
    have hz := line_eq
    cases r1 with
    | str s =>
      refine ⟨⟨s, rfl⟩, ?_⟩
      refine J.bind R1 p1 fun w2 v2 S2 g2 H2 e2 R2 r2 p2 => ?_
      cases r2 with
      | str t =>
        by_cases h : (t.length == 0) = false ∧ s.length ≤ 1000
        · simp only [if_pos h] at p2
          refine ⟨s, t, rfl, rfl, h.1, by omega, fun q hq => ?_⟩
          exact p2 _ _ _ (ext_laid R2 hq) (R2.laid hq) (.tup (.inl (.inl upd_same)) (.cons (.str _) (.cons (.str _) (.cons (.str _) .nil))))
        · simp only [if_neg h] at p2
          exact False.elim p2
      | _ => exact False.elim p2
    | _ => exact False.elim p1
end
end Zz
end
section
namespace Zz
open PySem PySem.Spec PyProof.Rows L2

/-! ### in a def's body -/
section
variable {P : Program} {w : World} {K : PySem.W.Frag} {mg : Str → Option Value} {base : Heap} {N : List Str} {qual : Str} {scope : Scope} {f : Addr} {cd : Value} {A : Around} {outer : List Env} {s : Shared} {H : Hp} {E : XK}
theorem pasX (σ : L2.St) : PassesAt (L2.CX P w) (cxOf (L2.CX P w) P w K mg base N qual scope f cd A outer s H E) σ (exE E σ) := pasD (takes_of rfl rfl rfl rfl) σ
theorem ownX : PassesOwn (model P w) (cxOf (L2.CX P w) P w K mg base N qual scope f cd A outer s H E).A (cxOf (L2.CX P w) P w K mg base N qual scope f cd A outer s H E).env (cxOf (L2.CX P w) P w K mg base N qual scope f cd A outer s H E).xe :=
  passes_of (X := cxOf (L2.CX P w) P w K mg base N qual scope f cd A outer s H E) rfl
end

/-! ### chains -/
def eChain (f f' : W → W → M W) (a b c : EM) : EM := fun env => M.bind (a env) fun x => M.bind (b env) fun y => M.bind (f x y) fun z => M.bind (isB z) fun k => if k = true then M.bind (c env) fun u => f' y u else M.ret (.bl false)
section
variable {X : Cx} {B : Bs} {E : XS} {a b c : Expr} {ma mb mc : EM} {pos : Pos}
theorem tChain_of {f f' : W → W → M W} {r r' : R2} (hf : OpM X.K B E f r) (hf' : OpM X.K B E f' r') {σ : L2.St} {H : Hp} {Q : VK} (h : jE X.K B E (eChain f f' ma mb mc) σ H Q) : tChain r r' (jE X.K B E ma) (jE X.K B E mb) (jE X.K B E mc) σ H Q := by
  obtain ⟨env, S, g, R, p⟩ := h
  refine J.bind R p fun x v S1 g1 H1 e1 R1 r1 p1 => J.bind R1 p1 fun y u S2 g2 H2 e2 R2 r2 p2 => ?_
  refine hf env S2 g2 σ H2 x y v u _ R2 (r1.ext e2) r2 ?_
  unfold M.bind at p2
  cases q : f x y S2 with
  | bad => simp only [q] at p2; exact p2
  | exn c S3 => simp only [q] at p2; exact p2
  | ok z S3 =>
    simp only [q] at p2
    intro zv g3 H3 e3 R3 r3
    have p3 : Pst (Rep X.K) X.K B E env σ g3 H3 (M.bind (isB z) (fun k => if k = true then M.bind (mc env) fun u => f' y u else M.ret (.bl false)) S3) Q := Pst.later e3 p2
    obtain ⟨k, rfl, p4⟩ := isB_bl (β := Bool) (Rq := RpB) r3 p3
    refine ⟨k, rfl, ?_⟩
    cases k with
    | false => exact p4.ret R3 (.bl false)
    | true => exact J.bind R3 p4 fun u2 v4 S4 g4 H4 e4 R4 r4 p5 => hf' env S4 g4 σ H4 y u2 u v4 Q R4 (r2.ext (e3.trans e4)) r4 p5
theorem zchain {op op' : CmpOp} {f f' : W → W → M W} {r r' : R2} (ho : OpR X (compareOp op) r) (hf : OpM X.K B E f r) (ho' : OpR X (compareOp op') r') (hf' : OpM X.K B E f' r') (ha : PE X a (jE X.K B E ma)) (hb : PE X b (jE X.K B E mb)) (hc : PE X c (jE X.K B E mc))
    (hm : lastMarks [op, op'] [b, c] = false := by with_unfolding_all rfl) : PE X (.Compare a [op, op'] [b, c] pos) (jE X.K B E (eChain f f' ma mb mc)) :=
  PE.imp (pe_chain ho ho' ha hb hc hm) fun _ _ _ h => tChain_of hf hf' h
theorem ztchain {op op' : CmpOp} {f f' : W → W → M W} {r r' : R2} (ho : OpR X (compareOp op) r) (hf : OpM X.K B E f r) (ho' : OpR X (compareOp op') r') (hf' : OpM X.K B E f' r') (ha : PE X a (jE X.K B E ma)) (hb : PE X b (jE X.K B E mb)) (hc : PE X c (jE X.K B E mc))
    (hm : lastMarks [op, op'] [b, c] = false := by with_unfolding_all rfl) : PT X (.Compare a [op, op'] [b, c] pos) (jT X.K B E (tV (eChain f f' ma mb mc))) :=
  PT.imp (pt_chain ho ho' ha hb hc hm) fun _ _ _ h => tTest_of (fun _ q => tChain_of hf hf' q) h
end

/-! ### all, any of a list of bools -/
def toBls : List W → Option (List Bool)
  | [] => some []
  | .bl b :: r => (toBls r).map (b :: ·)
  | _ => none
def cAll : List W → M W
  | [.lst xs] => fun S => match toBls xs with
    | some bs => .ok (.bl (bs.all id)) S
    | none => .bad
  | _ => fun _ => .bad
section
variable {X : Cx} {B : Bs} {E : XS}
theorem toBls_rep {K : PySem.W.Frag} {g : Gh} {H : Hp} : ∀ {ws : List W} {vs : List V} {bs : List Bool}, Reps K g H ws vs → toBls ws = some bs → vs = bs.map V.bl
  | _, _, _, .nil, h => by cases h; rfl
  | _, _, bs, .cons (w := w) (ws := r) r1 t, h => by
    cases r1 with
    | bl b =>
      unfold toBls at h
      cases q : toBls r with
      | none => rw [q] at h; cases h
      | some cs =>
        rw [q] at h
        cases h
        rw [toBls_rep t q]
        rfl
    | _ => cases h
theorem m_all : CaM X.K B E cAll (rAll X.K) := fun env S g σ H xs vs Q R r p => by
  cases r with
  | nil => exact False.elim p
  | cons r1 t =>
    cases t with
    | nil =>
      cases r1 with
      | @lst a us ws s1 r1 =>
        unfold cAll at p
        cases q : toBls ws with
        | none => simp only [q] at p; exact False.elim p
        | some bs =>
          simp only [q] at p
          have e := toBls_rep r1 q
          subst e
          exact ⟨a, bs, rfl, SqL.of s1.2, p.ret R (.bl _)⟩
      | _ => exact False.elim p
    | cons _ _ => cases r1 <;> exact False.elim p
end

/-! ### the module's constants -/
section
variable {X : Cx} {B : Bs} {E : XS} {pos : Pos} {x : Str}
theorem zgint {i : Int} (h : ∃ t, X.mg x = some (.int i t)) (hg : Gl X x := by rfl) (hd : (x == ("__debug__" : Str)) = false := by decide) : PE X (.Name x pos) (jE X.K B E (eC (.int i))) := by
  obtain ⟨t, h⟩ := h
  exact zc (pe_glob (v := .int i) hg h ⟨t, rfl⟩ hd) fun _ _ => .int i
theorem zgstr {i : Str} (h : ∃ t, X.mg x = some (.str i t)) (hg : Gl X x := by rfl) (hd : (x == ("__debug__" : Str)) = false := by decide) : PE X (.Name x pos) (jE X.K B E (eC (.str i))) := by
  obtain ⟨t, h⟩ := h
  exact zc (pe_glob (v := .str i) hg h ⟨t, rfl⟩ hd) fun _ _ => .str i
/-- a tuple of texts -/
def GTup (K : PySem.W.Frag) (mg : Str → Option Value) (x : Str) (ys : List Str) : Prop := ∃ (a : Addr) (o : Obj) (its : Array Value) (n : Nat), mg x = some (.ref a) ∧ K.lookup a = some o ∧ o.cls = .type "tuple" ∧ o.data = .seq its n ∧ its.size ≤ sizeLine ∧ Vals (ys.map V.str) its.toList
theorem reps_strs {K : PySem.W.Frag} {g : Gh} {H : Hp} : ∀ ys : List Str, Reps K g H (ys.map W.str) (ys.map V.str)
  | [] => .nil
  | y :: r => .cons (.str y) (reps_strs r)
theorem zgtup {ys : List Str} (h : GTup X.K X.mg x ys) (hg : Gl X x := by rfl) (hd : (x == ("__debug__" : Str)) = false := by decide) : PE X (.Name x pos) (jE X.K B E (eC (.tup (ys.map W.str)))) := by
  obtain ⟨a, o, its, n, h, h1, h2, h3, h4, h5⟩ := h
  exact zc (pe_glob (v := .ref a) hg h rfl hd) fun g H => .tup (.inr ⟨o, its, n, h1, h2, h3, h4, h5⟩) (reps_strs ys)
end

/-! ### the defs of the text -/
def FF (K : PySem.W.Frag) (x qual : Str) (st : Stmt) : Prop := ∃ (f : Addr) (oc : Value) (od : Option Addr) (kV doc pm : Value) (an : Option Addr) (cdv ct : Value) (osl : Array (Option Value)),
  PySem.W.nsIn K mainGlobals x = some (some (.ref f)) ∧ K.lookup f = some ⟨oc, od, .func (PySem.W.fnOf x qual (defArgs st) (defBody st) (defScope st) .none kV doc pm an cdv ct), osl⟩ ∧ PySem.W.codeIn K cdv qual = true ∧ PySem.W.keepIn K (.ref f) = true
section
variable {P : Program} {w : World} {K : PySem.W.Frag} {mg : Str → Option Value} {base : Heap} {C : Addr} {cv : Nat → Value}
theorem def_mk {x qual : Str} {st : Stmt} {ps : List Str} {k n : Nat} {m : List W → M W} (ff : FF K x qual st) {h : Heap} (X : K.In h) (G : h.Ns mainGlobals mg)
    (ok : ∀ f fd, Fun K x qual st f fd → FnOk P w K mg base (L2.CX P w) k f fd ps (spM K C cv n m))
    (hb : ∀ (kV doc pm : Value) (an : Option Addr) (cdv ct : Value) (us : List Value), us.length = ps.length → bindArgs (PySem.W.fnOf x qual (defArgs st) (defBody st) (defScope st) .none kV doc pm an cdv ct) ⟨us, []⟩ = pure (ps.zip us)) : Def P w K mg base C cv k x n m := by
  obtain ⟨f, oc, od, kV, doc, pm, an, cdv, ct, osl, a, l, c, kp⟩ := ff
  have F := fun_mk l c kp
  exact ⟨f, _, ps, PySem.W.mg_of X G a, kp, F.binds hb, ok f _ F⟩
end
/-- the law's own def at the end -/
theorem law_mk {x y : Str} {st : Stmt} {w : World} {K : PySem.W.Frag} {P : Program} {mg : Str → Option Value} {C : Addr} {cv : Nat → Value} {k : Nat} {m : List W → M W} {h : Heap} {fa : Addr} (ff : FF K x x st) (X : K.In h) (G : h.Ns mainGlobals mg) (hfa : mg x = some (.ref fa))
    (ok : ∀ base : Heap, K.In base → base.Ns mainGlobals mg → ∀ f fd, Fun K x x st f fd → FnOk P w K mg base (L2.CX P w) k f fd [y] (spM K C cv 1 m))
    (hb : ∀ (kV doc pm : Value) (an : Option Addr) (cdv ct : Value) (v : Value) , bindArgs (PySem.W.fnOf x x (defArgs st) (defBody st) (defScope st) .none kV doc pm an cdv ct) ⟨[v], []⟩ = pure [(y, v)]) :
    ∃ fd : FuncData, (∀ (s : Shared) (v : Value), BindsTo s fd ⟨[v], []⟩ [(y, v)]) ∧ ∀ base : Heap, K.In base → base.Ns mainGlobals mg → FnOk P w K mg base (L2.CX P w) k fa fd [y] (spM K C cv 1 m) := by
  obtain ⟨f, oc, od, kV, doc, pm, an, cdv, ct, osl, a, l, c, kp⟩ := ff
  have e := hfa.symm.trans (PySem.W.mg_of X G a)
  cases e
  exact ⟨_, fun s v => .of_eq (hb kV doc pm an cdv ct v), fun base hb hg => ok base hb hg _ _ (fun_mk l c kp)⟩
theorem law_end {K : PySem.W.Frag} {C : Addr} {cv : Nat → Value} {m : List W → M W} (hm : ∀ ns : List Int, ns.length ≤ 63 → ∃ S, m [.scr (ns.map W.int)] [] = .ok (.bl true) S) (H : Hp) (a : Addr) (ns : List Int) (hl : ns.length ≤ 63) (hO : Only H) (hS : SqL K H a (ns.map V.int)) :
    spM K C cv 1 m [.ref a] H (fun v _ => v = .bl true) fun _ _ _ => False := by
  obtain ⟨S, e⟩ := hm ns hl
  have sc : ScrAt K H a (ns.map V.int) := by
    rcases hS with (h | h) | h
    · rcases hO a with z | ⟨o, xs, z⟩
      · rw [h] at z; cases z
      · rw [h] at z; cases z
    · exact .inl h
    · exact .inr h
  refine ⟨[.scr (ns.map W.int)], [], ⟨fun _ => False, []⟩, rfl, .cons (.scr sc (Reps.ints ns)) .nil, ⟨rfl, fun k a o h => ?_, List.nodup_nil, fun a h => ?_⟩, fun a h => h.elim, ?_⟩
  · simp at h
  · simp at h
  · rw [e]
    intro v g' H' _ _ _ r
    cases r
    rfl
theorem cx_end {P : Program} (w : World) (H : Hp) (s : Shared) (e : Value) (s' : Shared) (h : L2.CX P w [] H s (fun _ _ _ => False) e s') : False := by
  obtain ⟨_, _, _, _, _, _, _, _, _, _, _, _, z⟩ := h
  exact z
end Zz
end
section
namespace Zz
open PySem PySem.Spec PyProof.Rows L2

/-! ### facts of the head, with holes -/
section
variable {K : PySem.W.Frag} {mg : Str → Option Value} {h : Heap}
theorem gint_mk {x : Str} {i : Int} {v : Value} {t : Tok} (X : K.In h) (G : h.Ns mainGlobals mg) (a : PySem.W.nsIn K mainGlobals x = some (some v)) (b : v = .int i t) : ∃ t, mg x = some (.int i t) := ⟨t, (PySem.W.mg_of X G a).trans (congrArg some b)⟩
theorem gstr_mk {x : Str} {i : Str} {v : Value} {t : Tok} (X : K.In h) (G : h.Ns mainGlobals mg) (a : PySem.W.nsIn K mainGlobals x = some (some v)) (b : v = .str i t) : ∃ t, mg x = some (.str i t) := ⟨t, (PySem.W.mg_of X G a).trans (congrArg some b)⟩
theorem gtup_mk {x : Str} {ys : List Str} {a : Addr} {o : Obj} {its : Array Value} {n : Nat} (X : K.In h) (G : h.Ns mainGlobals mg) (h1 : PySem.W.nsIn K mainGlobals x = some (some (.ref a))) (h2 : K.lookup a = some o) (h3 : o.cls = .type "tuple") (h4 : o.data = .seq its n) (h5 : its.size ≤ sizeLine) (h6 : Vals (ys.map V.str) its.toList) : GTup K mg x ys :=
  ⟨a, o, its, n, PySem.W.mg_of X G h1, h2, h3, h4, h5, h6⟩
theorem ff_mk {x qual : Str} {st : Stmt} {f : Addr} {oc : Value} {od : Option Addr} {kV doc pm : Value} {an : Option Addr} {cdv ct : Value} {osl : Array (Option Value)}
    (a : PySem.W.nsIn K mainGlobals x = some (some (.ref f))) (l : K.lookup f = some ⟨oc, od, .func (PySem.W.fnOf x qual (defArgs st) (defBody st) (defScope st) .none kV doc pm an cdv ct), osl⟩) (c : PySem.W.codeIn K cdv qual = true) (k : PySem.W.keepIn K (.ref f) = true) : FF K x qual st :=
  ⟨f, oc, od, kV, doc, pm, an, cdv, ct, osl, a, l, c, k⟩
end

/-! ### op= of ints -/
def opAddI : W → W → M W
  | .int i, .int j => M.ret (.int (i + j))
  | _, _ => fun _ => .bad
def opMulI : W → W → M W
  | .int i, .int j => fun S => if s64 i ∨ s64 j then .ok (.int (i * j)) S else .bad
  | _, _ => fun _ => .bad
section
variable {X : Cx} {B : Bs} {E : XS}
theorem m_addI : OpM X.K B E opAddI (rI0 fun i j => .int (i + j)) := fun env S g σ H x y v u Q R rx ry p => by
  cases rx with
  | int i =>
    cases ry with
    | int j => exact ⟨i, j, rfl, rfl, p.ret R (.int _)⟩
    | _ => exact False.elim p
  | _ => exact False.elim p
theorem m_mulI : OpM X.K B E opMulI (rI CMul fun i j => .int (i * j)) := fun env S g σ H x y v u Q R rx ry p => by
  cases rx with
  | int i =>
    cases ry with
    | int j =>
      unfold opMulI at p
      by_cases h : s64 i ∨ s64 j
      · simp only [if_pos h] at p
        exact ⟨i, j, rfl, rfl, h, p.ret R (.int _)⟩
      · simp only [if_neg h] at p
        exact False.elim p
    | _ => exact False.elim p
  | _ => exact False.elim p
end

/-! ### a call without arguments -/
section
variable {X : Cx} {B : Bs} {E : XS} {pos : Pos}
theorem zcall0 {k j : Nat} {x : Str} {p : Pos} {m : List W → M W} (D : Def X.prog X.w X.K X.mg X.base B.C B.cv k x 0 m) (hr : Room j X.A) (hx : ∀ σ, PassesAt (L2.CX X.prog X.w) X σ (E σ)) (hkj : k ≤ j := by decide) (hg : Gl X x := by rfl)
    (hdb : (x == ("__debug__" : Str)) = false := by decide) : PE X (.Call (.Name x p) [] [] pos) (jE X.K B E (eCall m aNil)) := by
  obtain ⟨f, fd, ps, hm, hk, hb, F⟩ := D.ex
  have h0 : PE X (.Call (.Name x p) [] [] pos) (tCallS (spM X.K B.C B.cv 0 m) E tNil) := by
    refine ⟨fun pins s σ H Q I h => ?_⟩
    refine wpAny_Call_Name_kw (ld_glob I hg hm ?_ hdb)
    exact PySem.W.callWith_K0 I.kIn hk (run_fnS (us := []) F (hr.mono hkj) hb (hx σ) I .nil h)
  refine PE.imp h0 fun σ H Q ⟨env, S, g, R, p⟩ => ?_
  refine ⟨[], S, g, rfl, .nil, R.sto, R.fok, ?_⟩
  have p' : Pst (Rep X.K) X.K B E env σ g H (m [] S) Q := p
  cases q2 : m [] S with
  | ok w S2 =>
    rw [q2] at p'
    exact fun v g' H' af st fo rv => p' v g' H' (af.ext R.sto R.fok) (R.after af st fo) rv
  | exn c S2 =>
    rw [q2] at p'
    exact fun g' H' af st fo => p' g' H' (af.ext R.sto R.fok) (R.after af st fo)
  | bad =>
    rw [q2] at p'
    exact p'
end

/-! ### a, b = x, [] and a, b = [], [] -/
def sParO (i j : Nat) (a : EM) (bs : AM) : SM := sBind a fun w => sBind bs fun zs env S => if zs.length ≤ 1000 then .nx ((env.set i (.val w)).set j (.own zs)) S else .bad
def sParOO (i j : Nat) : SM := fun env S => .nx ((env.set i (.own [])).set j (.own [])) S
section
variable {X : Cx} {B : Bs} {E : XS} {ma : EM} {aa am : AM} {pos : Pos}
theorem sparO (i j : Nat) {x y : Str} {a : Expr} {es : List Expr} {px py pt p2 : Pos} {kt k2 pt2} (hN : X.N.Nodup) (ha : PE X a (jE X.K B E ma)) (hb : PA X es (jA X.K B E am)) (hi : X.N[i]? = some x := by rfl) (hj : X.N[j]? = some y := by rfl) (hij : i ≠ j := by decide)
    (hx : X.env.scope.names.lookup x = some .local := by rfl) (hy : X.env.scope.names.lookup y = some .local := by rfl) (hc : X.calm = true := by rfl)
    (h0 : starEach [a, .List es p2] X.env = (false, eval a X.env) :: starEach [.List es p2] X.env := by rfl) (h1 : starEach [.List es p2] X.env = (false, eval (.List es p2) X.env) :: starEach [] X.env := by rfl)
    (hw : swappedStores [.Tuple [.Name x px, .Name y py] kt pt] (.Tuple [a, .List es p2] k2 pt2) X.env = pure (some [x, y]) := by rfl)
    (hs : swapsWithSole [.Tuple [.Name x px, .Name y py] kt pt] (.Tuple [a, .List es p2] k2 pt2) pos.line X.env = pure false := by rfl) :
    PS X (.Assign [.Tuple [.Name x px, .Name y py] kt pt] (.Tuple [a, .List es p2] k2 pt2) pos) (jS X.K B E (sParO i j ma am)) :=
  PS.imp (ps_par hc hN hi hj hij hx hy (pa_cons ha (pa_cons (pe_lst hb) pa_nil h1) h0) hw hs) fun D σ H ⟨env, S, g, R, p⟩ => J.sbind R p fun w v S1 g1 H1 e1 R1 r1 p1 => J.sbind R1 p1 fun zs vs S2 g2 H2 e2 R2 r2 p2 => by
    by_cases hl : zs.length ≤ 1000
    · rw [if_pos hl] at p2
      refine ⟨by rw [← r2.length]; exact len1000 hl, fun q hq => ⟨v, .ref q, rfl, ?_⟩⟩
      have R3 := R2.set (i := i) (r1.ext e2)
      exact p2 _ g2 _ (ext_laid R2 hq) (R3.newOwn hq r2)
    · rw [if_neg hl] at p2
      exact False.elim p2
theorem sparOO (i j : Nat) {x y : Str} {px py pt p1 p2 : Pos} {kt k2 pt2} (hN : X.N.Nodup) (hi : X.N[i]? = some x := by rfl) (hj : X.N[j]? = some y := by rfl) (hij : i ≠ j := by decide)
    (hx : X.env.scope.names.lookup x = some .local := by rfl) (hy : X.env.scope.names.lookup y = some .local := by rfl) (hc : X.calm = true := by rfl)
    (h0 : starEach [.List [] p1, .List [] p2] X.env = (false, eval (.List [] p1) X.env) :: starEach [.List [] p2] X.env := by rfl) (h1 : starEach [.List [] p2] X.env = (false, eval (.List [] p2) X.env) :: starEach [] X.env := by rfl)
    (hw : swappedStores [.Tuple [.Name x px, .Name y py] kt pt] (.Tuple [.List [] p1, .List [] p2] k2 pt2) X.env = pure (some [x, y]) := by rfl)
    (hs : swapsWithSole [.Tuple [.Name x px, .Name y py] kt pt] (.Tuple [.List [] p1, .List [] p2] k2 pt2) pos.line X.env = pure false := by rfl) :
    PS X (.Assign [.Tuple [.Name x px, .Name y py] kt pt] (.Tuple [.List [] p1, .List [] p2] k2 pt2) pos) (jS X.K B E (sParOO i j)) :=
  PS.imp (ps_par hc hN hi hj hij hx hy (pa_cons (pe_lst pa_nil) (pa_cons (pe_lst pa_nil) pa_nil h1) h0) hw hs) fun D σ H ⟨env, S, g, R, p⟩ => by
    refine ⟨Nat.zero_le _, fun q hq => ⟨Nat.zero_le _, fun q2 hq2 => ⟨.ref q, .ref q2, rfl, ?_⟩⟩⟩
    have R1 := R.newOwn (i := i) (vs := []) (ws := []) hq .nil
    have R2 := R1.newOwn (i := j) (vs := []) (ws := []) hq2 .nil
    exact p _ g _ ((ext_laid R hq).trans (ext_laid R1 hq2)) R2
end
end Zz
end
section
namespace Zz
open PySem PySem.Spec PyProof.Rows L2

/-! ### raise X("..") -/
def cOf (K : PySem.W.Frag) : Addr := match PySem.W.nsIn K mainGlobals "Reader" with
  | some (some (.ref a)) => a
  | _ => 0
abbrev spL (K : PySem.W.Frag) (m : List W → M W) : Sp := spM K (cOf K) (cvOf K) 1 m
def XF (K : PySem.W.Frag) (mg : Str → Option Value) (cv : Nat → Value) (c : Nat) (x : Str) : Prop := ∃ C : Addr, cv c = .ref C ∧ mg x = some (.ref C) ∧
  PySem.W.excIn K C [.type "ValueError", .type "Exception", .type "BaseException", .type "object"] "ValueError.__new__" = true ∧ PySem.W.keepIn K (.ref C) = true ∧ PySem.W.subIn K (.ref C) (.type "BaseException") = some true ∧ PySem.W.typeIn K (.ref C) = some (.type "type")
theorem xf_mk {K : PySem.W.Frag} {mg : Str → Option Value} {h : Heap} {x : Str} {c : Nat} {C : Addr} (X : K.In h) (G : h.Ns mainGlobals mg) (hx : excNames.getD c "" = x) (a : PySem.W.nsIn K mainGlobals x = some (some (.ref C)))
    (q : PySem.W.excIn K C [.type "ValueError", .type "Exception", .type "BaseException", .type "object"] "ValueError.__new__" = true) (k : PySem.W.keepIn K (.ref C) = true) (b : PySem.W.subIn K (.ref C) (.type "BaseException") = some true) (t : PySem.W.typeIn K (.ref C) = some (.type "type")) : XF K mg (cvOf K) c x := by
  refine ⟨C, ?_, PySem.W.mg_of X G a, q, k, b, t⟩
  unfold cvOf
  rw [hx, a]
def sRaise (c : Nat) : SM := fun env S => .exn c env S
section
variable {X : Cx} {B : Bs} {E : XS}
theorem zraise {c : Nat} {x m : Str} {j : Nat} {p p2 pos pos' : Pos} (xf : XF X.K X.mg B.cv c x) (tk : Takes X (fun cls d σ H => E σ cls d H)) (hg : Gl X x := by rfl) (hdb : (x == ("__debug__" : Str)) = false := by decide) (hc : X.calm = true := by rfl) :
    PS X (.Raise (some (.Call (.Name x p) [.Constant (.str m) j p2] [] pos)) none pos') (jS X.K B E (sRaise c)) := by
  obtain ⟨C, e, g, q, k, b, t⟩ := xf
  exact PS.imp (ps_raise hc tk (pmk_own PySem.F.excBase_ValueError q g k (raises_own b t) hg hdb)) fun D σ H ⟨env, S, g, R, p⟩ => by
    have p' := p σ g H (Ext.refl g H) R
    rw [e] at p'
    exact p'
end
section
variable {P : Program} {w : World} {K : PySem.W.Frag} {mg : Str → Option Value} {base : Heap} {N : List Str} {qual : Str} {scope : Scope} {f : Addr} {cd : Value} {A : Around} {outer : List Env} {s : Shared} {H : Hp} {E : XK}
theorem takX : Takes (cxOf (L2.CX P w) P w K mg base N qual scope f cd A outer s H E) (fun cls d σ H => exE E σ cls d H) := takes_of rfl rfl rfl rfl
end
end Zz
end
section
namespace Zz
open PySem PySem.Spec PyProof.Rows L2

/-! ### designated objects of any kind -/
section
variable {K : PySem.W.Frag} {B : Bs} {env : En} {S S' : Sto} {g g' : Gh} {σ : L2.St} {H H' : Hp}
/-- a new designated object -/
theorem Rel.newOb (r : Rel K B env S g σ H) {p : Addr} {o : HO} {ob : OB} (h : H p = none) (q : ObR K B.C ⟨g.F, g.ob ++ [p]⟩ (upd H p o) p ob) :
    Ext g H ⟨g.F, g.ob ++ [p]⟩ (upd H p o) ∧ Rel K B env (S ++ [ob]) ⟨g.F, g.ob ++ [p]⟩ σ (upd H p o) := by
  obtain ⟨f1, f2, f3⟩ := r.fresh h
  have hob : ∀ (k : Nat) (a : Addr), g.ob[k]? = some a → (g.ob ++ [p])[k]? = some a := fun k a e => by
    rw [List.getElem?_append_left (List.getElem?_eq_some_iff.mp e).1]
    exact e
  have e : Ext g H ⟨g.F, g.ob ++ [p]⟩ (upd H p o) := ⟨(ext_laid (o := o) r h).F, (ext_laid (o := o) r h).P, hob⟩
  have sm : Same H (upd H p o) := same_upd h
  refine ⟨e, ⟨fun b o' x y => sm b o' (r.aft.keep b o' x y), r.aft.F, r.aft.F', ?_⟩, ⟨by simp [r.sto.len], fun j a u e1 e2 => ?_, ?_, fun a ha z => ?_⟩, fun a x => (r.fok.same sm) a x, r.sl.len, fun j u e1 => ?_, fun j us' e1 => ?_, r.sl.dist⟩
  · obtain ⟨r1, e1, n1⟩ := r.aft.ob
    refine ⟨r1 ++ [p], by rw [e1, List.append_assoc], fun a ha => ?_⟩
    rcases List.mem_append.mp ha with z | z
    · exact n1 a z
    · rw [List.mem_singleton.mp z]; exact f1
  · by_cases hj : j < g.ob.length
    · rw [List.getElem?_append_left hj] at e1
      rw [List.getElem?_append_left (by rw [← r.sto.len]; exact hj)] at e2
      exact ObR.ext e (fun u q => sm _ u q) (fun dx q => sm _ _ q) (r.sto.at_ j a u e1 e2)
    · rw [List.getElem?_append_right (Nat.le_of_not_lt hj)] at e1
      rw [List.getElem?_append_right (by rw [← r.sto.len]; exact Nat.le_of_not_lt hj)] at e2
      have hj2 : j - g.ob.length = 0 := by
        have := (List.getElem?_eq_some_iff.mp e1).1
        simp at this
        exact this
      rw [hj2] at e1
      rw [← r.sto.len, hj2] at e2
      cases e1
      cases e2
      exact q
  · exact List.nodup_append.mpr ⟨r.sto.nd, by simp, fun a ha b hb z => by rw [List.mem_singleton.mp hb] at z; exact f3 (z ▸ ha)⟩
  · rcases List.mem_append.mp ha with y | y
    · exact r.sto.nF a y z
    · rw [List.mem_singleton.mp y] at z; exact f2 z
  · obtain ⟨v, p1, p2⟩ := r.sl.val j u e1
    exact ⟨v, p1, Rep.ext e p2⟩
  · obtain ⟨x, ys, p1, p2, p3, p4, p5, p6⟩ := r.sl.own j us' e1
    refine ⟨x, ys, p1, sm _ _ p2, Reps.ext e p3, p4, fun z => ?_, p6⟩
    rcases List.mem_append.mp z with y | y
    · exact p5 y
    · rw [List.mem_singleton.mp y] at p2; rw [h] at p2; cases p2
/-- a designated object is changed -/
theorem Rel.obUpd (r : Rel K B env S g σ H) {k : Nat} {p : Addr} {o o' : HO} {ob ob' : OB} (hk : g.ob[k]? = some p) (hS : S[k]? = some ob) (hp : H p = some o) (nP' : ¬ Pers o) (nw : ∀ x, o ≠ .own x)
    (new : Ext g H g (upd H p o') → ObR K B.C g (upd H p o') p ob') :
    Ext g H g (upd H p o') ∧ Rel K B env (S.set k ob') g σ (upd H p o') := by
  have hm : p ∈ g.ob := List.mem_of_getElem? hk
  have nP : ∀ a, a ≠ p → upd H p o' a = H a := fun a h => upd_ne h
  have e : Ext g H g (upd H p o') := ⟨fun a h => ⟨h, nP a fun z => r.sto.nF p hm (z ▸ h)⟩, fun a u h z => by
    rw [nP a fun y => by subst y; rw [hp] at h; cases h; exact nP' z]
    exact h, fun _ _ h => h⟩
  refine ⟨e, ⟨fun b u h hb => ?_, r.aft.F, r.aft.F', r.aft.ob⟩, ⟨by rw [r.sto.len, List.length_set], fun j a u e1 e2 => ?_, r.sto.nd, r.sto.nF⟩, fun a h => ?_, r.sl.len, fun j u e1 => ?_, fun j us' e1 => ?_, r.sl.dist⟩
  · rw [nP b fun z => ?_]
    · exact r.aft.keep b u h hb
    · subst z
      obtain ⟨r1, e1, n1⟩ := r.aft.ob
      rw [e1] at hm
      rcases List.mem_append.mp hm with z | z
      · exact hb z
      · rw [n1 b z] at h; cases h
  · by_cases hj : k = j
    · subst hj
      rw [hk] at e1; cases e1
      rw [List.getElem?_set_self (List.getElem?_eq_some_iff.mp hS).1] at e2
      cases e2
      exact new e
    · rw [List.getElem?_set_ne hj] at e2
      have hne : a ≠ p := fun z => by
        subst z
        have l2 := (List.getElem?_eq_some_iff.mp hk).1
        exact hj ((List.getElem?_inj l2 r.sto.nd).mp (hk.trans e1.symm))
      refine ObR.ext e (fun u q => by rw [nP a hne]; exact q) (fun dx q => ?_) (r.sto.at_ j a u e1 e2)
      rw [nP dx fun z => by subst z; rw [hp] at q; cases q; exact nw _ rfl]
      exact q
  · rw [nP a fun z => r.sto.nF p hm (z ▸ h)]
    exact r.fok a h
  · obtain ⟨v, p1, p2⟩ := r.sl.val j u e1
    exact ⟨v, p1, Rep.ext e p2⟩
  · obtain ⟨x, ys, p1, p2, p3, p4, p5, p6⟩ := r.sl.own j us' e1
    refine ⟨x, ys, p1, ?_, Reps.ext e p3, p4, p5, p6⟩
    rw [nP x fun z => p5 (z ▸ hm)]
    exact p2
end

/-! ### fields -/
theorem lookup_rep {K : PySem.W.Frag} {g : Gh} {H : Hp} {f : Str} {w : W} : ∀ {fs : List (Str × W)} {vf : List (Str × V)}, vf.map (·.1) = fs.map (·.1) → Reps K g H (fs.map (·.2)) (vf.map (·.2)) → fs.lookup f = some w → ∃ v, vf.lookup f = some v ∧ Rep K g H w v
  | [], _, _, _, h => by cases h
  | (x, u) :: fs, [], e, _, _ => by cases e
  | (x, u) :: fs, (y, v) :: vf, e, r, h => by
    simp only [List.map_cons, List.cons.injEq] at e
    obtain ⟨e1, e2⟩ := e
    subst e1
    cases r with
    | cons r1 r2 =>
      rw [List.lookup_cons] at h ⊢
      cases q : f == y with
      | true =>
        rw [q] at h
        cases h
        exact ⟨v, rfl, r1⟩
      | false =>
        rw [q] at h
        exact lookup_rep e2 r2 h
theorem lookup_none {f : Str} : ∀ {fs : List (Str × W)} {vf : List (Str × V)}, vf.map (·.1) = fs.map (·.1) → fs.lookup f = none → vf.lookup f = none
  | [], [], _, _ => rfl
  | [], _ :: _, e, _ => by cases e
  | (x, u) :: fs, [], e, _ => rfl
  | (x, u) :: fs, (y, v) :: vf, e, h => by
    simp only [List.map_cons, List.cons.injEq] at e
    obtain ⟨e1, e2⟩ := e
    subst e1
    rw [List.lookup_cons] at h ⊢
    cases q : f == y with
    | true => rw [q] at h; cases h
    | false =>
      rw [q] at h
      exact lookup_none e2 h
def putW (f : Str) (w : W) : List (Str × W) → List (Str × W)
  | [] => [(f, w)]
  | (g, x) :: r => if g = f then (g, w) :: r else (g, x) :: putW f w r
theorem put_rep {K : PySem.W.Frag} {g : Gh} {H : Hp} {f : Str} {w : W} {v : V} (rw_ : Rep K g H w v) : ∀ {fs : List (Str × W)} {vf : List (Str × V)}, vf.map (·.1) = fs.map (·.1) → Reps K g H (fs.map (·.2)) (vf.map (·.2)) →
    (putF f v vf).map (·.1) = (putW f w fs).map (·.1) ∧ Reps K g H ((putW f w fs).map (·.2)) ((putF f v vf).map (·.2))
  | [], [], _, _ => ⟨rfl, .cons rw_ .nil⟩
  | [], _ :: _, e, _ => by cases e
  | (x, u) :: fs, [], e, _ => by cases e
  | (x, u) :: fs, (y, z) :: vf, e, r => by
    simp only [List.map_cons, List.cons.injEq] at e
    obtain ⟨e1, e2⟩ := e
    subst e1
    cases r with
    | cons r1 r2 =>
      unfold putF putW
      by_cases q : y = f
      · rw [if_pos q, if_pos q]
        exact ⟨by simp [e2], .cons rw_ r2⟩
      · rw [if_neg q, if_neg q]
        obtain ⟨h1, h2⟩ := put_rep rw_ e2 r2
        exact ⟨by simp [h1], .cons r1 h2⟩
def eFld (f : Str) (o : EM) : EM := fun env => M.bind (o env) fun x S => match x with
  | .obj k => match S[k]? with
    | some (.ins fs) => ofOpt (fs.lookup f) S
    | _ => .bad
  | _ => .bad
/-- o.f = a -/
def sFldS (f : Str) (o a : EM) : SM := sBind a fun w => sBind o fun x env S => match x with
  | .obj k => match S[k]? with
    | some (.ins fs) => if fs.length < 1000 then .nx env (S.set k (.ins (putW f w fs))) else .bad
    | _ => .bad
  | _ => .bad
section
variable {X : Cx} {B : Bs} {E : XS} {o e : Expr} {f : Str} {mo me : EM} {pos pos' : Pos}
theorem zfld (hC : Cls X.K B.C) (hf : NoAttr X.K B.C f) (ho : PE X o (jE X.K B E mo)) (hb : attributeBase o f X.env (eval o X.env) = eval o X.env := by rfl) : PE X (.Attribute o f pos) (jE X.K B E (eFld f mo)) :=
  PE.imp (pe_fld ho hb) fun σ H Q ⟨env, S, g, R, p⟩ => J.bind R p fun x v S1 g1 H1 e1 R1 r1 p1 => by
    cases r1 with
    | @obj a k hk =>
      cases q : S1[k]? with
      | none => simp only [q] at p1; exact False.elim p1
      | some u =>
        cases u with
        | lst ws => simp only [q] at p1; exact False.elim p1
        | ins fs =>
          simp only [q] at p1
          obtain ⟨dx, vf, h1, h2, h3, h4⟩ := R1.sto.at_ k a _ hk q
          obtain ⟨w, e, p1⟩ := ofOpt_ok p1
          obtain ⟨z, h5, h6⟩ := lookup_rep h3 h4 e
          exact ⟨a, B.C, dx, vf, z, rfl, h1, hC, hf, h5, p1.ret R1 h6⟩
    | _ => exact False.elim p1
theorem sflds (hC : Cls X.K B.C) (hf : NoAttr X.K B.C f) (ho : PE X o (jE X.K B E mo)) (he : PE X e (jE X.K B E me)) (hs : swapsWith e (some (.Attribute o f pos')) pos.line X.env = pure false := by rfl) :
    PS X (.Assign [.Attribute o f pos'] e pos) (jS X.K B E (sFldS f mo me)) :=
  PS.imp (ps_fld ho he hs) fun D σ H ⟨env, S, g, R, p⟩ => J.sbind R p fun w v S1 g1 H1 e1 R1 r1 p1 => J.sbind R1 p1 fun x u S2 g2 H2 e2 R2 r2 p2 => by
    cases r2 with
    | @obj a k hk =>
      cases q : S2[k]? with
      | none => simp only [q] at p2; exact False.elim p2
      | some y =>
        cases y with
        | lst ws => simp only [q] at p2; exact False.elim p2
        | ins fs =>
          simp only [q] at p2
          by_cases hl : fs.length < 1000
          · rw [if_pos hl] at p2
            obtain ⟨dx, vf, h1, h2, h3, h4⟩ := R2.sto.at_ k a _ hk q
            have hlen : vf.length = fs.length := by
              have := congrArg List.length h3
              simpa using this
            obtain ⟨k1, k2⟩ := put_rep (f := f) (r1.ext e2) h3 h4
            have hdx : dx ≠ a := fun z => by subst z; rw [h1] at h2; cases h2
            obtain ⟨x1, x2⟩ := R2.obUpd (o' := .ins B.C dx (putF f v vf)) (ob' := .ins (putW f w fs)) hk q h1 (fun z => z) (fun _ z => by cases z) (fun e => ⟨dx, putF f v vf, upd_same, by rw [upd_ne hdx]; exact h2, k1, Reps.ext e k2⟩)
            exact ⟨a, B.C, dx, vf, rfl, h1, hC, hf, by rw [hlen]; exact hl, p2 σ g2 _ x1 x2⟩
          · rw [if_neg hl] at p2
            exact False.elim p2
    | _ => exact False.elim p2
end

/-! ### a new instance; methods -/
/-- C(a, ..) by the mirror of __init__ -/
def eMake (m : List W → M W) (a : AM) : EM := fun env => M.bind (a env) fun xs S => match m (.obj S.length :: xs) (S ++ [.ins []]) with
  | .ok .non S' => .ok (.obj S.length) S'
  | .exn c S' => .exn c S'
  | _ => .bad
/-- the method n of x is its class's -/
def rcv {α : Type} (n : Str) (x : W) (S : Sto) (k : Zz.R α) : Zz.R α := match x with
  | .obj j => match S[j]? with
    | some (.ins fs) => if (fs.lookup n).isNone then k else .bad
    | _ => .bad
  | _ => .bad
/-- o.m(a, ..) -/
def eMeth (n : Str) (m : List W → M W) (o : EM) (a : AM) : EM := fun env => M.bind (o env) fun x S => rcv n x S (M.bind (a env) (fun xs => m (x :: xs)) S)
structure MDef (P : Program) (w : World) (K : PySem.W.Frag) (mg : Str → Option Value) (base : Heap) (C : Addr) (cv : Nat → Value) (k : Nat) (x : Str) (n : Nat) (m : List W → M W) : Prop where
  ex : ∃ f fd ps, Meth K C x f ∧ Binds K fd ps [] ∧ FnOk P w K mg base (L2.CX P w) k f fd ps (spM K C cv n m)
structure IDef (P : Program) (w : World) (K : PySem.W.Frag) (mg : Str → Option Value) (base : Heap) (C : Addr) (cv : Nat → Value) (k : Nat) (n : Nat) (m : List W → M W) : Prop where
  ex : ∃ f fd ps, Mk K C f ∧ Binds K fd ps [] ∧ FnOk P w K mg base (L2.CX P w) k f fd ps (spM K C cv n m)
theorem passes_of {X : Cx} {P : Program} {w : World} {E : XK} (h : ∀ σ, PassesAt (L2.CX P w) X σ E) : Passes (L2.CX P w) X E := fun pins σ H s e s' I c => h σ pins H s e s' I c
section
variable {X : Cx} {B : Bs} {pos : Pos}
theorem zmake {E : XK} {k j n : Nat} {x : Str} {p : Pos} {e : Expr} {es : List Expr} {am : AM} {m : List W → M W} (D : IDef X.prog X.w X.K X.mg X.base B.C B.cv k n m) (hm : X.mg x = some (.ref B.C)) (hr : Room j X.A) (hx : ∀ σ, PassesAt (L2.CX X.prog X.w) X σ (exE E σ))
    (ha : PA X (e :: es) (jA X.K B (exE E) am)) (hkj : k + 1 ≤ j := by decide) (hg : Gl X x := by rfl) (hdb : (x == ("__debug__" : Str)) = false := by decide)
    (he : starEach (e :: es) X.env = (false, eval e X.env) :: starEach es X.env := by rfl) (hpl : (backTo pos (starEach es X.env)).any (·.1) = false := by rfl)
    (hn : (e :: es).length + 1 = n := by rfl) (hal : ∀ env S ws S', am env S = .ok ws S' → ws.length + 1 = n) :
    PE X (.Call (.Name x p) (e :: es) [] pos) (jE X.K B (exE E) (eMake m am)) := by
  obtain ⟨f, fd, ps, hM, hb, F⟩ := D.ex
  refine PE.imp (pe_make (dvs := []) (ds := []) hM F (hr.mono hkj) hg hm hb .nil (passes_of hx) ha hdb he hpl) fun σ H Q ⟨env, S, g, R, p⟩ => ?_
  refine ⟨env, S, g, R, ?_⟩
  unfold eMake M.bind at p
  cases q : am env S with
  | ok ws S1 =>
    rw [q] at p
    intro vs g1 H1 e1 R1 r1 x dx hx0 hd0 hne
    rw [List.append_nil]
    have R2 := R1.laid (o := .own x) hd0
    have E2 := ext_laid (o := .own x) R1 hd0
    have hx1 : upd H1 dx (.own x) x = none := by rw [upd_ne hne.symm]; exact hx0
    obtain ⟨E3, R3⟩ := R2.newOb (o := .ins B.C dx []) (ob := .ins []) hx1 ⟨dx, [], upd_same, by rw [upd_ne hne, upd_same], rfl, .nil⟩
    have rob : Rep X.K ⟨g1.F, g1.ob ++ [x]⟩ (upd (upd H1 dx (.own x)) x (.ins B.C dx [])) (.obj S1.length) (.ref x) := by
      refine .obj ?_
      rw [← R1.sto.len]
      simp
    refine ⟨.obj S1.length :: ws, S1 ++ [.ins []], ⟨g1.F, g1.ob ++ [x]⟩, ?_, .cons rob (Reps.ext (E2.trans E3) r1), R3.sto, R3.fok, ?_⟩
    · rw [List.length_cons, ← r1.length]
      exact hal _ _ _ _ q
    simp only at p
    cases q2 : m (.obj S1.length :: ws) (S1 ++ [.ins []]) with
    | ok w S2 =>
      rw [q2] at p
      cases w with
      | non =>
        intro v g' H' af st fo rv
        cases rv
        have R4 := R3.after af st fo
        have E4 := af.ext R3.sto R3.fok
        exact ⟨rfl, p _ g' H' (e1.trans ((E2.trans E3).trans E4)) R4 (rob.ext E4)⟩
      | _ => exact False.elim p
    | exn c S2 =>
      rw [q2] at p
      exact fun g' H' af st fo => p g' H' (e1.trans ((E2.trans E3).trans (af.ext R3.sto R3.fok))) (R3.after af st fo)
    | bad =>
      rw [q2] at p
      exact False.elim p
  | exn c S1 => rw [q] at p; exact p
  | bad => rw [q] at p; exact p
variable {E : XS}
/-- what the receiver is -/
theorem recv_ok {σ : L2.St} {env : En} {S : Sto} {g : Gh} {H : Hp} {Q : VK} {n : Str} {x : W} {v : V} {k : Zz.R W} (R : Rel X.K B env S g σ H) (r : Rep X.K g H x v) (p : Pst (Rep X.K) X.K B E env σ g H (rcv n x S k) Q) :
    ∃ a dx fs, v = .ref a ∧ H a = some (.ins B.C dx fs) ∧ fs.lookup n = none ∧ Pst (Rep X.K) X.K B E env σ g H k Q := by
  unfold rcv at p
  cases r with
  | @obj a j hj =>
    simp only at p
    cases q : S[j]? with
    | none => simp only [q] at p; exact False.elim p
    | some u =>
      cases u with
      | lst ws => simp only [q] at p; exact False.elim p
      | ins fs =>
        simp only [q] at p
        obtain ⟨dx, vf, h1, h2, h3, h4⟩ := R.sto.at_ j a _ hj q
        by_cases hn : (fs.lookup n).isNone = true
        · rw [if_pos hn] at p
          exact ⟨a, dx, vf, rfl, h1, lookup_none h3 (Option.isNone_iff_eq_none.mp hn), p⟩
        · rw [if_neg hn] at p
          exact False.elim p
  | _ => exact False.elim p
/-- what a method's call asks, where what is raised is wished for at the slots -/
def tMethS (C : Addr) (n : Str) (sp : Sp) (E : XS) (ta : TE) (t : TA) : TE := fun σ H Q => ta σ H fun x H1 => ∃ a dx fs, x = .ref a ∧ H1 a = some (.ins C dx fs) ∧ fs.lookup n = none ∧ t σ H1 fun vs H2 => sp (x :: vs) H2 Q (E σ)
theorem pe_methS {C f : Addr} {k : Nat} {fd : FuncData} {ps : List Str} {sp : Sp} {n : Str} {o e : Expr} {es : List Expr} {apos : Pos} {ta : TE} {t : TA} {pl : Sem Bool} (he : PE X o ta) (c : Cls X.K C) (hm : Meth X.K C n f)
    (F : FnOk X.prog X.w X.K X.mg X.base (L2.CX X.prog X.w) k f fd ps sp) (hr : Room k X.A) (hb : Binds X.K fd ps []) (hx : ∀ σ, PassesAt (L2.CX X.prog X.w) X σ (E σ)) (ha : PA X (e :: es) t)
    (hst : starEach (e :: es) X.env = (false, eval e X.env) :: starEach es X.env) (hpl : (backTo pos (starEach es X.env)).any (·.1) = false)
    (ht : eval (.Call (.Attribute o n apos) (e :: es) [] pos) X.env = (do
      let ov ← eval o X.env
      standAt apos.atName
      let (f, first) ← holding [ov] (getMethod ov n pl)
      callWith pos f first (backTo pos (starEach (e :: es) X.env)) (backToKw pos (keywordEach [] X.env)))) :
    PE X (.Call (.Attribute o n apos) (e :: es) [] pos) (tMethS C n sp E ta t) := ⟨fun pins s σ H Q I h => by
  refine PySem.W.methodCall_KW (pl := pl) (thn (he.run pins s σ H _ I h) ?_) ht
  rintro u s1 ⟨x, H1, I1, rx, a, dx, fs, rfl, ea, l, q⟩
  cases rx
  refine getmeth_ok I1 ea c hm l (PySem.W.callWith_K (first := [.ref a]) (h₀ := X.base) I.ok.mod.kin hm.kp (thn (ha.run pos pins s1 σ H1 _ I1 q) ?_) hst hpl)
  rintro us s2 ⟨vs, H2, I2, r, q2⟩
  exact ⟨I2.kIn, run_fnS (us := .ref a :: us) (vs := .ref a :: vs) F hr hb (hx σ) I2 (.cons rfl r) q2⟩⟩
theorem pe_methS0 {C f : Addr} {k : Nat} {fd : FuncData} {ps : List Str} {sp : Sp} {n : Str} {o : Expr} {apos : Pos} {ta : TE} {pl : Sem Bool} (he : PE X o ta) (c : Cls X.K C) (hm : Meth X.K C n f)
    (F : FnOk X.prog X.w X.K X.mg X.base (L2.CX X.prog X.w) k f fd ps sp) (hr : Room k X.A) (hb : Binds X.K fd ps []) (hx : ∀ σ, PassesAt (L2.CX X.prog X.w) X σ (E σ))
    (ht : eval (.Call (.Attribute o n apos) [] [] pos) X.env = (do
      let ov ← eval o X.env
      standAt apos.atName
      let (f, first) ← holding [ov] (getMethod ov n pl)
      callWith pos f first (backTo pos (starEach [] X.env)) (backToKw pos (keywordEach [] X.env)))) :
    PE X (.Call (.Attribute o n apos) [] [] pos) (tMethS C n sp E ta tNil) := ⟨fun pins s σ H Q I h => by
  refine PySem.W.methodCall_KW (pl := pl) (thn (he.run pins s σ H _ I h) ?_) ht
  rintro u s1 ⟨x, H1, I1, rx, a, dx, fs, rfl, ea, l, q⟩
  cases rx
  exact getmeth_ok I1 ea c hm l (PySem.W.callWith_K0 (first := [.ref a]) I1.kIn hm.kp (run_fnS (us := [.ref a]) (vs := [.ref a]) F hr hb (hx σ) I1 (.cons rfl .nil) q))⟩
/-- a call by its mirror -/
theorem spM_of {σ : L2.St} {env : En} {S : Sto} {g : Gh} {H : Hp} {Q : VK} {n : Nat} {m : List W → M W} {ws : List W} {vs : List V} (R : Rel X.K B env S g σ H) (r : Reps X.K g H ws vs) (hl : ws.length = n) (p : Pst (Rep X.K) X.K B E env σ g H (m ws S) Q) :
    spM X.K B.C B.cv n m vs H Q (E σ) := by
  refine ⟨ws, S, g, by rw [← r.length]; exact hl, r, R.sto, R.fok, ?_⟩
  cases q2 : m ws S with
  | ok w S2 =>
    rw [q2] at p
    exact fun v g' H' af st fo rv => p v g' H' (af.ext R.sto R.fok) (R.after af st fo) rv
  | exn c S2 =>
    rw [q2] at p
    exact fun g' H' af st fo => p g' H' (af.ext R.sto R.fok) (R.after af st fo)
  | bad =>
    rw [q2] at p
    exact p
theorem zmeth {k j n : Nat} {x : Str} {o e : Expr} {es : List Expr} {apos : Pos} {mo : EM} {am : AM} {m : List W → M W} {pl : Sem Bool} (D : MDef X.prog X.w X.K X.mg X.base B.C B.cv k x n m) (hC : Cls X.K B.C) (hr : Room j X.A) (hx : ∀ σ, PassesAt (L2.CX X.prog X.w) X σ (E σ))
    (ho : PE X o (jE X.K B E mo)) (ha : PA X (e :: es) (jA X.K B E am)) (hkj : k ≤ j := by decide)
    (hst : starEach (e :: es) X.env = (false, eval e X.env) :: starEach es X.env := by rfl) (hpl : (backTo pos (starEach es X.env)).any (·.1) = false := by rfl)
    (ht : eval (.Call (.Attribute o x apos) (e :: es) [] pos) X.env = (do
      let ov ← eval o X.env
      standAt apos.atName
      let (f, first) ← holding [ov] (getMethod ov x pl)
      callWith pos f first (backTo pos (starEach (e :: es) X.env)) (backToKw pos (keywordEach [] X.env))) := by rfl)
    (hal : ∀ env S ws S', am env S = .ok ws S' → ws.length + 1 = n) :
    PE X (.Call (.Attribute o x apos) (e :: es) [] pos) (jE X.K B E (eMeth x m mo am)) := by
  obtain ⟨f, fd, ps, hM, hb, F⟩ := D.ex
  refine PE.imp (pe_methS (pl := pl) ho hC hM F (hr.mono hkj) hb hx ha hst hpl ht) fun σ H Q ⟨env, S, g, R, p⟩ => J.bind R p fun x v S1 g1 H1 e1 R1 r1 p1 => ?_
  obtain ⟨a, dx, fs, rfl, h1, h2, p2⟩ := recv_ok R1 r1 p1
  refine ⟨a, dx, fs, rfl, h1, h2, env, S1, g1, R1, ?_⟩
  unfold M.bind at p2
  cases q : am env S1 with
  | ok ws S2 =>
    rw [q] at p2
    intro vs g2 H2 e2 R2 r2
    exact spM_of R2 (.cons (r1.ext e2) r2) (hal _ _ _ _ q) (Pst.later e2 p2)
  | exn c S2 => rw [q] at p2; exact p2
  | bad => rw [q] at p2; exact p2
theorem zmeth0 {k j : Nat} {x : Str} {o : Expr} {apos : Pos} {mo : EM} {m : List W → M W} {pl : Sem Bool} (D : MDef X.prog X.w X.K X.mg X.base B.C B.cv k x 1 m) (hC : Cls X.K B.C) (hr : Room j X.A) (hx : ∀ σ, PassesAt (L2.CX X.prog X.w) X σ (E σ))
    (ho : PE X o (jE X.K B E mo)) (hkj : k ≤ j := by decide)
    (ht : eval (.Call (.Attribute o x apos) [] [] pos) X.env = (do
      let ov ← eval o X.env
      standAt apos.atName
      let (f, first) ← holding [ov] (getMethod ov x pl)
      callWith pos f first (backTo pos (starEach [] X.env)) (backToKw pos (keywordEach [] X.env))) := by rfl) :
    PE X (.Call (.Attribute o x apos) [] [] pos) (jE X.K B E (eMeth x m mo aNil)) := by
  obtain ⟨f, fd, ps, hM, hb, F⟩ := D.ex
  refine PE.imp (pe_methS0 (pl := pl) ho hC hM F (hr.mono hkj) hb hx ht) fun σ H Q ⟨env, S, g, R, p⟩ => J.bind R p fun x v S1 g1 H1 e1 R1 r1 p1 => ?_
  obtain ⟨a, dx, fs, rfl, h1, h2, p2⟩ := recv_ok R1 r1 p1
  exact ⟨a, dx, fs, rfl, h1, h2, spM_of R1 (.cons r1 .nil) rfl p2⟩
end

/-! ### lists that are designated: append, pop, == -/
def rcvL {α : Type} (x : W) (S : Sto) (k : Zz.R α) : Zz.R α := match x with
  | .obj j => match S[j]? with
    | some (.lst _) => k
    | _ => .bad
  | _ => .bad
def appO (x w : W) : M W := fun S => match x with
  | .obj k => match S[k]? with
    | some (.lst ws) => if ws.length < 1000000 then .ok .non (S.set k (.lst (ws ++ [w]))) else .bad
    | _ => .bad
  | _ => .bad
def eAppO (o a : EM) : EM := fun env => M.bind (o env) fun x S => rcvL x S (M.bind (a env) (fun w => appO x w) S)
def popO (x : W) : M W := fun S => match x with
  | .obj k => match S[k]? with
    | some (.lst ws) => match ws[ws.length - 1]? with
      | some w => .ok w (S.set k (.lst ws.dropLast))
      | none => .bad
    | _ => .bad
  | _ => .bad
def ePopO (o : EM) : EM := fun env => M.bind (o env) popO
/-- x == y where x is a designated list -/
def opEqO (x y : W) : M W := fun S => match x with
  | .obj k => match S[k]? with
    | some (.lst ws) => if (shs 7 ws && sh 8 y) = true then .ok (.bl (PyData.eqv (.list (dats ws)) (dat y))) S else .bad
    | _ => .bad
  | _ => .bad
theorem Reps.dropLast {K : PySem.W.Frag} {g : Gh} {H : Hp} {ws : List W} {vs : List V} (r : Reps K g H ws vs) : Reps K g H ws.dropLast vs.dropLast := by
  rw [List.dropLast_eq_take, List.dropLast_eq_take, r.length]
  exact r.take _
section
variable {X : Cx} {B : Bs} {E : XS} {o e : Expr} {mo me : EM} {pos apos cpos : Pos}
theorem zappO (ho : PE X o (jE X.K B E mo)) (he : PE X e (jE X.K B E me)) (hbase : attributeBase o "append" X.env (eval o X.env) = eval o X.env := by rfl)
    (hfew : ((backTo cpos (starEach (e :: []) X.env)).all (fun x => !x.1) && (backToKw cpos (keywordEach [] X.env)).all (fun x => x.1.isSome) && decide ((e :: []).length + ([] : List Keyword).length + (if ([] : List Keyword).isEmpty then 0 else 1) < 30)) = true := by rfl)
    (hline : (apos.endLine == cpos.line) = true := by rfl) (hs : starEach (e :: []) X.env = (false, eval e X.env) :: starEach [] X.env := by rfl) (hpl : (backTo cpos (starEach [] X.env)).any (·.1) = false := by rfl) :
    PE X (.Call (.Attribute o "append" apos) [e] [] cpos) (jE X.K B E (eAppO mo me)) :=
  PE.imp (pe_bm PySem.F.plainAttrs_list PySem.F.slot_list_append PySem.F.type_list_append mt_append ho (pa_cons he pa_nil hs) hbase hfew hline hs hpl) fun σ H Q ⟨env, S, g, R, p⟩ => J.bind R p fun x v S1 g1 H1 e1 R1 r1 p1 => by
    unfold rcvL at p1
    cases r1 with
    | @obj a k hk =>
      simp only at p1
      cases q : S1[k]? with
      | none => simp only [q] at p1; exact False.elim p1
      | some u =>
        cases u with
        | ins fs => simp only [q] at p1; exact False.elim p1
        | lst ws =>
          simp only [q] at p1
          obtain ⟨vs, h1, h2⟩ := R1.sto.at_ k a _ hk q
          refine ⟨.inl ⟨rfl, vs, SqL.of h1⟩, J.bind R1 p1 fun w v S2 g2 H2 e2 R2 r2 p2 => ?_⟩
          unfold appO at p2
          have hk2 := e2.ob k a hk
          cases q2 : S2[k]? with
          | none => simp only [q2] at p2; exact False.elim p2
          | some u2 =>
            cases u2 with
            | ins fs => simp only [q2] at p2; exact False.elim p2
            | lst us =>
              simp only [q2] at p2
              obtain ⟨vs2, h3, h4⟩ := R2.sto.at_ k a _ hk2 q2
              by_cases hl : us.length < 1000000
              · rw [if_pos hl] at p2
                obtain ⟨x1, x2⟩ := R2.stoUpd hk2 q2 (h4.append (.cons r2 .nil))
                exact ⟨a, vs2, v, rfl, rfl, h3, by rw [← h4.length, line_eq]; omega, p2 _ g2 _ x1 x2 .non⟩
              · rw [if_neg hl] at p2
                exact False.elim p2
    | _ => exact False.elim p1
theorem zpopO (ho : PE X o (jE X.K B E mo)) (hbase : attributeBase o "pop" X.env (eval o X.env) = eval o X.env := by rfl) (hline : (apos.endLine == cpos.line) = true := by rfl) :
    PE X (.Call (.Attribute o "pop" apos) [] [] cpos) (jE X.K B E (ePopO mo)) :=
  PE.imp (pe_bm0 PySem.F.plainAttrs_list PySem.F.slot_list_pop PySem.F.type_list_pop mt_pop ho hbase hline) fun σ H Q ⟨env, S, g, R, p⟩ => J.bind R p fun x v S1 g1 H1 e1 R1 r1 p1 => by
    unfold popO at p1
    cases r1 with
    | @obj a k hk =>
      simp only at p1
      cases q : S1[k]? with
      | none => simp only [q] at p1; exact False.elim p1
      | some u =>
        cases u with
        | ins fs => simp only [q] at p1; exact False.elim p1
        | lst ws =>
          simp only [q] at p1
          obtain ⟨vs, h1, h2⟩ := R1.sto.at_ k a _ hk q
          cases q3 : ws[ws.length - 1]? with
          | none => simp only [q3] at p1; exact False.elim p1
          | some w =>
            simp only [q3] at p1
            obtain ⟨v, h3, h4⟩ := h2.get q3
            obtain ⟨x1, x2⟩ := R1.stoUpd hk q h2.dropLast
            refine ⟨.inl ⟨rfl, vs, SqL.of h1⟩, a, vs, v, rfl, rfl, h1, by rw [← h2.length]; exact h3, p1 _ g1 _ x1 x2 (h4.ext x1)⟩
    | _ => exact False.elim p1
theorem m_eqO : OpM X.K B E opEqO (rEqD X.K) := fun env S g σ H x y v u Q R rx ry p => by
  unfold opEqO at p
  cases rx with
  | @obj a k hk =>
    simp only at p
    cases q : S[k]? with
    | none => simp only [q] at p; exact False.elim p
    | some z =>
      cases z with
      | ins fs => simp only [q] at p; exact False.elim p
      | lst ws =>
        simp only [q] at p
        obtain ⟨vs, h1, h2⟩ := R.sto.at_ k a _ hk q
        by_cases h : (shs 7 ws && sh 8 y) = true
        · rw [if_pos h] at p
          rw [Bool.and_eq_true] at h
          have hs : sh 8 (.lst ws) = true := by
            show (decide (0 < 8) && shs 7 ws) = true
            rw [h.1]; rfl
          exact ⟨.list (dats ws), _, .lst (SqL.of h1) (Reps.dp h2 h.1), ry.dp h.2, shaped_of (w := .lst ws) hs, shaped_of h.2, p.ret R (.bl _)⟩
        · rw [if_neg h] at p
          exact False.elim p
  | _ => exact False.elim p
end
end Zz
end
section
namespace Zz
open PySem PySem.Spec PyProof.Rows L2

/-! ### the class of the text -/
structure RdF (K : PySem.W.Frag) (mg : Str → Option Value) (C : Addr) : Prop where
  cl : Cls K C
  nNow : NoAttr K C "now"
  nPast : NoAttr K C "past"
  mgC : mg "Reader" = some (.ref C)
  makes : PySem.W.makesIn K C = true
  kp : PySem.W.keepIn K (.ref C) = true
def MF (K : PySem.W.Frag) (C : Addr) (x qual : Str) (st : Stmt) : Prop := ∃ (f : Addr) (oc : Value) (od : Option Addr) (kV doc pm : Value) (an : Option Addr) (cdv ct : Value) (osl : Array (Option Value)),
  PySem.W.findIn K (.ref C) x = some (some (.ref f)) ∧ PySem.W.isFn K (.ref f) = true ∧ K.lookup f = some ⟨oc, od, .func (PySem.W.fnOf x qual (defArgs st) (defBody st) (defScope st) .none kV doc pm an cdv ct), osl⟩ ∧ PySem.W.codeIn K cdv qual = true ∧ PySem.W.keepIn K (.ref f) = true
section
variable {K : PySem.W.Frag} {mg : Str → Option Value} {h : Heap}
theorem cOf_eq {C : Addr} (a : PySem.W.nsIn K mainGlobals "Reader" = some (some (.ref C))) : cOf K = C := by
  unfold cOf
  rw [a]
theorem rdf_mk {C : Addr} (X : K.In h) (G : h.Ns mainGlobals mg) (a : PySem.W.nsIn K mainGlobals "Reader" = some (some (.ref C))) (pg : PySem.W.plainGet K C Str.empty = true) (hd : PySem.W.hasDictIn K C = true) (po : PySem.W.plainOver K C = true)
    (sa : PySem.W.findIn K (.ref C) "__setattr__" = some (some (.builtin "object.__setattr__"))) (n1 : PySem.W.findIn K (.ref C) "now" = some none) (n2 : PySem.W.findIn K (.ref C) "past" = some none) (mk : PySem.W.makesIn K C = true) (kp : PySem.W.keepIn K (.ref C) = true) : RdF K mg (cOf K) := by
  rw [cOf_eq a]
  exact ⟨⟨pg, hd, po, sa⟩, n1, n2, PySem.W.mg_of X G a, mk, kp⟩
theorem mf_mk {C : Addr} {x qual : Str} {st : Stmt} {f : Addr} {oc : Value} {od : Option Addr} {kV doc pm : Value} {an : Option Addr} {cdv ct : Value} {osl : Array (Option Value)} (a : PySem.W.nsIn K mainGlobals "Reader" = some (some (.ref C)))
    (m : PySem.W.findIn K (.ref C) x = some (some (.ref f))) (i : PySem.W.isFn K (.ref f) = true) (l : K.lookup f = some ⟨oc, od, .func (PySem.W.fnOf x qual (defArgs st) (defBody st) (defScope st) .none kV doc pm an cdv ct), osl⟩) (c : PySem.W.codeIn K cdv qual = true) (k : PySem.W.keepIn K (.ref f) = true) : MF K (cOf K) x qual st := by
  rw [cOf_eq a]
  exact ⟨f, oc, od, kV, doc, pm, an, cdv, ct, osl, m, i, l, c, k⟩
end
section
variable {P : Program} {w : World} {K : PySem.W.Frag} {mg : Str → Option Value} {base : Heap} {C : Addr} {cv : Nat → Value}
theorem mdef_mk {x qual : Str} {st : Stmt} {ps : List Str} {k n : Nat} {m : List W → M W} (ff : MF K C x qual st)
    (ok : ∀ f fd, Fun K x qual st f fd → FnOk P w K mg base (L2.CX P w) k f fd ps (spM K C cv n m))
    (hb : ∀ (kV doc pm : Value) (an : Option Addr) (cdv ct : Value) (us : List Value), us.length = ps.length → bindArgs (PySem.W.fnOf x qual (defArgs st) (defBody st) (defScope st) .none kV doc pm an cdv ct) ⟨us, []⟩ = pure (ps.zip us)) : MDef P w K mg base C cv k x n m := by
  obtain ⟨f, oc, od, kV, doc, pm, an, cdv, ct, osl, a, i, l, c, kp⟩ := ff
  have F := fun_mk l c kp
  exact ⟨f, _, ps, ⟨a, i, kp⟩, F.binds hb, ok f _ F⟩
theorem idef_mk {qual : Str} {st : Stmt} {ps : List Str} {k n : Nat} {m : List W → M W} (rd : RdF K mg C) (ff : MF K C "__init__" qual st)
    (ok : ∀ f fd, Fun K "__init__" qual st f fd → FnOk P w K mg base (L2.CX P w) k f fd ps (spM K C cv n m))
    (hb : ∀ (kV doc pm : Value) (an : Option Addr) (cdv ct : Value) (us : List Value), us.length = ps.length → bindArgs (PySem.W.fnOf "__init__" qual (defArgs st) (defBody st) (defScope st) .none kV doc pm an cdv ct) ⟨us, []⟩ = pure (ps.zip us)) : IDef P w K mg base C cv k n m := by
  obtain ⟨f, oc, od, kV, doc, pm, an, cdv, ct, osl, a, i, l, c, kp⟩ := ff
  have F := fun_mk l c kp
  exact ⟨f, _, ps, ⟨rd.makes, a, i, rd.kp⟩, F.binds hb, ok f _ F⟩
end
end Zz
end
section
namespace Zz
open PySem PySem.Spec PyProof.Rows L2

/-! ### a caught exception stays as a tracked object -/
section
variable {X : Cx} {pins : List (Addr × Obj)} {σ : L2.St} {H : Hp} {sI s : Shared} {a : Addr} {oe : Obj} {vs : Array Value} {cls : Value}
/-- the suite's state, where the exception's object is tracked; sI: the state before it was made -/
theorem track_exc (J : Inv X pins σ H sI) (I : Inv X pins σ H s) (hex : X.ex = []) (nI : sI.heap.get? a = none) (na : H a = none) (ha : s.heap.get? a = some oe) (hz : Zc cls none oe) (hd : oe.data = .fields vs) :
    Inv (X.suite a (X.pn ++ pins)) [] σ (upd H a (ExV cls a)) s := by
  have there : ∀ b o, sI.heap.get? b = some o → b ≠ a := fun b o e z => by
    rw [z, nI] at e
    cases e
  have n0 : ∀ b o, X.s_0.heap.get? b = some o → b ≠ a := fun b o e => by
    obtain ⟨o', e'⟩ := J.base.there b o e (by rw [hex]; exact fun z => nomatch z)
    exact there b o' e'
  refine ⟨I.ok.suite _ _, I.os, I.bare, ⟨I.base.keep, I.base.slot, fun b o e n x => ?_, I.base.there, fun b xs e => ?_, fun b o u e => ?_, fun b ps e => ?_⟩, I.loc, I.cell, ?_, fun x c e => ?_, fun p hp => ?_, fun b u e => ?_, I.len⟩
  · show upd H a (ExV cls a) b = none
    rw [upd_ne (n0 b o e)]
    exact I.base.free b o e n x
  · have q := I.base.tups b xs e
    show upd H a (ExV cls a) b = _
    rw [upd_ne (ne_of_none q na)]
    exact q
  · have q := I.base.frzs b o u e
    show upd H a (ExV cls a) b = _
    rw [upd_ne (ne_of_none q na)]
    exact q
  · obtain ⟨m, q⟩ := I.base.tbls b ps e
    refine ⟨m, ?_⟩
    show upd H a (ExV cls a) b = _
    rw [upd_ne (ne_of_none q na)]
    exact q
  · obtain ⟨m, ⟨o, es, ep, ho, _⟩, _⟩ := J.loc
    show upd H a (ExV cls a) X.env.locals = none
    rw [upd_ne (there _ _ ho)]
    exact I.free
  · obtain ⟨v, o, ho, _⟩ := J.cell x c e
    show upd H a (ExV cls a) c = none
    rw [upd_ne (there _ _ ho)]
    exact I.freeC x c e
  · have hp' : p ∈ X.pn ++ pins := by
      have : p ∈ (X.pn ++ pins) ++ [] := hp
      rwa [List.append_nil] at this
    obtain ⟨e1, e2, e3, e4, e5⟩ := I.pin p hp'
    refine ⟨e1, ?_, e3, e4, e5⟩
    show upd H a (ExV cls a) p.1 = none
    rw [upd_ne (there _ _ (J.pin p hp').1)]
    exact e2
  · by_cases hb : b = a
    · subst hb
      have e' : some (ExV cls b) = some u := by rw [← e]; exact upd_same.symm
      cases e'
      exact ⟨⟨oe, vs, ha, hz, hd⟩, ⟨oe, ha⟩, fun h1 h2 ⟨o, v, q, r⟩ k => ⟨o, v, k o q, r⟩⟩
    · have e' : H b = some u := by rw [← e]; exact (upd_ne hb).symm
      exact (I.hok b u e').stay (fun c v _ q => q) (fun c q => by
        show upd H a (ExV cls a) c = _
        rw [upd_ne (ne_of_none q na)]
        exact q) fun c xs q => by
        show upd H a (ExV cls a) c = _
        rw [upd_ne (ne_of_none q na)]
        exact q
/-- back out of the suite -/
theorem out_suite (I : Inv (X.suite a (X.pn ++ pins)) [] σ H s) (ok : X.Ok) : Inv X pins σ H s :=
  ⟨ok, I.os, I.bare, I.base, I.loc, I.cell, I.free, I.freeC, fun p hp => I.pin p (List.mem_append_left _ hp), I.hok, I.len⟩
end

/-- what is wished of an exception of the body: slot i is the clause's name -/
def wKeep (K : PySem.W.Frag) (c : Value) (i : Nat) (ts : TS) (Wout : WX) (D : Ends) : WX := fun cls d σ H =>
  ∃ b, PySem.W.exmOne K cls c = some b ∧
    (b = true → d = none ∧ ∀ a, H a = none → ts { nx := fun σ' H' => D.nx (σ'.set i none) H', rt := D.rt, bk := fun σ' H' => D.bk (σ'.set i none) H', ct := fun σ' H' => D.ct (σ'.set i none) H' } (σ.set i (some (.ref a))) (upd H a (ExV cls a))) ∧
    (b = false → Wout cls d σ H)
section
variable {X : Cx} {x n : Str} {c : Value} {i : Nat} {body suite : List Stmt} {b₀ : Stmt} {np pos pos' : Pos} {tb : WX → TS} {ts : TS} {Wout : WX}
/-- try: body / except x as n: suite, where the suite sees a tracked object -/
theorem ps_tryK (hs : X.stack = X.env :: X.outer) (hf : X.env.frame = some X.env.locals) (hex : X.ex = []) (hN : X.N.Nodup) (hi : X.N[i]? = some n) (hln : X.env.kindOf n = some .local) (hc : Names X x c) (tk : Takes X Wout)
    (hb : ∀ (W : WX) (pn : List (Addr × Obj)) (xe : Value → Shared → Prop), Takes (X.tr pn xe) W → PassesOwn (model X.prog X.w) X.A X.env xe → PSs (X.tr pn xe) body (tb W))
    (hsu : ∀ (a : Addr) (pn : List (Addr × Obj)), PSs (X.suite a pn) (b₀ :: suite) ts) :
    PS X (.Try body [.ExceptHandler (some (.Name x np)) (some n) (b₀ :: suite) pos'] [] [] pos) (fun D σ H => tb (wKeep X.K c i ts Wout D) D σ H) := ⟨fun pins s σ H D I h => by
  have ok := I.ok
  have hfr : X.A.frames = some (X.env :: X.outer) := by rw [ok.frames, hs]
  have body_ok := hb (wKeep X.K c i ts Wout D) (X.pn ++ pins) (fun e s₁ => wpAny (model X.prog X.w) X.A (noteFrame e X.env) (fun _ s₂ => wpAny (model X.prog X.w) X.A (setFlight e none) (fun _ s₃ => wpAny (model X.prog X.w) X.A (handleBy e X.env [.ExceptHandler (some (.Name x np)) (some n) (b₀ :: suite) pos']) (SP X pins D) X.xe s₃) X.xe s₂) X.xe s₁)
  refine wpAny_Try_except (wpAny_mono ((body_ok ?caught PassesOwn.looking).run [] s σ H D (I.toTry _) h) ?done fun _ _ z => z)
  case done =>
    intro f s1 hsp
    cases f with
    | next =>
      obtain ⟨σ', H', J', q⟩ := hsp
      exact wpAny_execs_nil ⟨σ', H', J'.ofTry ok, q⟩
    | brk =>
      obtain ⟨σ', H', J', q⟩ := hsp
      exact ⟨σ', H', J'.ofTry ok, q⟩
    | cont =>
      obtain ⟨σ', H', J', q⟩ := hsp
      exact ⟨σ', H', J'.ofTry ok, q⟩
    | ret u =>
      obtain ⟨v, σ', H', J', r, q⟩ := hsp
      exact ⟨v, σ', H', J'.ofTry ok, r, q⟩
  case caught =>
    rintro u s' ⟨a, G, sI, pins', σ', H', cls, d, rfl, J', nb, up, sky, na, os, ag, b, hb1, hyes, hno⟩
    have J : Inv X pins σ' H' sI := J'.ofTry ok
    have nG : G.get? a = none := by
      rcases sky with z | z | z
      · exact z.2.1
      · exact z.2.1
      · exact z.2.1
    have sky' : Sky G (X.env :: X.outer) a (Zc cls d) X.env.locals s'.heap := by rw [← hs]; exact sky
    refine Sky.land Zc.steady hfr hf sky' fun h3 fl3 up3 => ?_
    have J3 : Inv X pins σ' H' { s' with heap := h3 } := J.landed nb fl3.1 (up.trans up3) os ag
    obtain ⟨oe3, vs3, he3, hz3, hd3⟩ := fl3.there
    -- the exception's object is none of the frames
    have nofr : ∀ b ∈ frs (X.env :: X.outer), b ≠ a := fun b hm z => by
      obtain ⟨_, o', e', hnf⟩ := fl3.2.2.1.mem hm
      rw [z, he3] at e'
      cases e'
      exact hnf _ hd3
    have nI : sI.heap.get? a = none := by
      cases q : sI.heap.get? a with
      | none => rfl
      | some o =>
        have := nb a o q (fun hm => by
          have hm' : a ∈ frs (X.env :: X.outer) := by
            have e : frs X.stack = frs (X.env :: X.outer) := by rw [hs]
            rw [← e]; exact hm
          exact nofr a hm' rfl)
        rw [nG] at this
        cases this
    have nL : a ≠ X.env.locals := fun z => nofr a (List.mem_filterMap.mpr ⟨X.env, List.mem_cons_self, by rw [hf, z]⟩) rfl
    have nF : a ∉ X.fs := fun hm => by
      obtain ⟨e, he, q⟩ := List.mem_filterMap.mp hm
      exact nofr a (List.mem_filterMap.mpr ⟨e, List.mem_cons_of_mem _ he, q⟩) rfl
    have S3 := J3.suite he3 hd3 na nL nF
    refine wpAny_handleBy_cons (codeAny_handlers_test ?_) (fun q => nomatch q)
    have LT : PySem.W.Looks (model X.prog X.w) h3 (typeOf (.ref a)) cls := fun A Q E s k q => wpAny_typeOf_ref (k _ _ he3) (by rw [hz3.1]; exact q)
    have LM := PySem.W.exm_one (M := model X.prog X.w) J3.kIn LT hb1
    have test : ∀ {Q : Value → Shared → Prop} {E : Value → Shared → Prop}, Q c { s' with heap := h3 } → wpAny (model X.prog X.w) (X.A.mark (some (.ref a))) (eval (.Name x np) X.env) Q E { s' with heap := h3 } := fun {Q E} q => by
      obtain ⟨hg, hdbg, hm | ⟨hm, hv, hnn⟩⟩ := hc
      · exact ld_glob (X := X.suite a ((a, oe3) :: (X.pn ++ pins))) S3 hg hm q hdbg
      · exact ld_blt (X := X.suite a ((a, oe3) :: (X.pn ++ pins))) S3 hg hm hv q hnn hdbg
    refine test (LM.here ?_)
    cases b with
    | true =>
      obtain ⟨hd0, hy⟩ := hyes rfl
      subst hd0
      refine codeAny_handlers_suite_as (HandSPX.lands_againZ fl3 fun h4 fl4 up4 => ?_)
      have J4 : Inv X pins σ' H' { s' with heap := h4 } := J.landed nb fl4.1 ((up.trans up3).trans up4) os ag
      obtain ⟨oe4, vs4, he4, hz4, hd4⟩ := fl4.there
      have S4 := track_exc J J4 hex nI na he4 hz4 hd4
      refine store_ok (X := X.suite a (X.pn ++ pins)) (v := .ref a) S4 hN hi (.inl hln) rfl (fun s5 S5 => ?_) (.inr hln)
      refine wpAny_mono ((hsu a (X.pn ++ pins)).run [] s5 _ _ _ S5 (hy a na)) (fun f s6 hsp => ?_) (fun _ _ z => z.elim)
      have fin_ : ∀ {σ6 : L2.St} {H6 : Hp} {Q : Shared → Prop}, Inv (X.suite a (X.pn ++ pins)) [] σ6 H6 s6 → (∀ s7, Inv X pins (σ6.set i none) H6 s7 → Q s7) →
          wpAny (model X.prog X.w) X.A (do bindName X.env n .none; unbindBehindTheSuite X.env n pos') (fun _ s7 => Q s7) X.xe s6 := fun S6 hq => gone_ok (out_suite S6 ok) hN hi hln hq
      cases f with
      | next =>
        obtain ⟨σ6, H6, S6, q6⟩ := hsp
        exact fin_ S6 fun s7 J7 => ⟨_, _, J7, q6⟩
      | brk =>
        obtain ⟨σ6, H6, S6, q6⟩ := hsp
        exact fin_ S6 fun s7 J7 => ⟨_, _, J7, q6⟩
      | cont =>
        obtain ⟨σ6, H6, S6, q6⟩ := hsp
        exact fin_ S6 fun s7 J7 => ⟨_, _, J7, q6⟩
      | ret u =>
        obtain ⟨v6, σ6, H6, S6, r6, q6⟩ := hsp
        exact fin_ S6 fun s7 J7 => ⟨_, _, _, J7, r6, q6⟩
    | false =>
      refine wpAny_handleBy_nil ?_
      obtain ⟨k1, k2, k3, oe, vs, T, oT, ts', he, hz, hd, h1, hr⟩ := id fl3
      unfold PySem.passOn
      refine wpAny_bind (wpAny_field he hd h1 ?_)
      rw [if_neg (show ¬ ((Value.ref T == Value.none) = true) from by simp)]
      have goes : wpAny (model X.prog X.w) X.A (setFlight (.ref a) X.env.frame) (fun _ s4 => wpAny (model X.prog X.w) X.A (throw (.ref a) : Sem Flow) (SP X pins D) X.xe s4) X.xe { s' with heap := h3 } := by
        rw [hf]
        refine HandSPX.setFlight_upZ fl3 fun h4 hh4 up4 => wpAny_throw (tk _ _ ?_)
        exact ⟨a, G, sI, pins, σ', H', cls, d, rfl, J, nb, (up.trans up3).trans up4, .inr (.inr (by rw [hs]; exact hh4)), na, os, ag, hno rfl⟩
      first
        | exact wpAny_bind (wpAny_pure (wpAny_bind goes))
        | exact wpAny_bind goes⟩
end
end Zz
end
section
namespace Zz
open PySem PySem.Spec PyProof.Rows L2

/-! ### try: .. except X as e: .. -/
/-- whether the class k catches the class c (7: ValueError) -/
def catches (k c : Nat) : Bool := k == 6 || (k == 7 || c == k)
def sTry (k i : Nat) (b s : SM) : SM := fun env S => match b env S with
  | .exn c env1 S1 => if c < 6 then
      if catches k c = true then match s (env1.set i (.val (.exc c))) S1 with
        | .nx e S2 => .nx (e.set i .no) S2
        | .bk e S2 => .bk (e.set i .no) S2
        | .ct e S2 => .ct (e.set i .no) S2
        | .rt w S2 => .rt w S2
        | _ => .bad
      else .exn c env1 S1
    else .bad
  | r => r
section
variable {X : Cx} {B : Bs} {E : XS} {x n : Str} {i k : Nat} {body suite : List Stmt} {b₀ : Stmt} {np pos pos' : Pos} {mb ms : SM}
theorem ztry (hcv : B.cv = cvOf X.K) (hex : ∀ c, c < 6 → PySem.W.exmOne X.K (cvOf X.K c) (cvOf X.K k) = some (catches k c)) (xf : XF X.K X.mg B.cv k x) (tk : Takes X (fun cls d σ H => E σ cls d H))
    (hN : X.N.Nodup) (hs : X.stack = X.env :: X.outer) (hf : X.env.frame = some X.env.locals) (hxe : X.ex = [])
    (hb : ∀ (W : WX) (pn : List (Addr × Obj)) (xe : Value → Shared → Prop), Takes (X.tr pn xe) W → PassesOwn (model X.prog X.w) X.A X.env xe → PSs (X.tr pn xe) body (jS X.K B (fun σ cls d H => W cls d σ H) mb))
    (hsu : ∀ (a : Addr) (pn : List (Addr × Obj)), PSs (X.suite a pn) (b₀ :: suite) (jS X.K B noE ms))
    (hi : X.N[i]? = some n := by rfl) (hln : X.env.kindOf n = some .local := by rfl) (hg : Gl X x := by rfl) (hdb : (x == ("__debug__" : Str)) = false := by decide) :
    PS X (.Try body [.ExceptHandler (some (.Name x np)) (some n) (b₀ :: suite) pos'] [] [] pos) (jS X.K B E (sTry k i mb ms)) := by
  obtain ⟨C, e1, e2, _⟩ := xf
  have hc : Names X x (cvOf X.K k) := ⟨hg, hdb, .inl (by rw [e2, ← hcv, e1])⟩
  refine PS.imp (ps_tryK hs hf hxe hN hi hln hc tk hb hsu) fun D σ H ⟨env, S, g, R, p⟩ => ⟨env, S, g, R, ?_⟩
  unfold sTry at p
  cases q : mb env S with
  | nx e S1 => rw [q] at p; exact p
  | rt w S1 => rw [q] at p; exact p
  | bk e S1 => rw [q] at p; exact p
  | ct e S1 => rw [q] at p; exact p
  | bad => rw [q] at p; exact p
  | exn c env1 S1 =>
    simp only [q] at p
    by_cases h6 : c < 6
    · rw [if_pos h6] at p
      intro σ1 g1 H1 x1 R1
      refine ⟨catches k c, by rw [hcv]; exact hex c h6, fun hy => ⟨rfl, fun a na => ?_⟩, fun hn => ?_⟩
      · rw [if_pos hy] at p
        have R2 := R1.laid (o := ExV (B.cv c) a) na
        have x2 := ext_laid (o := ExV (B.cv c) a) R1 na
        have R3 := R2.set (i := i) (w := .exc c) (v := .ref a) (.exc (by rw [← hcv]; exact upd_same))
        refine ⟨env1.set i (.val (.exc c)), S1, g1, R3, ?_⟩
        cases q2 : ms (env1.set i (.val (.exc c))) S1 with
        | nx e S2 => rw [q2] at p; exact fun σ2 g2 H2 x3 R4 => p _ g2 H2 ((x1.trans x2).trans x3) R4.drop
        | bk e S2 => rw [q2] at p; exact fun σ2 g2 H2 x3 R4 => p _ g2 H2 ((x1.trans x2).trans x3) R4.drop
        | ct e S2 => rw [q2] at p; exact fun σ2 g2 H2 x3 R4 => p _ g2 H2 ((x1.trans x2).trans x3) R4.drop
        | rt w S2 => rw [q2] at p; exact fun v e σ2 g2 H2 x3 R4 r4 => p v e σ2 g2 H2 ((x1.trans x2).trans x3) R4 r4
        | exn c2 e S2 => rw [q2] at p; exact False.elim p
        | bad => rw [q2] at p; exact False.elim p
      · rw [hn] at p
        exact p σ1 g1 H1 x1 R1
    · rw [if_neg h6] at p
      exact False.elim p
end

/-! ### isinstance of a caught exception -/
structure ExF (K : PySem.W.Frag) (c : Nat) : Prop where
  ex : ∃ D : Addr, cvOf K c = .ref D ∧ ExcC K D
theorem call_isX {X : Cx} : CallR X (.builtin "isinstance") (fun xs H Q => ∃ (a D : Addr) (c : V) (u : Value) (b : Bool), xs = [.ref a, c] ∧ H a = some (ExV (.ref D) a) ∧ ExcC X.K D ∧ (∀ v, RelV c v → v = u) ∧ PySem.W.kitOne X.K (.ref D) u = some b ∧ Q (.bl b) H) := by
  intro pins s σ H xs us Q I r h
  obtain ⟨a, D, c, u, b, rfl, ha, C, hu, e, q⟩ := h
  cases r with
  | cons rx rr =>
    cases rr with
    | cons rt rr =>
      cases rr
      cases rx
      have ec := hu _ rt
      subst ec
      obtain ⟨⟨oe, vs, hget, hz, hv⟩, _, _⟩ := I.hok a _ ha
      have J : PySem.W.InstAt s.heap a oe D none := by
        obtain ⟨oc, od, oda, osl⟩ := oe
        obtain ⟨h1, h2⟩ := hz
        dsimp only at h1 h2 hv
        subst h1 h2 hv
        exact ⟨hget, rfl, rfl, trivial⟩
      exact PySem.W.kia_one (PySem.W.handS_kitx_exc C.hg C.hk C.hs C.hd C.ha C.hn C.ht C.hm) I.kIn J e (fun z => nomatch z) fun tk => ⟨.bl b, H, I.kept (t' := tk) fun _ _ z => z, rfl, q⟩
def isE (k : Nat) (w : W) : M W := match w with
  | .exc c => fun S => if c < 6 then .ok (.bl (catches k c)) S else .bad
  | _ => fun _ => .bad
section
variable {X : Cx} {B : Bs} {E : XS} {e : Expr} {me : EM} {pos p p2 : Pos}
theorem zise {k : Nat} {y : Str} (hx : ∀ c, c < 6 → ExF X.K c) (hk : ∀ c, c < 6 → PySem.W.kitOne X.K (cvOf X.K c) (cvOf X.K k) = some (catches k c)) (hcv : B.cv = cvOf X.K) (xf : XF X.K X.mg B.cv k y)
    (he : PE X e (jE X.K B E me)) (hm : X.mg "isinstance" = none) (hg : Gl X "isinstance" := by rfl) (hgT : Gl X y := by rfl) (hdT : (y == ("__debug__" : Str)) = false := by decide)
    (he1 : starEach (e :: [.Name y p2]) X.env = (false, eval e X.env) :: starEach [.Name y p2] X.env := by rfl) (he2 : starEach [.Name y p2] X.env = (false, eval (.Name y p2) X.env) :: starEach [] X.env := by rfl)
    (hpl : (backTo pos (starEach [.Name y p2] X.env)).any (·.1) = false := by rfl) : PE X (.Call (.Name "isinstance" p) [e, .Name y p2] [] pos) (jE X.K B E (eUn (isE k) me)) := by
  obtain ⟨C, e1, e2, _⟩ := xf
  refine PE.imp (pe_callB call_isX hg hm (by decide +kernel) (pa_cons he (pa_cons (pe_glob (v := .ref C) hgT e2 rfl hdT) pa_nil he2) he1) (by decide) (by decide) he1 hpl) fun σ H Q ⟨env, S, g, R, p⟩ => ?_
  refine J.bind R p fun w v S1 g1 H1 x1 R1 r1 p1 => ?_
  unfold isE at p1
  cases r1 with
  | @exc a c ha =>
    by_cases h6 : c < 6
    · simp only [if_pos h6] at p1
      obtain ⟨D, d1, d2⟩ := (hx c h6).ex
      have hh := hk c h6
      rw [d1] at hh ha
      rw [← hcv, e1] at hh
      exact ⟨a, D, .ref C, .ref C, catches k c, rfl, ha, d2, fun _ z => z, hh, p1.ret R1 (.bl _)⟩
    · simp only [if_neg h6] at p1
      exact False.elim p1
  | _ => exact False.elim p1
theorem zisV {y : Str} (hx : ∀ c, c < 6 → ExF X.K c) (hk : ∀ c, c < 6 → PySem.W.kitOne X.K (cvOf X.K c) (.type "ValueError") = some true)
    (he : PE X e (jE X.K B E me)) (hm : X.mg "isinstance" = none) (hmT : X.mg y = none) (hvT : bootBuiltins y = some (.type "ValueError")) (hg : Gl X "isinstance" := by rfl) (hgT : Gl X y := by rfl) (hnT : y ≠ "__name__" := by decide) (hdT : (y == ("__debug__" : Str)) = false := by decide)
    (he1 : starEach (e :: [.Name y p2]) X.env = (false, eval e X.env) :: starEach [.Name y p2] X.env := by rfl) (he2 : starEach [.Name y p2] X.env = (false, eval (.Name y p2) X.env) :: starEach [] X.env := by rfl)
    (hpl : (backTo pos (starEach [.Name y p2] X.env)).any (·.1) = false := by rfl) : PE X (.Call (.Name "isinstance" p) [e, .Name y p2] [] pos) (jE X.K B E (eUn (isE 7) me)) := by
  refine PE.imp (pe_callB call_isX hg hm (by decide +kernel) (pa_cons he (pa_cons (pe_bltn (v := .ty "ValueError") hgT hmT hvT rfl hnT hdT) pa_nil he2) he1) (by decide) (by decide) he1 hpl) fun σ H Q ⟨env, S, g, R, p⟩ => ?_
  refine J.bind R p fun w v S1 g1 H1 x1 R1 r1 p1 => ?_
  unfold isE at p1
  cases r1 with
  | @exc a c ha =>
    by_cases h6 : c < 6
    · simp only [if_pos h6] at p1
      obtain ⟨D, d1, d2⟩ := (hx c h6).ex
      have hh := hk c h6
      rw [d1] at hh ha
      have e7 : catches 7 c = true := rfl
      rw [e7] at p1
      exact ⟨a, D, .ty "ValueError", .type "ValueError", true, rfl, ha, d2, fun _ z => z, hh, p1.ret R1 (.bl _)⟩
    · simp only [if_neg h6] at p1
      exact False.elim p1
  | _ => exact False.elim p1
end

/-! ### xs.count(x), xs.index(x) of flat items -/
def rCntF (K : PySem.W.Frag) : V → List V → Hp → VK → Prop := fun x xs H Q => ∃ (a : Addr) (ys : List V) (y : V), x = .ref a ∧ xs = [y] ∧ SqL K H a ys ∧ flatV y = true ∧ ys.all flatV = true ∧ Q (.int ((ys.countP fun z => eqV z y : Nat))) H
theorem count_rel {y : V} {u : Value} (ru : RelV y u) (fy : flatV y = true) : ∀ {ys : List V} {its : List Value}, Vals ys its → ys.all flatV = true → its.countP (eqU y) = ys.countP fun z => eqV z y
  | _, _, .nil, _ => rfl
  | z :: ys, w :: its, .cons r t, h => by
    rw [List.all_cons, Bool.and_eq_true] at h
    rw [List.countP_cons, List.countP_cons, count_rel ru fy t h.2, eqU_of r h.1]
theorem mt_countF {X : Cx} : MtR X "list.count" (rCntF X.K) := by
  intro pins s σ H x xs v us Q I rx rxs h
  obtain ⟨a, ys, y, rfl, rfl, hs, fy, fys, q⟩ := h
  cases rx
  cases rxs with
  | cons ry rt =>
    rename_i uy ut
    cases rt
    obtain ⟨its, rv, ⟨⟨cls, dd, data, sl⟩, n, ho, hc, hdn, hd⟩, hlen⟩ := I.list hs
    simp only at hc hd
    subst hc hd
    refine call_meets PySem.F.slot_list_count ⟨_, ho, rfl⟩ PySem.F.entry_list_count (PySem.F.args_list_count_2 _ _)
      (SeqAt.list_countAt a its.toArray n dd sl uy (eqU y)) ⟨ho, fun u' hu' => mem_eqAt ry fy rv fys u' (by simpa using hu'), ?_⟩
    have ec : its.toArray.toList.countP (eqU y) = ys.countP fun z => eqV z y := by
      rw [show its.toArray.toList = its from rfl]
      exact count_rel ry fy rv fys
    refine ⟨.int ((ys.countP fun z => eqV z y : Nat)), H, I.tok _, ⟨s.toks, ?_⟩, q⟩
    show Value.int ((its.toArray.toList.countP (eqU y) : Nat) : Int) s.toks = _
    rw [ec]
/-- a method of a list with one argument -/
def eLm (f : List W → W → M W) (o a : EM) : EM := fun env => M.bind (o env) fun x => match x with
  | .lst ws => M.bind (a env) (f ws)
  | _ => fun _ => .bad
def cntW (ws : List W) (y : W) : M W := fun S => if (flatW y && ws.all flatW) = true then .ok (.int ((ws.countP fun z => PyData.eqv (dat z) (dat y) : Nat))) S else .bad
def idxW (ws : List W) (y : W) : M W := fun S => if (flatW y && ws.all flatW) = true then match ws.findIdx? fun z => PyData.eqv (dat z) (dat y) with
    | some j => .ok (.int (j : Nat)) S
    | none => .bad
  else .bad
theorem countP_rep {K : PySem.W.Frag} {g : Gh} {H : Hp} {x : W} {v : V} (rx : Rep K g H x v) (hx : flatW x = true) : ∀ {ws : List W} {vs : List V}, Reps K g H ws vs → ws.all flatW = true → (vs.countP fun z => eqV z v) = ws.countP fun z => PyData.eqv (dat z) (dat x)
  | _, _, .nil, _ => rfl
  | _, _, .cons r t, h => by
    rw [List.all_cons, Bool.and_eq_true] at h
    rw [List.countP_cons, List.countP_cons, countP_rep rx hx t h.2, eqv_rep r h.1 rx hx]
/-- the first place -/
theorem findIdx_spec {α : Type} {p : α → Bool} : ∀ {l : List α} {j : Nat}, l.findIdx? p = some j → (∃ z, l[j]? = some z ∧ p z = true) ∧ ∀ m z, m < j → l[m]? = some z → p z = false
  | [], j, h => by simp at h
  | x :: l, j, h => by
    rw [List.findIdx?_cons] at h
    cases q : p x with
    | true =>
      rw [q] at h
      cases h
      exact ⟨⟨x, rfl, q⟩, fun m z hm => by omega⟩
    | false =>
      rw [q] at h
      cases q2 : l.findIdx? p with
      | none => rw [q2] at h; cases h
      | some i =>
        rw [q2] at h
        cases h
        obtain ⟨⟨z, h1, h2⟩, h3⟩ := findIdx_spec q2
        refine ⟨⟨z, h1, h2⟩, fun m z hm hz => ?_⟩
        have hm' : m < i + 1 := hm
        cases m with
        | zero => cases hz; exact q
        | succ m => exact h3 m z (by omega) hz
section
variable {X : Cx} {B : Bs} {E : XS} {o e : Expr} {mo me : EM} {pos apos cpos : Pos}
theorem zcnt (ho : PE X o (jE X.K B E mo)) (he : PE X e (jE X.K B E me)) (hbase : attributeBase o "count" X.env (eval o X.env) = eval o X.env := by rfl)
    (hfew : ((backTo cpos (starEach (e :: []) X.env)).all (fun x => !x.1) && (backToKw cpos (keywordEach [] X.env)).all (fun x => x.1.isSome) && decide ((e :: []).length + ([] : List Keyword).length + (if ([] : List Keyword).isEmpty then 0 else 1) < 30)) = true := by rfl)
    (hline : (apos.endLine == cpos.line) = true := by rfl) (hs : starEach (e :: []) X.env = (false, eval e X.env) :: starEach [] X.env := by rfl) (hpl : (backTo cpos (starEach [] X.env)).any (·.1) = false := by rfl) :
    PE X (.Call (.Attribute o "count" apos) [e] [] cpos) (jE X.K B E (eLm cntW mo me)) :=
  PE.imp (pe_bm PySem.F.plainAttrs_list PySem.F.slot_list_count PySem.F.type_list_count mt_countF ho (pa_cons he pa_nil hs) hbase hfew hline hs hpl) fun σ H Q ⟨env, S, g, R, p⟩ => J.bind R p fun x v S1 g1 H1 e1 R1 r1 p1 => by
    cases r1 with
    | @lst a vs ws s r =>
      refine ⟨.inl ⟨rfl, vs, SqL.of s.2⟩, J.bind R1 p1 fun y u S2 g2 H2 e2 R2 r2 p2 => ?_⟩
      unfold cntW at p2
      by_cases h : (flatW y && ws.all flatW) = true
      · rw [if_pos h] at p2
        rw [Bool.and_eq_true] at h
        have s2 := e2.lsf s
        have r' := Reps.ext e2 r
        refine ⟨a, vs, u, rfl, rfl, SqL.of s2.2, flat_rep r2 h.1, flats_rep r' h.2, ?_⟩
        rw [countP_rep r2 h.1 r' h.2]
        exact p2.ret R2 (.int _)
      · rw [if_neg h] at p2
        exact False.elim p2
    | _ => exact False.elim p1
theorem zidx (ho : PE X o (jE X.K B E mo)) (he : PE X e (jE X.K B E me)) (hbase : attributeBase o "index" X.env (eval o X.env) = eval o X.env := by rfl)
    (hfew : ((backTo cpos (starEach (e :: []) X.env)).all (fun x => !x.1) && (backToKw cpos (keywordEach [] X.env)).all (fun x => x.1.isSome) && decide ((e :: []).length + ([] : List Keyword).length + (if ([] : List Keyword).isEmpty then 0 else 1) < 30)) = true := by rfl)
    (hline : (apos.endLine == cpos.line) = true := by rfl) (hs : starEach (e :: []) X.env = (false, eval e X.env) :: starEach [] X.env := by rfl) (hpl : (backTo cpos (starEach [] X.env)).any (·.1) = false := by rfl) :
    PE X (.Call (.Attribute o "index" apos) [e] [] cpos) (jE X.K B E (eLm idxW mo me)) :=
  PE.imp (pe_bm PySem.F.plainAttrs_list PySem.F.slot_list_index PySem.F.type_list_index mt_index ho (pa_cons he pa_nil hs) hbase hfew hline hs hpl) fun σ H Q ⟨env, S, g, R, p⟩ => J.bind R p fun x v S1 g1 H1 e1 R1 r1 p1 => by
    cases r1 with
    | @lst a vs ws s r =>
      refine ⟨.inl ⟨rfl, vs, SqL.of s.2⟩, J.bind R1 p1 fun y u S2 g2 H2 e2 R2 r2 p2 => ?_⟩
      unfold idxW at p2
      by_cases h : (flatW y && ws.all flatW) = true
      · rw [if_pos h] at p2
        cases q : ws.findIdx? fun z => PyData.eqv (dat z) (dat y) with
        | none => simp only [q] at p2; exact False.elim p2
        | some j =>
          simp only [q] at p2
          rw [Bool.and_eq_true] at h
          have s2 := e2.lsf s
          have r' := Reps.ext e2 r
          obtain ⟨⟨z, h1, h2⟩, h3⟩ := findIdx_spec q
          obtain ⟨zv, h4, h5⟩ := r'.get h1
          have fw : ∀ {k : Nat} {z : W}, ws[k]? = some z → flatW z = true := fun {k z} e => List.all_eq_true.mp h.2 z (List.mem_of_getElem? e)
          refine ⟨a, vs, u, j, zv, rfl, rfl, SqL.of s2.2, flat_rep r2 h.1, flats_rep r' h.2, h4, ?_, fun m z' hm hz' => ?_, p2.ret R2 (.int _)⟩
          · rw [eqv_rep h5 (fw h1) r2 h.1]
            exact h2
          · obtain ⟨z2, h6, h7⟩ := r'.getV hz'
            rw [eqv_rep h7 (fw h6) r2 h.1]
            exact h3 m z2 hm h6
      · rw [if_neg h] at p2
        exact False.elim p2
    | _ => exact False.elim p1
end

/-! ### len(o) of an instance with its own __len__ -/
section
variable {X : Cx}
theorem call_lenOwn {C f : Addr} {k : Nat} {fd : FuncData} {ps : List Str} {sp : Sp} (hm : Meth X.K C "__len__" f) (F : FnOk X.prog X.w X.K X.mg X.base (L2.CX X.prog X.w) k f fd ps sp) (hr : Room (k + 1) X.A) (hb : Binds X.K fd ps []) :
    CallR X (.builtin "len") (fun xs H Q => ∃ (a dx : Addr) (fs : List (Str × V)), xs = [.ref a] ∧ H a = some (.ins C dx fs) ∧ sp [.ref a] H (fun v H' => ∃ n : Int, v = .int n ∧ 0 ≤ n ∧ n < 2 ^ 62 ∧ Q (.int n) H') (fun _ _ _ => False)) := by
  intro pins s σ H xs us Q I r h
  obtain ⟨a, dx, fs, rfl, ha, hsp⟩ := h
  rw [Vals.ref1 r]
  obtain ⟨mA, O, _⟩ := ins_get I.hok ha
  obtain ⟨od, J, _⟩ := O.look
  have hl : [Value.ref a].length = ps.length := F.len _ _ _ _ hsp
  have b := hb s [Value.ref a] I.kIn (by rw [List.append_nil]; exact hl)
  rw [List.append_nil] at b
  refine Calls.call_function_entry kind_len plain_len entry_len (args_len1 _) ?_
  unfold Builtin.«len»
  refine wpAny_bind (m := oneArg "len" _) (wpAny_pure ?_)
  refine wpAny_bind (m := callSpecial? (.ref a) (PySem.Str.ofString "__len__")) (PySem.W.special_fn (args := []) I.kIn J hm.at_ (beq_iff_eq.mp hm.fn) ?_)
  refine wpAny_call (codeAny_mono (F.run X.A.in1 X.stack s H ⟨[.ref a], []⟩ [.ref a] [.ref a] _ (fun _ _ _ => False) hr.in1 I.env0.in1 b (.cons rfl .nil) hsp) fun r s' hq => ?_)
  cases r with
  | error e =>
    obtain ⟨_, _, _, _, _, _, _, _, _, _, _, _, z⟩ := hq
    exact z.elim
  | ok fl =>
    cases fl with
    | ret u =>
      obtain ⟨v, H', I3, rv, n, rfl, n0, n1, q⟩ := I.after hq
      obtain ⟨t, rfl⟩ := rv
      refine wpAny_bind (wpAny_holding (wpAny_pure ?_))
      refine wpAny_bind (wpAny_letGo ?_)
      show wpAny _ _ (if n < 0 then _ else _) _ _ _
      rw [if_neg (by omega)]
      show wpAny _ _ (if n ≥ 2 ^ 63 then _ else _) _ _ _
      rw [if_neg (by omega)]
      exact wpAny_bind (wpAny_mkInt (wpAny_pure ⟨_, rfl, .int n, H', I3.tok _, ⟨_, rfl⟩, q⟩))
    | next => exact False.elim hq
    | brk => exact False.elim hq
    | cont => exact False.elim hq
end
/-- len(o) by the mirror of __len__ -/
def lenO (m : List W → M W) (x : W) : M W := fun S => match x with
  | .obj k => match S[k]? with
    | some (.ins _) => match m [x] S with
      | .ok (.int n) S' => if 0 ≤ n ∧ n < 2 ^ 62 then .ok (.int n) S' else .bad
      | _ => .bad
    | _ => .bad
  | _ => .bad
section
variable {X : Cx} {B : Bs} {E : XS} {e : Expr} {me : EM} {pos p : Pos}
theorem zlenO {k j : Nat} {m : List W → M W} (D : MDef X.prog X.w X.K X.mg X.base B.C B.cv k "__len__" 1 m) (hr : Room j X.A) (hm : X.mg "len" = none) (he : PE X e (jE X.K B E me)) (hkj : k + 1 ≤ j := by decide) (hg : Gl X "len" := by rfl)
    (he1 : starEach (e :: []) X.env = (false, eval e X.env) :: starEach [] X.env := by rfl) (hpl : (backTo pos (starEach [] X.env)).any (·.1) = false := by rfl) :
    PE X (.Call (.Name "len" p) [e] [] pos) (jE X.K B E (eUn (lenO m) me)) := by
  obtain ⟨f, fd, ps, hM, hb, F⟩ := D.ex
  refine PE.imp (pe_callB (call_lenOwn hM F (hr.mono hkj) hb) hg hm (by decide +kernel) (pa_cons he pa_nil he1) (by decide) (by decide) he1 hpl) fun σ H Q ⟨env, S, g, R, q⟩ => J.bind R q fun x v S1 g1 H1 x1 R1 r1 p1 => ?_
  unfold lenO at p1
  cases r1 with
  | @obj a i hk =>
    simp only at p1
    cases q : S1[i]? with
    | none => simp only [q] at p1; exact False.elim p1
    | some u =>
      cases u with
      | lst ws => simp only [q] at p1; exact False.elim p1
      | ins fs =>
        simp only [q] at p1
        obtain ⟨dx, vf, h1, _⟩ := R1.sto.at_ i a _ hk q
        refine ⟨a, dx, vf, rfl, h1, [.obj i], S1, g1, rfl, .cons (.obj hk) .nil, R1.sto, R1.fok, ?_⟩
        cases q2 : m [.obj i] S1 with
        | ok w S2 =>
          simp only [q2] at p1
          cases w with
          | int n =>
            simp only at p1
            intro v g' H' af st fo rv
            cases rv
            by_cases hn : 0 ≤ n ∧ n < 2 ^ 62
            · rw [if_pos hn] at p1
              exact ⟨n, rfl, hn.1, hn.2, p1 _ g' H' (af.ext R1.sto R1.fok) (R1.after af st fo) (.int n)⟩
            · rw [if_neg hn] at p1
              exact False.elim p1
          | _ => exact False.elim p1
        | exn c S2 => simp only [q2] at p1; exact False.elim p1
        | bad => simp only [q2] at p1; exact False.elim p1
  | _ => exact False.elim p1
end
end Zz
end
section
namespace Zz
open PySem PySem.Spec PyProof.Rows L2

/-! ### what the head says of the exception classes -/
section
variable {K : PySem.W.Frag} {c k : Nat} {D C : Addr} {x y : Str} {b : Bool}
theorem cv_eq (hx : excNames.getD c "" = x) (a : PySem.W.nsIn K mainGlobals x = some (some (.ref D))) : cvOf K c = .ref D := by
  unfold cvOf
  rw [hx, a]
theorem exF_mk (hx : excNames.getD c "" = x) (a : PySem.W.nsIn K mainGlobals x = some (some (.ref D))) (h1 : PySem.W.findIn K (.ref D) "__getattribute__" = some (some (.builtin "BaseException.__getattribute__"))) (h2 : PySem.W.findIn K (.ref D) "__getattr__" = some none)
    (h3 : PySem.W.subIn K (.ref D) (.type "BaseException") = some true) (h4 : PySem.W.hasDictIn K D = true) (h5 : PySem.W.findIn K (.ref D) "__class__" = some (some (.builtin "object.__class__")))
    (h6 : PySem.W.specialIn K (.builtin "object.__class__") "__get__" = some (some (.builtin "getset_descriptor.__get__"))) (h7 : PySem.W.takesIn K (.builtin "object.__class__") = some true) (h8 : PySem.W.mroIn K D (.type "object") = some true) : ExF K c :=
  ⟨D, cv_eq hx a, ⟨h1, h2, h3, h4, h5, h6, h7, h8⟩⟩
theorem kit_mk (hx : excNames.getD c "" = x) (a : PySem.W.nsIn K mainGlobals x = some (some (.ref D))) (hy : excNames.getD k "" = y) (a2 : PySem.W.nsIn K mainGlobals y = some (some (.ref C))) (h : PySem.W.kitOne K (.ref D) (.ref C) = some b) (hb : catches k c = b) : PySem.W.kitOne K (cvOf K c) (cvOf K k) = some (catches k c) := by
  rw [cv_eq hx a, cv_eq hy a2, h, hb]
theorem kitV_mk (hx : excNames.getD c "" = x) (a : PySem.W.nsIn K mainGlobals x = some (some (.ref D))) (h : PySem.W.kitOne K (.ref D) (.type "ValueError") = some true) : PySem.W.kitOne K (cvOf K c) (.type "ValueError") = some true := by
  rw [cv_eq hx a, h]
theorem exm_mk (hx : excNames.getD c "" = x) (a : PySem.W.nsIn K mainGlobals x = some (some (.ref D))) (hy : excNames.getD k "" = y) (a2 : PySem.W.nsIn K mainGlobals y = some (some (.ref C))) (h1 : PySem.W.subIn K (.ref C) (.type "BaseException") = some true) (h2 : PySem.W.hasDictIn K C = true)
    (h3 : PySem.W.typeIn K (.ref C) = some (.type "type")) (h4 : PySem.W.subIn K (.ref D) (.ref C) = some b) (hb : catches k c = b) : PySem.W.exmOne K (cvOf K c) (cvOf K k) = some (catches k c) := by
  rw [cv_eq hx a, cv_eq hy a2, hb]
  exact PySem.W.exm_ref h1 h2 h3 h4
theorem six {P : Nat → Prop} (h0 : P 0) (h1 : P 1) (h2 : P 2) (h3 : P 3) (h4 : P 4) (h5 : P 5) : ∀ c, c < 6 → P c
  | 0, _ => h0
  | 1, _ => h1
  | 2, _ => h2
  | 3, _ => h3
  | 4, _ => h4
  | 5, _ => h5
  | n + 6, h => by omega
end
end Zz
end
section
namespace Mir
open PySem PySem.Spec PyProof.Rows L2 Zz
def b__law_start : SM := (sRet (eNewS (aCons (eIf (tV (eOp opNe (eVar 0) (eLst aNil))) (eCall cListS (aCons (eVar 0) aNil)) (eNewS (aCons (eC (.int 0)) aNil))) (aCons (eC (.int 0)) aNil))))
def m__law_start : List W → M W := bodyM 1 1 b__law_start
def b__law_draw : SM := (sSeq (sSet 2 (eOp opIx (eVar 0) (eC (.int 0))))
  (sSeq (sSto (eVar 0) (eC (.int 1)) (eOp opAdd (eOp opIx (eVar 0) (eC (.int 1))) (eC (.int 1))))
  (sSeq (sSet 3 (eOp opMod (eOp opIx (eVar 0) (eC (.int 1))) (eCall cLen (aCons (eVar 2) aNil))))
  (sSeq (sSet 4 (eOp opIx (eVar 2) (eVar 3)))
  (sSeq (sIf (tV (eOp opGe (eVar 4) (eC (.int 1000000000000000000))))
  (sSeq (sSto (eVar 2) (eVar 3) (eOp opFdiv (eVar 4) (eVar 1)))
  (sRet (eOp opMod (eVar 4) (eVar 1))))
  sPass)
  (sSeq (sSet 5 (eOp opMod (eOp opAdd (eVar 4) (eOp opMul (eC (.int 104729)) (eOp opIx (eVar 0) (eC (.int 1))))) (eC (.int 4294967291))))
  (sSeq (sSet 5 (eOp opMod (eOp opPow (eVar 5) (eC (.int 5))) (eC (.int 4294967279))))
  (sRet (eOp opMod (eOp opFdiv (eOp opMod (eOp opAdd (eOp opMul (eOp opFdiv (eVar 5) (eC (.int 64))) (eC (.int 69621))) (eVar 5)) (eC (.int 4294967231))) (eC (.int 8))) (eVar 1))))))))))
def m__law_draw : List W → M W := bodyM 6 2 b__law_draw
def b__law_pick : SM := (sRet (eOp opIx (eVar 1) (eCall m__law_draw (aCons (eVar 0) (aCons (eCall cLen (aCons (eVar 1) aNil)) aNil)))))
def m__law_pick : List W → M W := bodyM 2 2 b__law_pick
def b__law_low_L0 : SM := (sPar [2, 3] (aCons (eVar 3) (aCons (eOp opMod (eVar 2) (eVar 3)) aNil)))
def b__law_low : SM := (sSeq (sPar [2, 3] (aCons (eCall cAbs (aCons (eVar 0) aNil)) (aCons (eVar 1) aNil)))
  (sSeq (loopW (tV (eOp opNe (eVar 3) (eC (.int 0))))
  b__law_low_L0 fuelN)
  (sRet (eTup (aCons (eOp opFdiv (eVar 0) (eVar 2)) (aCons (eOp opFdiv (eVar 1) (eVar 2)) aNil))))))
def m__law_low : List W → M W := bodyM 4 2 b__law_low
def b__law_fraction : SM := (sSeq (sSet 1 (eCall m__law_pick (aCons (eVar 0) (aCons (eLst (aCons (eC (.int 1)) (aCons (eC (.int 2)) (aCons (eC (.int 4)) (aCons (eC (.int 5)) (aCons (eC (.int 8)) (aCons (eC (.int 20)) (aCons (eC (.int 40)) (aCons (eC (.int 50)) (aCons (eOp opAdd (eC (.int 1)) (eCall m__law_draw (aCons (eVar 0) (aCons (eC (.int 60)) aNil)))) aNil)))))))))) aNil))))
  (sSeq (sSet 2 (eCall m__law_pick (aCons (eVar 0) (aCons (eLst (aCons (eC (.int 1)) (aCons (eC (.int 3)) (aCons (eC (.int 100)) aNil)))) aNil))))
  (sRet (eCall m__law_low (aCons (eOp opSub (eCall m__law_draw (aCons (eVar 0) (aCons (eOp opAdd (eOp opMul (eOp opMul (eC (.int 2)) (eVar 2)) (eVar 1)) (eC (.int 1))) aNil))) (eOp opMul (eVar 2) (eVar 1))) (aCons (eVar 1) aNil))))))
def m__law_fraction : List W → M W := bodyM 3 1 b__law_fraction
def b__law_rules : SM := (sRet (eLst (aCons (eC (.str "down")) (aCons (eC (.str "up")) (aCons (eC (.str "zero")) (aCons (eC (.str "near-up")) (aCons (eC (.str "near-zero")) (aCons (eC (.str "near-away")) (aCons (eC (.str "near-even")) aNil)))))))))
def m__law_rules : List W → M W := bodyM 0 0 b__law_rules
def b__law_ten : SM := (sRet (eCall cInt (aCons (eOp opAdd (eC (.str "1")) (eOp opMul (eC (.str "0")) (eVar 0))) aNil)))
def m__law_ten : List W → M W := bodyM 1 1 b__law_ten
def b__law_units : SM := (sSeq (sSet 4 (eOp opFdiv (eOp opMul (eVar 0) (eCall m__law_ten (aCons (eVar 2) aNil))) (eVar 1)))
  (sSeq (sSet 5 (eOp opEq (eOp opMul (eVar 4) (eVar 1)) (eOp opMul (eVar 0) (eCall m__law_ten (aCons (eVar 2) aNil)))))
  (sSeq (sSet 6 (eIf (tV (eVar 5)) (eVar 4) (eOp opAdd (eVar 4) (eC (.int 1)))))
  (sSeq (sIf (tOr (tV (eOp opEq (eVar 3) (eC (.str "down")))) (tAnd (tV (eOp opEq (eVar 3) (eC (.str "zero")))) (tV (eOp opGt (eVar 0) (eC (.int 0))))))
  (sRet (eVar 4))
  sPass)
  (sSeq (sIf (tOr (tV (eOp opEq (eVar 3) (eC (.str "up")))) (tV (eOp opEq (eVar 3) (eC (.str "zero")))))
  (sRet (eVar 6))
  sPass)
  (sSeq (sSet 7 (eOp opSub (eOp opMul (eOp opMul (eC (.int 2)) (eVar 0)) (eCall m__law_ten (aCons (eVar 2) aNil))) (eOp opMul (eOp opAdd (eVar 4) (eVar 6)) (eVar 1))))
  (sSeq (sIf (tOr (tV (eOp opNe (eVar 7) (eC (.int 0)))) (tV (eVar 5)))
  (sRet (eIf (tV (eOp opGt (eVar 7) (eC (.int 0)))) (eVar 6) (eVar 4)))
  sPass)
  (sSeq (sIf (tV (eOp opEq (eVar 3) (eC (.str "near-even"))))
  (sRet (eIf (tV (eOp opEq (eOp opMod (eVar 4) (eC (.int 2))) (eC (.int 0)))) (eVar 4) (eVar 6)))
  sPass)
  (sSeq (sIf (tV (eOp opEq (eVar 3) (eC (.str "near-up"))))
  (sRet (eVar 6))
  sPass)
  (sRet (eIf (tV (eOp opGt (eVar 0) (eC (.int 0)))) (eIf (tV (eOp opEq (eVar 3) (eC (.str "near-zero")))) (eVar 4) (eVar 6)) (eIf (tV (eOp opEq (eVar 3) (eC (.str "near-zero")))) (eVar 6) (eVar 4)))))))))))))
def m__law_units : List W → M W := bodyM 8 4 b__law_units
def b_is_int : SM := (sRet (eAnd (eUn (isI "int") (eVar 0)) (eAnd (eNot (eUn (isI "bool") (eVar 0))) (eChain opLe opLe (eVar 1) (eVar 0) (eVar 2)))))
def m_is_int : List W → M W := bodyM 3 3 b_is_int
def b_common_L0 : SM := (sPar [0, 1] (aCons (eVar 1) (aCons (eOp opMod (eVar 0) (eVar 1)) aNil)))
def b_common : SM := (sSeq (sPar [0, 1] (aCons (eCall cAbs (aCons (eVar 0) aNil)) (aCons (eCall cAbs (aCons (eVar 1) aNil)) aNil)))
  (sSeq (loopW (tV (eOp opNe (eVar 1) (eC (.int 0))))
  b_common_L0 fuelN)
  (sRet (eVar 0))))
def m_common : List W → M W := bodyM 2 2 b_common
def b_is_fraction : SM := (sSeq (sIf (tOr (tNot (tV (eUn (isI "tuple") (eVar 0)))) (tV (eOp opNe (eCall cLen (aCons (eVar 0) aNil)) (eC (.int 2)))))
  (sRet (eC (.bl false)))
  sPass)
  (sSeq (sIf (tOr (tNot (tV (eCall m_is_int (aCons (eOp opIx (eVar 0) (eC (.int 1))) (aCons (eC (.int 1)) (aCons (eC (.int 60)) aNil)))))) (tNot (tV (eCall m_is_int (aCons (eOp opIx (eVar 0) (eC (.int 0))) (aCons (eOp opMul (eUn opNeg (eC (.int 100))) (eOp opIx (eVar 0) (eC (.int 1)))) (aCons (eOp opMul (eC (.int 100)) (eOp opIx (eVar 0) (eC (.int 1)))) aNil)))))))
  (sRet (eC (.bl false)))
  sPass)
  (sRet (eOp opEq (eCall m_common (aCons (eOp opIx (eVar 0) (eC (.int 0))) (aCons (eOp opIx (eVar 0) (eC (.int 1))) aNil))) (eC (.int 1))))))
def m_is_fraction : List W → M W := bodyM 1 1 b_is_fraction
def b_check_fraction : SM := (sIf (tNot (tV (eCall m_is_fraction (aCons (eVar 0) aNil))))
  (sRaise 0)
  sPass)
def m_check_fraction : List W → M W := bodyM 1 1 b_check_fraction
def b_check_digits : SM := (sIf (tNot (tV (eCall m_is_int (aCons (eVar 0) (aCons (eC (.int 0)) (aCons (eC (.int 6)) aNil))))))
  (sRaise 3)
  sPass)
def m_check_digits : List W → M W := bodyM 1 1 b_check_digits
def b_power_of_L0 : SM := (sAug 1 opMulI (eC (.int 10)))
def b_power_of : SM := (sSeq (sSet 1 (eC (.int 1)))
  (sSeq (sFor (iRg1 (eVar 0)) (bdN 2)
  b_power_of_L0)
  (sRet (eVar 1))))
def m_power_of : List W → M W := bodyM 3 1 b_power_of
def b_units_of : SM := (sSeq (sPar [3, 4] (aCons (eOp opMul (eOp opIx (eVar 0) (eC (.int 0))) (eCall m_power_of (aCons (eVar 1) aNil))) (aCons (eOp opIx (eVar 0) (eC (.int 1))) aNil)))
  (sSeq (sPar [5, 6] (aCons (eOp opFdiv (eVar 3) (eVar 4)) (aCons (eOp opMod (eVar 3) (eVar 4)) aNil)))
  (sSeq (sIf (tOr (tV (eOp opEq (eVar 6) (eC (.int 0)))) (tV (eOp opEq (eVar 2) (eC (.str "down")))))
  (sRet (eVar 5))
  sPass)
  (sSeq (sIf (tV (eOp opEq (eVar 2) (eC (.str "up"))))
  (sRet (eOp opAdd (eVar 5) (eC (.int 1))))
  sPass)
  (sSeq (sIf (tV (eOp opEq (eVar 2) (eC (.str "zero"))))
  (sRet (eIf (tV (eOp opGt (eVar 3) (eC (.int 0)))) (eVar 5) (eOp opAdd (eVar 5) (eC (.int 1)))))
  sPass)
  (sSeq (sIf (tV (eOp opNe (eOp opMul (eC (.int 2)) (eVar 6)) (eVar 4)))
  (sRet (eIf (tV (eOp opLt (eOp opMul (eC (.int 2)) (eVar 6)) (eVar 4))) (eVar 5) (eOp opAdd (eVar 5) (eC (.int 1)))))
  sPass)
  (sSeq (sIf (tV (eOp opEq (eVar 2) (eC (.str "near-up"))))
  (sRet (eOp opAdd (eVar 5) (eC (.int 1))))
  sPass)
  (sSeq (sIf (tV (eOp opEq (eVar 2) (eC (.str "near-zero"))))
  (sRet (eIf (tV (eOp opGt (eVar 3) (eC (.int 0)))) (eVar 5) (eOp opAdd (eVar 5) (eC (.int 1)))))
  sPass)
  (sSeq (sIf (tV (eOp opEq (eVar 2) (eC (.str "near-away"))))
  (sRet (eIf (tV (eOp opGt (eVar 3) (eC (.int 0)))) (eOp opAdd (eVar 5) (eC (.int 1))) (eVar 5)))
  sPass)
  (sRet (eIf (tV (eOp opEq (eOp opMod (eVar 5) (eC (.int 2))) (eC (.int 0)))) (eVar 5) (eOp opAdd (eVar 5) (eC (.int 1))))))))))))))
def m_units_of : List W → M W := bodyM 7 3 b_units_of
def b_all_rounded_C0 : EM := (eCall m_units_of (aCons (eVar 0) (aCons (eVar 1) (aCons (eVar 2) aNil))))
def b_all_rounded : SM := (sSeq (sDrop (eCall m_check_fraction (aCons (eVar 0) aNil)))
  (sSeq (sDrop (eCall m_check_digits (aCons (eVar 1) aNil)))
  (sRet (eComp (iTup (eC (.tup ((["down", "up", "zero", "near-up", "near-zero", "near-away", "near-even"] : List Str).map W.str)))) (bdN 2) [2] cYes b_all_rounded_C0))))
def m_all_rounded : List W → M W := bodyM 3 2 b_all_rounded
def b_check_rule : SM := (sIf (tOr (tNot (tV (eUn (isI "str") (eVar 0)))) (tV (eOp opNin (eVar 0) (eC (.tup ((["down", "up", "zero", "near-up", "near-zero", "near-away", "near-even"] : List Str).map W.str))))))
  (sRaise 2)
  sPass)
def m_check_rule : List W → M W := bodyM 1 1 b_check_rule
def b_rounded : SM := (sSeq (sDrop (eCall m_check_fraction (aCons (eVar 0) aNil)))
  (sSeq (sDrop (eCall m_check_digits (aCons (eVar 1) aNil)))
  (sSeq (sDrop (eCall m_check_rule (aCons (eVar 2) aNil)))
  (sRet (eCall m_units_of (aCons (eVar 0) (aCons (eVar 1) (aCons (eVar 2) aNil))))))))
def m_rounded : List W → M W := bodyM 3 3 b_rounded
def b_lowest : SM := (sSeq (sSet 2 (eCall m_common (aCons (eVar 0) (aCons (eVar 1) aNil))))
  (sRet (eTup (aCons (eOp opFdiv (eVar 0) (eVar 2)) (aCons (eOp opFdiv (eVar 1) (eVar 2)) aNil)))))
def m_lowest : List W → M W := bodyM 3 2 b_lowest
def b_minus : SM := (sRet (eCall m_lowest (aCons (eOp opSub (eOp opMul (eOp opIx (eVar 0) (eC (.int 0))) (eOp opIx (eVar 1) (eC (.int 1)))) (eOp opMul (eOp opIx (eVar 1) (eC (.int 0))) (eOp opIx (eVar 0) (eC (.int 1))))) (aCons (eOp opMul (eOp opIx (eVar 0) (eC (.int 1))) (eOp opIx (eVar 1) (eC (.int 1)))) aNil))))
def m_minus : List W → M W := bodyM 2 2 b_minus
def b_error_of : SM := (sSeq (sDrop (eCall m_check_fraction (aCons (eVar 0) aNil)))
  (sSeq (sDrop (eCall m_check_digits (aCons (eVar 1) aNil)))
  (sSeq (sDrop (eCall m_check_rule (aCons (eVar 2) aNil)))
  (sRet (eCall m_minus (aCons (eCall m_lowest (aCons (eCall m_units_of (aCons (eVar 0) (aCons (eVar 1) (aCons (eVar 2) aNil)))) (aCons (eCall m_power_of (aCons (eVar 1) aNil)) aNil))) (aCons (eVar 0) aNil)))))))
def m_error_of : List W → M W := bodyM 3 3 b_error_of
def b__law_true : SM := (sRet (eAnd (eUn (isI "bool") (eVar 0)) (eOp opEq (eVar 0) (eVar 1))))
def m__law_true : List W → M W := bodyM 2 2 b__law_true
def b_is_exact : SM := (sSeq (sDrop (eCall m_check_fraction (aCons (eVar 0) aNil)))
  (sSeq (sDrop (eCall m_check_digits (aCons (eVar 1) aNil)))
  (sRet (eOp opEq (eOp opMod (eOp opMul (eOp opIx (eVar 0) (eC (.int 0))) (eCall m_power_of (aCons (eVar 1) aNil))) (eOp opIx (eVar 0) (eC (.int 1)))) (eC (.int 0))))))
def m_is_exact : List W → M W := bodyM 2 2 b_is_exact
def b_is_middle : SM := (sSeq (sDrop (eCall m_check_fraction (aCons (eVar 0) aNil)))
  (sSeq (sDrop (eCall m_check_digits (aCons (eVar 1) aNil)))
  (sSeq (sSet 2 (eOp opMod (eOp opMul (eOp opIx (eVar 0) (eC (.int 0))) (eCall m_power_of (aCons (eVar 1) aNil))) (eOp opIx (eVar 0) (eC (.int 1)))))
  (sRet (eOp opEq (eOp opMul (eC (.int 2)) (eVar 2)) (eOp opIx (eVar 0) (eC (.int 1))))))))
def m_is_middle : List W → M W := bodyM 3 2 b_is_middle
def b_least_digits_for_L0 : SM := (sSeq (sSet 3 (eCall m_minus (aCons (eCall m_lowest (aCons (eCall m_units_of (aCons (eVar 0) (aCons (eVar 2) (aCons (eC (.str "near-even")) aNil)))) (aCons (eCall m_power_of (aCons (eVar 2) aNil)) aNil))) (aCons (eVar 0) aNil))))
  (sIf (tV (eOp opLe (eOp opMul (eCall cAbs (aCons (eOp opIx (eVar 3) (eC (.int 0))) aNil)) (eOp opIx (eVar 1) (eC (.int 1)))) (eOp opMul (eOp opIx (eVar 1) (eC (.int 0))) (eOp opIx (eVar 3) (eC (.int 1))))))
  (sRet (eVar 2))
  sPass))
def b_least_digits_for : SM := (sSeq (sDrop (eCall m_check_fraction (aCons (eVar 0) aNil)))
  (sSeq (sDrop (eCall m_check_fraction (aCons (eVar 1) aNil)))
  (sSeq (sFor (iRg1 (eC (.int 7))) (bdN 2)
  b_least_digits_for_L0)
  (sRet (eC .non)))))
def m_least_digits_for : List W → M W := bodyM 4 2 b_least_digits_for
def b_check_whole : SM := (sIf (tNot (tV (eCall m_is_int (aCons (eVar 0) (aCons (eOp opMul (eUn opNeg (eC (.int 101))) (eCall m_power_of (aCons (eVar 1) aNil))) (aCons (eOp opMul (eC (.int 101)) (eCall m_power_of (aCons (eVar 1) aNil))) aNil))))))
  (sRaise 3)
  sPass)
def m_check_whole : List W → M W := bodyM 2 2 b_check_whole
def b_span_of : SM := (sSeq (sSet 3 (eCall m_power_of (aCons (eVar 1) aNil)))
  (sSeq (sIf (tOr (tV (eOp opEq (eVar 2) (eC (.str "down")))) (tAnd (tV (eOp opEq (eVar 2) (eC (.str "zero")))) (tV (eOp opGt (eVar 0) (eC (.int 0))))))
  (sRet (eTup (aCons (eCall m_lowest (aCons (eVar 0) (aCons (eVar 3) aNil))) (aCons (eC (.bl true)) (aCons (eCall m_lowest (aCons (eOp opAdd (eVar 0) (eC (.int 1))) (aCons (eVar 3) aNil))) (aCons (eC (.bl false)) aNil))))))
  sPass)
  (sSeq (sIf (tOr (tV (eOp opEq (eVar 2) (eC (.str "up")))) (tAnd (tV (eOp opEq (eVar 2) (eC (.str "zero")))) (tV (eOp opLt (eVar 0) (eC (.int 0))))))
  (sRet (eTup (aCons (eCall m_lowest (aCons (eOp opSub (eVar 0) (eC (.int 1))) (aCons (eVar 3) aNil))) (aCons (eC (.bl false)) (aCons (eCall m_lowest (aCons (eVar 0) (aCons (eVar 3) aNil))) (aCons (eC (.bl true)) aNil))))))
  sPass)
  (sSeq (sIf (tV (eOp opEq (eVar 2) (eC (.str "zero"))))
  (sRet (eTup (aCons (eCall m_lowest (aCons (eUn opNeg (eC (.int 1))) (aCons (eVar 3) aNil))) (aCons (eC (.bl false)) (aCons (eCall m_lowest (aCons (eC (.int 1)) (aCons (eVar 3) aNil))) (aCons (eC (.bl false)) aNil))))))
  sPass)
  (sSeq (sPar [4, 5] (aCons (eCall m_lowest (aCons (eOp opSub (eOp opMul (eC (.int 2)) (eVar 0)) (eC (.int 1))) (aCons (eOp opMul (eC (.int 2)) (eVar 3)) aNil))) (aCons (eCall m_lowest (aCons (eOp opAdd (eOp opMul (eC (.int 2)) (eVar 0)) (eC (.int 1))) (aCons (eOp opMul (eC (.int 2)) (eVar 3)) aNil))) aNil)))
  (sSeq (sIf (tV (eOp opEq (eVar 2) (eC (.str "near-up"))))
  (sRet (eTup (aCons (eVar 4) (aCons (eC (.bl true)) (aCons (eVar 5) (aCons (eC (.bl false)) aNil))))))
  sPass)
  (sSeq (sIf (tV (eOp opEq (eVar 2) (eC (.str "near-zero"))))
  (sRet (eTup (aCons (eVar 4) (aCons (eOp opLe (eVar 0) (eC (.int 0))) (aCons (eVar 5) (aCons (eOp opGe (eVar 0) (eC (.int 0))) aNil))))))
  sPass)
  (sSeq (sIf (tV (eOp opEq (eVar 2) (eC (.str "near-away"))))
  (sRet (eTup (aCons (eVar 4) (aCons (eOp opGt (eVar 0) (eC (.int 0))) (aCons (eVar 5) (aCons (eOp opLt (eVar 0) (eC (.int 0))) aNil))))))
  sPass)
  (sRet (eTup (aCons (eVar 4) (aCons (eOp opEq (eOp opMod (eVar 0) (eC (.int 2))) (eC (.int 0))) (aCons (eVar 5) (aCons (eOp opEq (eOp opMod (eVar 0) (eC (.int 2))) (eC (.int 0))) aNil))))))))))))))
def m_span_of : List W → M W := bodyM 6 3 b_span_of
def b_range_of : SM := (sSeq (sDrop (eCall m_check_digits (aCons (eVar 1) aNil)))
  (sSeq (sDrop (eCall m_check_whole (aCons (eVar 0) (aCons (eVar 1) aNil))))
  (sSeq (sDrop (eCall m_check_rule (aCons (eVar 2) aNil)))
  (sRet (eCall m_span_of (aCons (eVar 0) (aCons (eVar 1) (aCons (eVar 2) aNil))))))))
def m_range_of : List W → M W := bodyM 3 3 b_range_of
def b_is_any_C0 : EM := (eAnd (eUn (isI "int") (eVar 1)) (eNot (eUn (isI "bool") (eVar 1))))
def b_is_any : SM := (sSeq (sIf (tOr (tNot (tV (eUn (isI "tuple") (eVar 0)))) (tV (eOp opNe (eCall cLen (aCons (eVar 0) aNil)) (eC (.int 2)))))
  (sRet (eC (.bl false)))
  sPass)
  (sSeq (sIf (tNot (tV (eCall cAll (aCons (eComp (iTup (eVar 0)) (bdN 1) [1] cYes b_is_any_C0) aNil))))
  (sRet (eC (.bl false)))
  sPass)
  (sRet (eAnd (eOp opGt (eOp opIx (eVar 0) (eC (.int 1))) (eC (.int 0))) (eOp opEq (eCall m_common (aCons (eOp opIx (eVar 0) (eC (.int 0))) (aCons (eOp opIx (eVar 0) (eC (.int 1))) aNil))) (eC (.int 1)))))))
def m_is_any : List W → M W := bodyM 2 1 b_is_any
def b_less : SM := (sRet (eOp opLt (eOp opMul (eOp opIx (eVar 0) (eC (.int 0))) (eOp opIx (eVar 1) (eC (.int 1)))) (eOp opMul (eOp opIx (eVar 1) (eC (.int 0))) (eOp opIx (eVar 0) (eC (.int 1))))))
def m_less : List W → M W := bodyM 2 2 b_less
def b_is_span : SM := (sSeq (sIf (tOr (tNot (tV (eUn (isI "tuple") (eVar 0)))) (tOr (tV (eOp opNe (eCall cLen (aCons (eVar 0) aNil)) (eC (.int 4)))) (tOr (tNot (tV (eCall m_is_any (aCons (eOp opIx (eVar 0) (eC (.int 0))) aNil)))) (tNot (tV (eCall m_is_any (aCons (eOp opIx (eVar 0) (eC (.int 2))) aNil)))))))
  (sRet (eC (.bl false)))
  sPass)
  (sSeq (sIf (tOr (tNot (tV (eUn (isI "bool") (eOp opIx (eVar 0) (eC (.int 1)))))) (tNot (tV (eUn (isI "bool") (eOp opIx (eVar 0) (eC (.int 3)))))))
  (sRet (eC (.bl false)))
  sPass)
  (sRet (eOr (eCall m_less (aCons (eOp opIx (eVar 0) (eC (.int 0))) (aCons (eOp opIx (eVar 0) (eC (.int 2))) aNil))) (eAnd (eOp opEq (eOp opIx (eVar 0) (eC (.int 0))) (eOp opIx (eVar 0) (eC (.int 2)))) (eAnd (eOp opIx (eVar 0) (eC (.int 1))) (eOp opIx (eVar 0) (eC (.int 3)))))))))
def m_is_span : List W → M W := bodyM 1 1 b_is_span
def b_is_range : SM := (sRet (eAnd (eCall m_is_span (aCons (eVar 0) aNil)) (eAnd (eNot (eCall m_less (aCons (eOp opIx (eVar 0) (eC (.int 0))) (aCons (eTup (aCons (eUn opNeg (eC (.int 200))) (aCons (eC (.int 1)) aNil))) aNil)))) (eNot (eCall m_less (aCons (eTup (aCons (eC (.int 200)) (aCons (eC (.int 1)) aNil))) (aCons (eOp opIx (eVar 0) (eC (.int 2))) aNil)))))))
def m_is_range : List W → M W := bodyM 1 1 b_is_range
def b_reads_as : SM := (sSeq (sDrop (eCall m_check_fraction (aCons (eVar 0) aNil)))
  (sSeq (sDrop (eCall m_check_digits (aCons (eVar 2) aNil)))
  (sSeq (sDrop (eCall m_check_whole (aCons (eVar 1) (aCons (eVar 2) aNil))))
  (sSeq (sDrop (eCall m_check_rule (aCons (eVar 3) aNil)))
  (sRet (eOp opEq (eCall m_units_of (aCons (eVar 0) (aCons (eVar 2) (aCons (eVar 3) aNil)))) (eVar 1)))))))
def m_reads_as : List W → M W := bodyM 4 4 b_reads_as
def b_within : SM := (sSeq (sUnp [2, 3, 4, 5] (eVar 0))
  (sSeq (sIf (tOr (tV (eCall m_less (aCons (eVar 1) (aCons (eVar 2) aNil)))) (tV (eCall m_less (aCons (eVar 4) (aCons (eVar 1) aNil)))))
  (sRet (eC (.bl false)))
  sPass)
  (sSeq (sIf (tOr (tAnd (tV (eOp opEq (eVar 1) (eVar 2))) (tNot (tV (eVar 3)))) (tAnd (tV (eOp opEq (eVar 1) (eVar 4))) (tNot (tV (eVar 5)))))
  (sRet (eC (.bl false)))
  sPass)
  (sRet (eC (.bl true))))))
def m_within : List W → M W := bodyM 6 2 b_within
def b_reading_of_L0 : SM := (sIf (tAnd (tV (eOp opEq (eCall m_common (aCons (eVar 9) (aCons (eVar 6) aNil))) (eC (.int 1)))) (tAnd (tV (eOp opLe (eCall cAbs (aCons (eVar 9) aNil)) (eOp opMul (eC (.int 100)) (eVar 6)))) (tV (eCall m_within (aCons (eVar 4) (aCons (eTup (aCons (eVar 9) (aCons (eVar 6) aNil))) aNil))))))
  (sApp 5 (eTup (aCons (eVar 9) (aCons (eVar 6) aNil))))
  sPass)
def b_reading_of_L1 : SM := (sSeq (sSet 7 (eOp opFdiv (eOp opMul (eOp opIx (eOp opIx (eVar 4) (eC (.int 0))) (eC (.int 0))) (eVar 6)) (eOp opIx (eOp opIx (eVar 4) (eC (.int 0))) (eC (.int 1)))))
  (sSeq (sSet 8 (eOp opAdd (eOp opFdiv (eOp opMul (eOp opIx (eOp opIx (eVar 4) (eC (.int 2))) (eC (.int 0))) (eVar 6)) (eOp opIx (eOp opIx (eVar 4) (eC (.int 2))) (eC (.int 1)))) (eC (.int 1))))
  (sFor (iRg2 (eVar 7) (eOp opAdd (eVar 8) (eC (.int 1)))) (bdN 9)
  b_reading_of_L0)))
def b_reading_of : SM := (sSeq (sSet 4 (eCall m_span_of (aCons (eVar 0) (aCons (eVar 1) (aCons (eVar 2) aNil)))))
  (sSeq (sOwn 5 aNil)
  (sSeq (sFor (iRg2 (eC (.int 1)) (eOp opAdd (eVar 3) (eC (.int 1)))) (bdN 6)
  b_reading_of_L1)
  (sFrz 5 (sRet (eVar 5))))))
def m_reading_of : List W → M W := bodyM 10 4 b_reading_of
def b_fractions_reading : SM := (sSeq (sDrop (eCall m_check_digits (aCons (eVar 1) aNil)))
  (sSeq (sDrop (eCall m_check_whole (aCons (eVar 0) (aCons (eVar 1) aNil))))
  (sSeq (sDrop (eCall m_check_rule (aCons (eVar 2) aNil)))
  (sSeq (sIf (tNot (tV (eCall m_is_int (aCons (eVar 3) (aCons (eC (.int 1)) (aCons (eC (.int 20)) aNil))))))
  (sRaise 3)
  sPass)
  (sRet (eCall m_reading_of (aCons (eVar 0) (aCons (eVar 1) (aCons (eVar 2) (aCons (eVar 3) aNil))))))))))
def m_fractions_reading : List W → M W := bodyM 4 4 b_fractions_reading
def b_count_reading : SM := (sSeq (sDrop (eCall m_check_digits (aCons (eVar 1) aNil)))
  (sSeq (sDrop (eCall m_check_whole (aCons (eVar 0) (aCons (eVar 1) aNil))))
  (sSeq (sDrop (eCall m_check_rule (aCons (eVar 2) aNil)))
  (sSeq (sIf (tNot (tV (eCall m_is_int (aCons (eVar 3) (aCons (eC (.int 1)) (aCons (eC (.int 20)) aNil))))))
  (sRaise 3)
  sPass)
  (sRet (eCall cLen (aCons (eCall m_reading_of (aCons (eVar 0) (aCons (eVar 1) (aCons (eVar 2) (aCons (eVar 3) aNil))))) aNil)))))))
def m_count_reading : List W → M W := bodyM 4 4 b_count_reading
def b_tells_apart_L0 : SM := (sIf (tV (eOp opNe (eCall m_units_of (aCons (eVar 0) (aCons (eVar 3) (aCons (eVar 2) aNil)))) (eCall m_units_of (aCons (eVar 1) (aCons (eVar 3) (aCons (eVar 2) aNil))))))
  (sRet (eVar 3))
  sPass)
def b_tells_apart : SM := (sSeq (sDrop (eCall m_check_fraction (aCons (eVar 0) aNil)))
  (sSeq (sDrop (eCall m_check_fraction (aCons (eVar 1) aNil)))
  (sSeq (sDrop (eCall m_check_rule (aCons (eVar 2) aNil)))
  (sSeq (sFor (iRg1 (eC (.int 7))) (bdN 3)
  b_tells_apart_L0)
  (sRet (eC .non))))))
def m_tells_apart : List W → M W := bodyM 4 3 b_tells_apart
def b_digits_to_tell_C0 : EM := (eTup (aCons (eVar 5) (aCons (eVar 3) aNil)))
def b_digits_to_tell_D1 : En → M Bool := (tV (eOp opEq (eCall m_common (aCons (eVar 5) (aCons (eVar 3) aNil))) (eC (.int 1))))
def b_digits_to_tell_L2 : SM := (sOext 2 (eComp (iRg1 (eOp opAdd (eVar 3) (eC (.int 1)))) (bdN 5) [5] b_digits_to_tell_D1 b_digits_to_tell_C0))
def b_digits_to_tell_C3 : EM := (eCall m_units_of (aCons (eVar 6) (aCons (eVar 4) (aCons (eVar 1) aNil))))
def b_digits_to_tell_L4 : SM := (sAug 4 opAddI (eC (.int 1)))
def b_digits_to_tell : SM := (sSeq (sIf (tNot (tV (eCall m_is_int (aCons (eVar 0) (aCons (eC (.int 1)) (aCons (eC (.int 12)) aNil))))))
  (sRaise 3)
  sPass)
  (sSeq (sDrop (eCall m_check_rule (aCons (eVar 1) aNil)))
  (sSeq (sOwn 2 aNil)
  (sSeq (sFor (iRg2 (eC (.int 1)) (eOp opAdd (eVar 0) (eC (.int 1)))) (bdN 3)
  b_digits_to_tell_L2)
  (sFrz 2 (sSeq (sSet 4 (eC (.int 0)))
  (sSeq (loopW (tV (eOp opLt (eLenSet (eComp (iLst (eVar 2)) (bdN 6) [6] cYes b_digits_to_tell_C3)) (eCall cLen (aCons (eVar 2) aNil))))
  b_digits_to_tell_L4 fuelN)
  (sRet (eVar 4)))))))))
def m_digits_to_tell : List W → M W := bodyM 7 2 b_digits_to_tell
def b__law_less : SM := (sRet (eOp opLt (eOp opMul (eOp opIx (eVar 0) (eC (.int 0))) (eOp opIx (eVar 1) (eC (.int 1)))) (eOp opMul (eOp opIx (eVar 1) (eC (.int 0))) (eOp opIx (eVar 0) (eC (.int 1))))))
def m__law_less : List W → M W := bodyM 2 2 b__law_less
def b__law_span : SM := (sSeq (sPar [1, 2] (aCons (eCall m__law_fraction (aCons (eVar 0) aNil)) (aCons (eCall m__law_fraction (aCons (eVar 0) aNil)) aNil)))
  (sSeq (sIf (tV (eOp opEq (eCall m__law_draw (aCons (eVar 0) (aCons (eC (.int 2)) aNil))) (eC (.int 0))))
  (sSet 2 (eCall m__law_low (aCons (eOp opAdd (eOp opMul (eOp opIx (eVar 1) (eC (.int 0))) (eC (.int 50))) (eOp opMul (eOp opIx (eVar 1) (eC (.int 1))) (eOp opAdd (eC (.int 1)) (eCall m__law_draw (aCons (eVar 0) (aCons (eC (.int 9)) aNil)))))) (aCons (eOp opMul (eOp opIx (eVar 1) (eC (.int 1))) (eC (.int 50))) aNil))))
  sPass)
  (sSeq (sIf (tV (eCall m__law_less (aCons (eVar 2) (aCons (eVar 1) aNil))))
  (sPar [1, 2] (aCons (eVar 2) (aCons (eVar 1) aNil)))
  sPass)
  (sSeq (sIf (tV (eOp opEq (eVar 1) (eVar 2)))
  (sRet (eTup (aCons (eVar 1) (aCons (eC (.bl true)) (aCons (eVar 2) (aCons (eC (.bl true)) aNil))))))
  sPass)
  (sRet (eTup (aCons (eVar 1) (aCons (eOp opEq (eCall m__law_draw (aCons (eVar 0) (aCons (eC (.int 2)) aNil))) (eC (.int 0))) (aCons (eVar 2) (aCons (eOp opEq (eCall m__law_draw (aCons (eVar 0) (aCons (eC (.int 2)) aNil))) (eC (.int 0))) aNil))))))))))
def m__law_span : List W → M W := bodyM 3 1 b__law_span
def b__law_within : SM := (sSeq (sIf (tOr (tV (eOp opEq (eVar 1) (eOp opIx (eVar 0) (eC (.int 0))))) (tV (eOp opEq (eVar 1) (eOp opIx (eVar 0) (eC (.int 2))))))
  (sRet (eAnd (eOr (eOp opNe (eVar 1) (eOp opIx (eVar 0) (eC (.int 0)))) (eOp opIx (eVar 0) (eC (.int 1)))) (eOr (eOp opNe (eVar 1) (eOp opIx (eVar 0) (eC (.int 2)))) (eOp opIx (eVar 0) (eC (.int 3))))))
  sPass)
  (sRet (eAnd (eCall m__law_less (aCons (eOp opIx (eVar 0) (eC (.int 0))) (aCons (eVar 1) aNil))) (eCall m__law_less (aCons (eVar 1) (aCons (eOp opIx (eVar 0) (eC (.int 2))) aNil))))))
def m__law_within : List W → M W := bodyM 2 2 b__law_within
def b_check_range : SM := (sIf (tNot (tV (eCall m_is_range (aCons (eVar 0) aNil))))
  (sRaise 1)
  sPass)
def m_check_range : List W → M W := bodyM 1 1 b_check_range
def b_ends_of : SM := (sSeq (sUnp [2, 3, 4, 5] (eVar 0))
  (sSeq (sSet 6 (eCall m_power_of (aCons (eVar 1) aNil)))
  (sSeq (sSet 7 (eUn opNeg (eOp opFdiv (eOp opMul (eUn opNeg (eOp opIx (eVar 2) (eC (.int 0)))) (eVar 6)) (eOp opIx (eVar 2) (eC (.int 1))))))
  (sSeq (sIf (tAnd (tV (eOp opEq (eOp opMul (eVar 7) (eOp opIx (eVar 2) (eC (.int 1)))) (eOp opMul (eOp opIx (eVar 2) (eC (.int 0))) (eVar 6)))) (tNot (tV (eVar 3))))
  (sAug 7 opAddI (eC (.int 1)))
  sPass)
  (sSeq (sSet 8 (eOp opFdiv (eOp opMul (eOp opIx (eVar 4) (eC (.int 0))) (eVar 6)) (eOp opIx (eVar 4) (eC (.int 1)))))
  (sSeq (sIf (tAnd (tV (eOp opEq (eOp opMul (eVar 8) (eOp opIx (eVar 4) (eC (.int 1)))) (eOp opMul (eOp opIx (eVar 4) (eC (.int 0))) (eVar 6)))) (tNot (tV (eVar 5))))
  (sAug 8 opSub (eC (.int 1)))
  sPass)
  (sRet (eTup (aCons (eVar 7) (aCons (eVar 8) aNil))))))))))
def m_ends_of : List W → M W := bodyM 9 2 b_ends_of
def b_count_decimals : SM := (sSeq (sDrop (eCall m_check_range (aCons (eVar 0) aNil)))
  (sSeq (sDrop (eCall m_check_digits (aCons (eVar 1) aNil)))
  (sSeq (sUnp [2, 3] (eCall m_ends_of (aCons (eVar 0) (aCons (eVar 1) aNil))))
  (sRet (eCall cMax2 (aCons (eC (.int 0)) (aCons (eOp opAdd (eOp opSub (eVar 3) (eVar 2)) (eC (.int 1))) aNil)))))))
def m_count_decimals : List W → M W := bodyM 4 2 b_count_decimals
def b_least_of_L0 : SM := (sSeq (sUnp [2, 3] (eCall m_ends_of (aCons (eVar 0) (aCons (eVar 1) aNil))))
  (sIf (tV (eOp opLe (eVar 2) (eVar 3)))
  (sRet (eVar 1))
  sPass))
def b_least_of : SM := (sSeq (sFor (iRg1 (eOp opAdd (eC (.int 6)) (eC (.int 1)))) (bdN 1)
  b_least_of_L0)
  (sRet (eC .non)))
def m_least_of : List W → M W := bodyM 4 1 b_least_of
def b_least_digits : SM := (sSeq (sDrop (eCall m_check_range (aCons (eVar 0) aNil)))
  (sSeq (sSet 1 (eCall m_least_of (aCons (eVar 0) aNil)))
  (sSeq (sIf (tV (eOp opIs (eVar 1) (eC .non)))
  (sRaise 5)
  sPass)
  (sRet (eVar 1)))))
def m_least_digits : List W → M W := bodyM 2 1 b_least_digits
def b_shortest : SM := (sSeq (sDrop (eCall m_check_range (aCons (eVar 0) aNil)))
  (sSeq (sSet 1 (eCall m_least_of (aCons (eVar 0) aNil)))
  (sSeq (sIf (tV (eOp opIs (eVar 1) (eC .non)))
  (sRaise 5)
  sPass)
  (sSeq (sUnp [2, 3] (eCall m_ends_of (aCons (eVar 0) (aCons (eVar 1) aNil))))
  (sRet (eTup (aCons (eLstRg2 (eVar 2) (eOp opAdd (eVar 3) (eC (.int 1)))) (aCons (eVar 1) aNil))))))))
def m_shortest : List W → M W := bodyM 4 1 b_shortest
def b_nearest_L0 : SM := (sSeq (sSet 8 (eCall m_minus (aCons (eCall m_lowest (aCons (eVar 7) (aCons (eVar 5) aNil))) (aCons (eVar 1) aNil))))
  (sSeq (sSet 9 (eTup (aCons (eCall cAbs (aCons (eOp opIx (eVar 8) (eC (.int 0))) aNil)) (aCons (eOp opIx (eVar 8) (eC (.int 1))) aNil))))
  (sIf (tOr (tV (eOp opIs (eVar 6) (eC .non))) (tV (eCall m_less (aCons (eVar 9) (aCons (eOp opIx (eVar 6) (eC (.int 0))) aNil)))))
  (sSet 6 (eTup (aCons (eVar 9) (aCons (eVar 7) aNil))))
  sPass)))
def b_nearest : SM := (sSeq (sDrop (eCall m_check_range (aCons (eVar 0) aNil)))
  (sSeq (sDrop (eCall m_check_fraction (aCons (eVar 1) aNil)))
  (sSeq (sSet 2 (eCall m_least_of (aCons (eVar 0) aNil)))
  (sSeq (sIf (tV (eOp opIs (eVar 2) (eC .non)))
  (sRaise 5)
  sPass)
  (sSeq (sUnp [3, 4] (eCall m_ends_of (aCons (eVar 0) (aCons (eVar 2) aNil))))
  (sSeq (sSet 5 (eCall m_power_of (aCons (eVar 2) aNil)))
  (sSeq (sSet 6 (eC .non))
  (sSeq (sFor (iRg2 (eVar 3) (eOp opAdd (eVar 4) (eC (.int 1)))) (bdN 7)
  b_nearest_L0)
  (sRet (eTup (aCons (eOp opIx (eVar 6) (eC (.int 1))) (aCons (eVar 2) aNil))))))))))))
def m_nearest : List W → M W := bodyM 10 2 b_nearest
def b_decimals_in : SM := (sSeq (sDrop (eCall m_check_range (aCons (eVar 0) aNil)))
  (sSeq (sDrop (eCall m_check_digits (aCons (eVar 1) aNil)))
  (sSeq (sUnp [2, 3] (eCall m_ends_of (aCons (eVar 0) (aCons (eVar 1) aNil))))
  (sSeq (sIf (tV (eOp opGe (eOp opSub (eVar 3) (eVar 2)) (eC (.int 1000))))
  (sRaise 3)
  sPass)
  (sRet (eLstRg2 (eVar 2) (eOp opAdd (eVar 3) (eC (.int 1)))))))))
def m_decimals_in : List W → M W := bodyM 4 2 b_decimals_in
def b__law_error : SM := (sSeq (sSet 1 (eLst (aCons (eUn (isE 0) (eVar 0)) (aCons (eUn (isE 1) (eVar 0)) (aCons (eUn (isE 2) (eVar 0)) aNil)))))
  (sSeq (sSet 1 (eOp opAdd (eVar 1) (eLst (aCons (eUn (isE 3) (eVar 0)) (aCons (eUn (isE 4) (eVar 0)) (aCons (eUn (isE 5) (eVar 0)) aNil))))))
  (sSeq (sIf (tOr (tV (eOp opNe (eLm cntW (eVar 1) (eC (.bl true))) (eC (.int 1)))) (tOr (tNot (tV (eUn (isE 6) (eVar 0)))) (tNot (tV (eUn (isE 7) (eVar 0))))))
  (sRet (eC (.str "odd")))
  sPass)
  (sRet (eOp opIx (eLst (aCons (eC (.str "fraction")) (aCons (eC (.str "range")) (aCons (eC (.str "rule")) (aCons (eC (.str "number")) (aCons (eC (.str "text")) (aCons (eC (.str "none")) aNil))))))) (eLm idxW (eVar 1) (eC (.bl true))))))))
def m__law_error : List W → M W := bodyM 2 1 b__law_error
def b_contains : SM := (sSeq (sDrop (eCall m_check_range (aCons (eVar 0) aNil)))
  (sSeq (sDrop (eCall m_check_fraction (aCons (eVar 1) aNil)))
  (sRet (eCall m_within (aCons (eVar 0) (aCons (eVar 1) aNil))))))
def m_contains : List W → M W := bodyM 2 2 b_contains
def b_width : SM := (sSeq (sDrop (eCall m_check_range (aCons (eVar 0) aNil)))
  (sRet (eCall m_minus (aCons (eOp opIx (eVar 0) (eC (.int 2))) (aCons (eOp opIx (eVar 0) (eC (.int 0))) aNil)))))
def m_width : List W → M W := bodyM 1 1 b_width
def b_tops_in : SM := (sSeq (sUnp [2, 3, 4, 5] (eVar 0))
  (sSeq (sSet 6 (eUn opNeg (eOp opFdiv (eOp opMul (eUn opNeg (eOp opIx (eVar 2) (eC (.int 0)))) (eVar 1)) (eOp opIx (eVar 2) (eC (.int 1))))))
  (sSeq (sIf (tAnd (tV (eOp opEq (eOp opMul (eVar 6) (eOp opIx (eVar 2) (eC (.int 1)))) (eOp opMul (eOp opIx (eVar 2) (eC (.int 0))) (eVar 1)))) (tNot (tV (eVar 3))))
  (sAug 6 opAddI (eC (.int 1)))
  sPass)
  (sSeq (sSet 7 (eOp opFdiv (eOp opMul (eOp opIx (eVar 4) (eC (.int 0))) (eVar 1)) (eOp opIx (eVar 4) (eC (.int 1)))))
  (sSeq (sIf (tAnd (tV (eOp opEq (eOp opMul (eVar 7) (eOp opIx (eVar 4) (eC (.int 1)))) (eOp opMul (eOp opIx (eVar 4) (eC (.int 0))) (eVar 1)))) (tNot (tV (eVar 5))))
  (sAug 7 opSub (eC (.int 1)))
  sPass)
  (sRet (eTup (aCons (eVar 6) (aCons (eVar 7) aNil)))))))))
def m_tops_in : List W → M W := bodyM 8 2 b_tops_in
def b_simplest_of_L0 : SM := (sSeq (sUnp [2, 3] (eCall m_tops_in (aCons (eVar 0) (aCons (eVar 1) aNil))))
  (sIf (tV (eOp opLe (eVar 2) (eVar 3)))
  (sRet (eTup (aCons (eVar 2) (aCons (eVar 1) aNil))))
  sPass))
def b_simplest_of : SM := (sSeq (sFor (iRg2 (eC (.int 1)) (eOp opAdd (eC (.int 1000)) (eC (.int 1)))) (bdN 1)
  b_simplest_of_L0)
  (sRet (eC .non)))
def m_simplest_of : List W → M W := bodyM 4 1 b_simplest_of
def b_simplest : SM := (sSeq (sDrop (eCall m_check_range (aCons (eVar 0) aNil)))
  (sSeq (sSet 1 (eCall m_simplest_of (aCons (eVar 0) aNil)))
  (sSeq (sIf (tV (eOp opIs (eVar 1) (eC .non)))
  (sRaise 5)
  sPass)
  (sRet (eCall m_lowest (aCons (eOp opIx (eVar 1) (eC (.int 0))) (aCons (eOp opIx (eVar 1) (eC (.int 1))) aNil)))))))
def m_simplest : List W → M W := bodyM 2 1 b_simplest
def b_simplest_all_C0 : EM := (eTup (aCons (eVar 4) (aCons (eOp opIx (eVar 1) (eC (.int 1))) aNil)))
def b_simplest_all : SM := (sSeq (sDrop (eCall m_check_range (aCons (eVar 0) aNil)))
  (sSeq (sSet 1 (eCall m_simplest_of (aCons (eVar 0) aNil)))
  (sSeq (sIf (tV (eOp opIs (eVar 1) (eC .non)))
  (sRaise 5)
  sPass)
  (sSeq (sUnp [2, 3] (eCall m_tops_in (aCons (eVar 0) (aCons (eOp opIx (eVar 1) (eC (.int 1))) aNil))))
  (sRet (eComp (iRg2 (eVar 2) (eOp opAdd (eVar 3) (eC (.int 1)))) (bdN 4) [4] cYes b_simplest_all_C0))))))
def m_simplest_all : List W → M W := bodyM 5 1 b_simplest_all
def b_is_simplest : SM := (sSeq (sDrop (eCall m_check_fraction (aCons (eVar 0) aNil)))
  (sSeq (sDrop (eCall m_check_digits (aCons (eVar 1) aNil)))
  (sSeq (sDrop (eCall m_check_rule (aCons (eVar 2) aNil)))
  (sSeq (sSet 3 (eCall m_span_of (aCons (eCall m_units_of (aCons (eVar 0) (aCons (eVar 1) (aCons (eVar 2) aNil)))) (aCons (eVar 1) (aCons (eVar 2) aNil)))))
  (sSeq (sSet 4 (eCall m_simplest_of (aCons (eVar 3) aNil)))
  (sRet (eAnd (eOp opIsn (eVar 4) (eC .non)) (eOp opEq (eOp opIx (eVar 4) (eC (.int 1))) (eOp opIx (eVar 0) (eC (.int 1)))))))))))
def m_is_simplest : List W → M W := bodyM 5 3 b_is_simplest
def b_digits_to_find_L0 : SM := (sSeq (sSet 3 (eCall m_span_of (aCons (eCall m_units_of (aCons (eVar 0) (aCons (eVar 2) (aCons (eVar 1) aNil)))) (aCons (eVar 2) (aCons (eVar 1) aNil)))))
  (sSeq (sSet 4 (eCall m_simplest_of (aCons (eVar 3) aNil)))
  (sIf (tAnd (tV (eOp opIsn (eVar 4) (eC .non))) (tAnd (tV (eOp opEq (eOp opIx (eVar 4) (eC (.int 1))) (eOp opIx (eVar 0) (eC (.int 1))))) (tV (eOp opEq (eCall m_tops_in (aCons (eVar 3) (aCons (eOp opIx (eVar 4) (eC (.int 1))) aNil))) (eTup (aCons (eOp opIx (eVar 0) (eC (.int 0))) (aCons (eOp opIx (eVar 0) (eC (.int 0))) aNil)))))))
  (sRet (eVar 2))
  sPass)))
def b_digits_to_find : SM := (sSeq (sDrop (eCall m_check_fraction (aCons (eVar 0) aNil)))
  (sSeq (sDrop (eCall m_check_rule (aCons (eVar 1) aNil)))
  (sSeq (sFor (iRg1 (eC (.int 7))) (bdN 2)
  b_digits_to_find_L0)
  (sRet (eC .non)))))
def m_digits_to_find : List W → M W := bodyM 5 2 b_digits_to_find
def b__law_digits_L0 : SM := (sSeq (sApp 4 (eVar 2))
  (sSeq (sApp 3 (eOp opFdiv (eOp opMul (eVar 2) (eC (.int 10))) (eOp opIx (eVar 0) (eC (.int 1)))))
  (sSet 2 (eOp opMod (eOp opMul (eVar 2) (eC (.int 10))) (eOp opIx (eVar 0) (eC (.int 1)))))))
def b__law_digits : SM := (sSeq (sSet 2 (eOp opMod (eCall cAbs (aCons (eOp opIx (eVar 0) (eC (.int 0))) aNil)) (eOp opIx (eVar 0) (eC (.int 1)))))
  (sSeq (sParOO 3 4)
  (sSeq (sFor (iRg1 (eVar 1)) (bdN 5)
  b__law_digits_L0)
  (sFrz 4 (sFrz 3 (sRet (eTup (aCons (eVar 3) (aCons (eOp opAdd (eVar 4) (eLst (aCons (eVar 2) aNil))) aNil)))))))))
def m__law_digits : List W → M W := bodyM 6 2 b__law_digits
def b_parts_of_L0 : SM := (sSeq (sAug 3 opFdiv (eC (.int 2)))
  (sAug 1 opAddI (eC (.int 1))))
def b_parts_of_L1 : SM := (sSeq (sAug 3 opFdiv (eC (.int 5)))
  (sAug 2 opAddI (eC (.int 1))))
def b_parts_of : SM := (sSeq (sPar [1, 2, 3] (aCons (eC (.int 0)) (aCons (eC (.int 0)) (aCons (eVar 0) aNil))))
  (sSeq (loopW (tV (eOp opEq (eOp opMod (eVar 3) (eC (.int 2))) (eC (.int 0))))
  b_parts_of_L0 fuelN)
  (sSeq (loopW (tV (eOp opEq (eOp opMod (eVar 3) (eC (.int 5))) (eC (.int 0))))
  b_parts_of_L1 fuelN)
  (sRet (eTup (aCons (eCall cMax2 (aCons (eVar 1) (aCons (eVar 2) aNil))) (aCons (eVar 3) aNil)))))))
def m_parts_of : List W → M W := bodyM 4 1 b_parts_of
def b_period_L0 : SM := (sSeq (sSet 4 (eOp opMod (eOp opMul (eVar 4) (eC (.int 10))) (eVar 2)))
  (sAug 3 opAddI (eC (.int 1))))
def b_period : SM := (sSeq (sDrop (eCall m_check_fraction (aCons (eVar 0) aNil)))
  (sSeq (sUnp [1, 2] (eCall m_parts_of (aCons (eOp opIx (eVar 0) (eC (.int 1))) aNil)))
  (sSeq (sIf (tV (eOp opEq (eVar 2) (eC (.int 1))))
  (sRet (eTup (aCons (eVar 1) (aCons (eC (.int 0)) aNil))))
  sPass)
  (sSeq (sPar [3, 4] (aCons (eC (.int 1)) (aCons (eOp opMod (eC (.int 10)) (eVar 2)) aNil)))
  (sSeq (loopW (tV (eOp opNe (eVar 4) (eC (.int 1))))
  b_period_L0 fuelN)
  (sRet (eTup (aCons (eVar 1) (aCons (eVar 3) aNil)))))))))
def m_period : List W → M W := bodyM 5 1 b_period
def b_digits_needed : SM := (sSeq (sDrop (eCall m_check_fraction (aCons (eVar 0) aNil)))
  (sSeq (sUnp [1, 2] (eCall m_parts_of (aCons (eOp opIx (eVar 0) (eC (.int 1))) aNil)))
  (sRet (eIf (tV (eOp opEq (eVar 2) (eC (.int 1)))) (eVar 1) (eC .non)))))
def m_digits_needed : List W → M W := bodyM 3 1 b_digits_needed
def b_digits_of_L0 : SM := (sSeq (sApp 3 (eOp opFdiv (eOp opMul (eVar 2) (eC (.int 10))) (eOp opIx (eVar 0) (eC (.int 1)))))
  (sSet 2 (eOp opMod (eOp opMul (eVar 2) (eC (.int 10))) (eOp opIx (eVar 0) (eC (.int 1))))))
def b_digits_of : SM := (sSeq (sDrop (eCall m_check_fraction (aCons (eVar 0) aNil)))
  (sSeq (sIf (tNot (tV (eCall m_is_int (aCons (eVar 1) (aCons (eC (.int 0)) (aCons (eC (.int 200)) aNil))))))
  (sRaise 3)
  sPass)
  (sSeq (sSet 2 (eOp opMod (eCall cAbs (aCons (eOp opIx (eVar 0) (eC (.int 0))) aNil)) (eOp opIx (eVar 0) (eC (.int 1)))))
  (sSeq (sOwn 3 aNil)
  (sSeq (sFor (iRg1 (eVar 1)) (bdN 4)
  b_digits_of_L0)
  (sFrz 3 (sRet (eVar 3))))))))
def m_digits_of : List W → M W := bodyM 5 2 b_digits_of
def b_period_digits : SM := (sSeq (sDrop (eCall m_check_fraction (aCons (eVar 0) aNil)))
  (sSeq (sUnp [1, 2] (eCall m_period (aCons (eVar 0) aNil)))
  (sRet (eSl (eCall m_digits_of (aCons (eVar 0) (aCons (eOp opAdd (eVar 1) (eVar 2)) aNil))) (oSome (eVar 1)) oNone))))
def m_period_digits : List W → M W := bodyM 3 1 b_period_digits
def b_digit_sum : SM := (sSeq (sDrop (eCall m_check_fraction (aCons (eVar 0) aNil)))
  (sSeq (sIf (tNot (tV (eCall m_is_int (aCons (eVar 1) (aCons (eC (.int 0)) (aCons (eC (.int 100000)) aNil))))))
  (sRaise 3)
  sPass)
  (sSeq (sUnp [2, 3] (eCall m_period (aCons (eVar 0) aNil)))
  (sSeq (sIf (tV (eOp opLe (eVar 1) (eOp opAdd (eVar 2) (eVar 3))))
  (sRet (eCall cSum (aCons (eCall m_digits_of (aCons (eVar 0) (aCons (eVar 1) aNil))) aNil)))
  sPass)
  (sSeq (sSet 4 (eCall m_digits_of (aCons (eVar 0) (aCons (eOp opAdd (eVar 2) (eVar 3)) aNil))))
  (sSeq (sIf (tV (eOp opEq (eVar 3) (eC (.int 0))))
  (sRet (eCall cSum (aCons (eVar 4) aNil)))
  sPass)
  (sSeq (sPar [5, 6] (aCons (eOp opFdiv (eOp opSub (eVar 1) (eVar 2)) (eVar 3)) (aCons (eOp opMod (eOp opSub (eVar 1) (eVar 2)) (eVar 3)) aNil)))
  (sRet (eOp opAdd (eOp opAdd (eCall cSum (aCons (eSl (eVar 4) oNone (oSome (eVar 2))) aNil)) (eOp opMul (eVar 5) (eCall cSum (aCons (eSl (eVar 4) (oSome (eVar 2)) oNone) aNil)))) (eCall cSum (aCons (eSl (eVar 4) (oSome (eVar 2)) (oSome (eOp opAdd (eVar 2) (eVar 6)))) aNil)))))))))))
def m_digit_sum : List W → M W := bodyM 7 2 b_digit_sum
def b_digit_at : SM := (sSeq (sDrop (eCall m_check_fraction (aCons (eVar 0) aNil)))
  (sSeq (sIf (tNot (tV (eCall m_is_int (aCons (eVar 1) (aCons (eC (.int 0)) (aCons (eC (.int 100000)) aNil))))))
  (sRaise 3)
  sPass)
  (sSeq (sUnp [2, 3] (eCall m_period (aCons (eVar 0) aNil)))
  (sSeq (sIf (tV (eOp opGe (eVar 1) (eOp opAdd (eVar 2) (eVar 3))))
  (sSet 1 (eIf (tV (eOp opGt (eVar 3) (eC (.int 0)))) (eOp opAdd (eVar 2) (eOp opMod (eOp opSub (eVar 1) (eVar 2)) (eVar 3))) (eVar 1)))
  sPass)
  (sSeq (sIf (tAnd (tV (eOp opEq (eVar 3) (eC (.int 0)))) (tV (eOp opGe (eVar 1) (eVar 2))))
  (sRet (eC (.int 0)))
  sPass)
  (sRet (eOp opIx (eCall m_digits_of (aCons (eVar 0) (aCons (eOp opAdd (eVar 1) (eC (.int 1))) aNil))) (eVar 1))))))))
def m_digit_at : List W → M W := bodyM 4 2 b_digit_at
def b_same_period_C0 : EM := (eOp opAdd (eSl (eVar 2) (oSome (eVar 4)) oNone) (eSl (eVar 2) oNone (oSome (eVar 4))))
def b_same_period : SM := (sSeq (sDrop (eCall m_check_fraction (aCons (eVar 0) aNil)))
  (sSeq (sDrop (eCall m_check_fraction (aCons (eVar 1) aNil)))
  (sSeq (sUnp [2, 3] (eTup (aCons (eCall m_period_digits (aCons (eVar 0) aNil)) (aCons (eCall m_period_digits (aCons (eVar 1) aNil)) aNil))))
  (sSeq (sIf (tV (eOp opNe (eCall cLen (aCons (eVar 2) aNil)) (eCall cLen (aCons (eVar 3) aNil))))
  (sRet (eC (.bl false)))
  sPass)
  (sRet (eOr (eOp opEq (eVar 2) (eLst aNil)) (eOp opIn (eVar 3) (eComp (iRg1 (eCall cLen (aCons (eVar 2) aNil))) (bdN 4) [4] cYes b_same_period_C0))))))))
def m_same_period : List W → M W := bodyM 5 2 b_same_period
def b__law_turned_C0 : EM := (eOp opAdd (eSl (eVar 3) (oSome (eVar 6)) oNone) (eSl (eVar 3) oNone (oSome (eVar 6))))
def b__law_turned : SM := (sSeq (sSet 2 (eCall m__law_pick (aCons (eVar 0) (aCons (eLst (aCons (eCall m__law_fraction (aCons (eVar 0) aNil)) (aCons (eCall m__law_low (aCons (eOp opMul (eOp opIx (eVar 1) (eC (.int 0))) (eC (.int 10))) (aCons (eOp opIx (eVar 1) (eC (.int 1))) aNil))) (aCons (eVar 1) aNil)))) aNil))))
  (sSeq (sIf (tV (eOp opIsn (eCall m_is_fraction (aCons (eVar 2) aNil)) (eC (.bl true))))
  (sSet 2 (eVar 1))
  sPass)
  (sSeq (sUnp [3, 4] (eTup (aCons (eCall m_period_digits (aCons (eVar 1) aNil)) (aCons (eCall m_period_digits (aCons (eVar 2) aNil)) aNil))))
  (sSeq (sSet 5 (eAnd (eOp opEq (eCall cLen (aCons (eVar 3) aNil)) (eCall cLen (aCons (eVar 4) aNil))) (eOr (eOp opEq (eVar 3) (eLst aNil)) (eOp opIn (eVar 4) (eComp (iRg1 (eCall cLen (aCons (eVar 3) aNil))) (bdN 6) [6] cYes b__law_turned_C0)))))
  (sRet (eAnd (eCall m__law_true (aCons (eCall m_same_period (aCons (eVar 1) (aCons (eVar 2) aNil))) (aCons (eVar 5) aNil))) (eOp opIs (eCall m_same_period (aCons (eVar 1) (aCons (eVar 1) aNil))) (eC (.bl true)))))))))
def m__law_turned : List W → M W := bodyM 7 2 b__law_turned
def b_check_steps : SM := (sSeq (sDrop (eCall m_check_digits (aCons (eVar 0) aNil)))
  (sIf (tNot (tV (eCall m_is_int (aCons (eVar 1) (aCons (eC (.int 0)) (aCons (eVar 0) aNil))))))
  (sRaise 3)
  sPass))
def m_check_steps : List W → M W := bodyM 2 2 b_check_steps
def b_twice_of : SM := (sSeq (sSet 4 (eCall m_lowest (aCons (eCall m_units_of (aCons (eVar 0) (aCons (eVar 1) (aCons (eVar 3) aNil)))) (aCons (eCall m_power_of (aCons (eVar 1) aNil)) aNil))))
  (sRet (eCall m_units_of (aCons (eVar 4) (aCons (eVar 2) (aCons (eVar 3) aNil))))))
def m_twice_of : List W → M W := bodyM 5 4 b_twice_of
def b_twice : SM := (sSeq (sDrop (eCall m_check_fraction (aCons (eVar 0) aNil)))
  (sSeq (sDrop (eCall m_check_steps (aCons (eVar 1) (aCons (eVar 2) aNil))))
  (sSeq (sDrop (eCall m_check_rule (aCons (eVar 3) aNil)))
  (sRet (eCall m_twice_of (aCons (eVar 0) (aCons (eVar 1) (aCons (eVar 2) (aCons (eVar 3) aNil)))))))))
def m_twice : List W → M W := bodyM 4 4 b_twice
def b_differs : SM := (sSeq (sDrop (eCall m_check_fraction (aCons (eVar 0) aNil)))
  (sSeq (sDrop (eCall m_check_steps (aCons (eVar 1) (aCons (eVar 2) aNil))))
  (sSeq (sDrop (eCall m_check_rule (aCons (eVar 3) aNil)))
  (sRet (eOp opNe (eCall m_twice_of (aCons (eVar 0) (aCons (eVar 1) (aCons (eVar 2) (aCons (eVar 3) aNil))))) (eCall m_units_of (aCons (eVar 0) (aCons (eVar 2) (aCons (eVar 3) aNil)))))))))
def m_differs : List W → M W := bodyM 4 4 b_differs
def b_first_trap_L0 : SM := (sIf (tV (eOp opNe (eCall m_twice_of (aCons (eVar 0) (aCons (eVar 3) (aCons (eVar 1) (aCons (eVar 2) aNil))))) (eCall m_units_of (aCons (eVar 0) (aCons (eVar 1) (aCons (eVar 2) aNil))))))
  (sRet (eVar 3))
  sPass)
def b_first_trap : SM := (sSeq (sDrop (eCall m_check_fraction (aCons (eVar 0) aNil)))
  (sSeq (sDrop (eCall m_check_digits (aCons (eVar 1) aNil)))
  (sSeq (sDrop (eCall m_check_rule (aCons (eVar 2) aNil)))
  (sSeq (sFor (iRg2 (eVar 1) (eC (.int 7))) (bdN 3)
  b_first_trap_L0)
  (sRet (eC .non))))))
def m_first_trap : List W → M W := bodyM 4 3 b_first_trap
def b_step_down_L0 : SM := (sSeq (sSet 6 (eCall m_units_of (aCons (eVar 4) (aCons (eVar 5) (aCons (eVar 2) aNil)))))
  (sSeq (sApp 3 (eVar 6))
  (sSet 4 (eCall m_lowest (aCons (eVar 6) (aCons (eCall m_power_of (aCons (eVar 5) aNil)) aNil))))))
def b_step_down : SM := (sSeq (sDrop (eCall m_check_fraction (aCons (eVar 0) aNil)))
  (sSeq (sDrop (eCall m_check_digits (aCons (eVar 1) aNil)))
  (sSeq (sDrop (eCall m_check_rule (aCons (eVar 2) aNil)))
  (sSeq (sOwn 3 aNil)
  (sSeq (sSet 4 (eVar 0))
  (sSeq (sFor (iRg3 (eVar 1) (eUn opNeg (eC (.int 1))) (eUn opNeg (eC (.int 1)))) (bdN 5)
  b_step_down_L0)
  (sFrz 3 (sRet (eVar 3)))))))))
def m_step_down : List W → M W := bodyM 7 3 b_step_down
def b_chain_error : SM := (sSeq (sSet 3 (eOp opIx (eCall m_step_down (aCons (eVar 0) (aCons (eVar 1) (aCons (eVar 2) aNil)))) (eUn opNeg (eC (.int 1)))))
  (sRet (eCall m_minus (aCons (eTup (aCons (eVar 3) (aCons (eC (.int 1)) aNil))) (aCons (eVar 0) aNil)))))
def m_chain_error : List W → M W := bodyM 4 3 b_chain_error
def b_traps_under_L0 : SM := (sSeq (sSet 6 (eCall m_lowest (aCons (eVar 5) (aCons (eVar 0) aNil))))
  (sIf (tAnd (tV (eOp opEq (eOp opIx (eVar 6) (eC (.int 1))) (eVar 0))) (tV (eOp opNe (eCall m_twice_of (aCons (eVar 6) (aCons (eVar 1) (aCons (eVar 2) (aCons (eVar 3) aNil))))) (eCall m_units_of (aCons (eVar 6) (aCons (eVar 2) (aCons (eVar 3) aNil)))))))
  (sAug 4 opAddI (eC (.int 1)))
  sPass))
def b_traps_under : SM := (sSeq (sIf (tNot (tV (eCall m_is_int (aCons (eVar 0) (aCons (eC (.int 1)) (aCons (eC (.int 60)) aNil))))))
  (sRaise 3)
  sPass)
  (sSeq (sDrop (eCall m_check_steps (aCons (eVar 1) (aCons (eVar 2) aNil))))
  (sSeq (sDrop (eCall m_check_rule (aCons (eVar 3) aNil)))
  (sSeq (sSet 4 (eC (.int 0)))
  (sSeq (sFor (iRg1 (eOp opAdd (eVar 0) (eC (.int 1)))) (bdN 5)
  b_traps_under_L0)
  (sRet (eVar 4)))))))
def m_traps_under : List W → M W := bodyM 7 4 b_traps_under
def b_Reader___init__ : SM := (sSeq (sDrop (eCall m_check_range (aCons (eVar 1) aNil)))
  (sSeq (sFldS "now" (eVar 0) (eVar 1))
  (sFldS "past" (eVar 0) (eNewS aNil))))
def m_Reader___init__ : List W → M W := bodyM 2 2 b_Reader___init__
def b__law_met : SM := (sSeq (sSet 2 (eIf (tV (eCall m__law_less (aCons (eOp opIx (eVar 1) (eC (.int 0))) (aCons (eOp opIx (eVar 0) (eC (.int 0))) aNil)))) (eSl (eVar 0) oNone (oSome (eC (.int 2)))) (eIf (tV (eCall m__law_less (aCons (eOp opIx (eVar 0) (eC (.int 0))) (aCons (eOp opIx (eVar 1) (eC (.int 0))) aNil)))) (eSl (eVar 1) oNone (oSome (eC (.int 2)))) (eTup (aCons (eOp opIx (eVar 0) (eC (.int 0))) (aCons (eAnd (eOp opIx (eVar 0) (eC (.int 1))) (eOp opIx (eVar 1) (eC (.int 1)))) aNil))))))
  (sSeq (sSet 3 (eIf (tV (eCall m__law_less (aCons (eOp opIx (eVar 0) (eC (.int 2))) (aCons (eOp opIx (eVar 1) (eC (.int 2))) aNil)))) (eSl (eVar 0) (oSome (eC (.int 2))) oNone) (eIf (tV (eCall m__law_less (aCons (eOp opIx (eVar 1) (eC (.int 2))) (aCons (eOp opIx (eVar 0) (eC (.int 2))) aNil)))) (eSl (eVar 1) (oSome (eC (.int 2))) oNone) (eTup (aCons (eOp opIx (eVar 0) (eC (.int 2))) (aCons (eAnd (eOp opIx (eVar 0) (eC (.int 3))) (eOp opIx (eVar 1) (eC (.int 3)))) aNil))))))
  (sSeq (sIf (tOr (tV (eCall m__law_less (aCons (eOp opIx (eVar 3) (eC (.int 0))) (aCons (eOp opIx (eVar 2) (eC (.int 0))) aNil)))) (tAnd (tV (eOp opEq (eOp opIx (eVar 2) (eC (.int 0))) (eOp opIx (eVar 3) (eC (.int 0))))) (tNot (tAnd (tV (eOp opIx (eVar 2) (eC (.int 1)))) (tV (eOp opIx (eVar 3) (eC (.int 1))))))))
  (sRet (eC (.str "none")))
  sPass)
  (sRet (eOp opAdd (eVar 2) (eVar 3))))))
def m__law_met : List W → M W := bodyM 4 2 b__law_met
def b_met : SM := (sSeq (sPar [2, 3] (aCons (eOp opIx (eVar 0) (eC (.int 0))) (aCons (eOp opIx (eVar 0) (eC (.int 1))) aNil)))
  (sSeq (sIf (tV (eCall m_less (aCons (eVar 2) (aCons (eOp opIx (eVar 1) (eC (.int 0))) aNil))))
  (sPar [2, 3] (aCons (eOp opIx (eVar 1) (eC (.int 0))) (aCons (eOp opIx (eVar 1) (eC (.int 1))) aNil)))
  (sIf (tV (eOp opEq (eVar 2) (eOp opIx (eVar 1) (eC (.int 0)))))
  (sSet 3 (eAnd (eVar 3) (eOp opIx (eVar 1) (eC (.int 1)))))
  sPass))
  (sSeq (sPar [4, 5] (aCons (eOp opIx (eVar 0) (eC (.int 2))) (aCons (eOp opIx (eVar 0) (eC (.int 3))) aNil)))
  (sSeq (sIf (tV (eCall m_less (aCons (eOp opIx (eVar 1) (eC (.int 2))) (aCons (eVar 4) aNil))))
  (sPar [4, 5] (aCons (eOp opIx (eVar 1) (eC (.int 2))) (aCons (eOp opIx (eVar 1) (eC (.int 3))) aNil)))
  (sIf (tV (eOp opEq (eVar 4) (eOp opIx (eVar 1) (eC (.int 2)))))
  (sSet 5 (eAnd (eVar 5) (eOp opIx (eVar 1) (eC (.int 3)))))
  sPass))
  (sRet (eTup (aCons (eVar 2) (aCons (eVar 3) (aCons (eVar 4) (aCons (eVar 5) aNil))))))))))
def m_met : List W → M W := bodyM 6 2 b_met
def b_Reader_tell : SM := (sSeq (sDrop (eCall m_check_digits (aCons (eVar 2) aNil)))
  (sSeq (sDrop (eCall m_check_whole (aCons (eVar 1) (aCons (eVar 2) aNil))))
  (sSeq (sDrop (eCall m_check_rule (aCons (eVar 3) aNil)))
  (sSeq (sSet 4 (eCall m_met (aCons (eFld "now" (eVar 0)) (aCons (eCall m_span_of (aCons (eVar 1) (aCons (eVar 2) (aCons (eVar 3) aNil)))) aNil))))
  (sSeq (sIf (tNot (tV (eCall m_is_span (aCons (eVar 4) aNil))))
  (sRaise 5)
  sPass)
  (sSeq (sDrop (eAppO (eFld "past" (eVar 0)) (eFld "now" (eVar 0))))
  (sSeq (sFldS "now" (eVar 0) (eVar 4))
  (sRet (eVar 4)))))))))
def m_Reader_tell : List W → M W := bodyM 5 4 b_Reader_tell
def b_Reader_undo : SM := (sSeq (sIf (tV (eOp opEqO (eFld "past" (eVar 0)) (eLst aNil)))
  (sRaise 5)
  sPass)
  (sSeq (sFldS "now" (eVar 0) (ePopO (eFld "past" (eVar 0))))
  (sRet (eFld "now" (eVar 0)))))
def m_Reader_undo : List W → M W := bodyM 1 1 b_Reader_undo
def b_Reader_span : SM := (sRet (eFld "now" (eVar 0)))
def m_Reader_span : List W → M W := bodyM 1 1 b_Reader_span
def b_Reader___len__ : SM := (sRet (eCall cLen (aCons (eFld "past" (eVar 0)) aNil)))
def m_Reader___len__ : List W → M W := bodyM 1 1 b_Reader___len__
def b_Reader_simplest : SM := (sSeq (sSet 1 (eCall m_simplest_of (aCons (eFld "now" (eVar 0)) aNil)))
  (sRet (eIf (tV (eOp opIsn (eVar 1) (eC .non))) (eCall m_lowest (aCons (eOp opIx (eVar 1) (eC (.int 0))) (aCons (eOp opIx (eVar 1) (eC (.int 1))) aNil))) (eC .non))))
def m_Reader_simplest : List W → M W := bodyM 2 1 b_Reader_simplest
def b_Reader_shortest : SM := (sSeq (sSet 1 (eCall m_least_of (aCons (eFld "now" (eVar 0)) aNil)))
  (sRet (eIf (tV (eOp opIsn (eVar 1) (eC .non))) (eTup (aCons (eOp opIx (eCall m_ends_of (aCons (eFld "now" (eVar 0)) (aCons (eVar 1) aNil))) (eC (.int 0))) (aCons (eVar 1) aNil))) (eC .non))))
def m_Reader_shortest : List W → M W := bodyM 2 1 b_Reader_shortest
def b_format_fraction : SM := (sSeq (sDrop (eCall m_check_fraction (aCons (eVar 0) aNil)))
  (sRet (eIf (tV (eOp opEq (eOp opIx (eVar 0) (eC (.int 1))) (eC (.int 1)))) (eCall cStr (aCons (eOp opIx (eVar 0) (eC (.int 0))) aNil)) (eJoin [(eFmt (eOp opIx (eVar 0) (eC (.int 0)))), (eC (.str "/")), (eFmt (eOp opIx (eVar 0) (eC (.int 1))))]))))
def m_format_fraction : List W → M W := bodyM 1 1 b_format_fraction
def b_written : SM := (sSeq (sSet 2 (eCall m_power_of (aCons (eVar 1) aNil)))
  (sSeq (sPar [3, 4] (aCons (eOp opFdiv (eCall cAbs (aCons (eVar 0) aNil)) (eVar 2)) (aCons (eOp opMod (eCall cAbs (aCons (eVar 0) aNil)) (eVar 2)) aNil)))
  (sSeq (sSet 5 (eIf (tV (eOp opLt (eVar 0) (eC (.int 0)))) (eC (.str "-")) (eC (.str ""))))
  (sSeq (sIf (tV (eOp opEq (eVar 1) (eC (.int 0))))
  (sRet (eJoin [(eFmt (eVar 5)), (eFmt (eVar 3))]))
  sPass)
  (sSeq (sSet 6 (eCall cStr (aCons (eVar 4) aNil)))
  (sRet (eOp opAdd (eOp opAdd (eJoin [(eFmt (eVar 5)), (eFmt (eVar 3)), (eC (.str "."))]) (eOp opMul (eC (.str "0")) (eOp opSub (eVar 1) (eCall cLen (aCons (eVar 6) aNil))))) (eVar 6))))))))
def m_written : List W → M W := bodyM 7 2 b_written
def b_format_decimal : SM := (sSeq (sDrop (eCall m_check_digits (aCons (eVar 1) aNil)))
  (sSeq (sDrop (eCall m_check_whole (aCons (eVar 0) (aCons (eVar 1) aNil))))
  (sRet (eCall m_written (aCons (eVar 0) (aCons (eVar 1) aNil))))))
def m_format_decimal : List W → M W := bodyM 2 2 b_format_decimal
def b_format_rounded : SM := (sSeq (sDrop (eCall m_check_fraction (aCons (eVar 0) aNil)))
  (sSeq (sDrop (eCall m_check_digits (aCons (eVar 1) aNil)))
  (sSeq (sDrop (eCall m_check_rule (aCons (eVar 2) aNil)))
  (sRet (eCall m_written (aCons (eCall m_units_of (aCons (eVar 0) (aCons (eVar 1) (aCons (eVar 2) aNil)))) (aCons (eVar 1) aNil)))))))
def m_format_rounded : List W → M W := bodyM 3 3 b_format_rounded
def b__law_written : SM := (sSeq (sIf (tV (eOp opEq (eVar 0) (eC (.int 1))))
  (sRet (eOp opAdd (eCall cStr (aCons (eOp opIx (eVar 1) (eC (.int 0))) aNil)) (eIf (tV (eOp opEq (eOp opIx (eVar 1) (eC (.int 1))) (eC (.int 1)))) (eC (.str "")) (eOp opAdd (eC (.str "/")) (eCall cStr (aCons (eOp opIx (eVar 1) (eC (.int 1))) aNil))))))
  sPass)
  (sSeq (sUnp [2, 3] (eVar 1))
  (sSeq (sSet 4 (eOp opAdd (eOp opMul (eC (.str "0")) (eC (.int 9))) (eCall cStr (aCons (eCall cAbs (aCons (eVar 2) aNil)) aNil))))
  (sSeq (sSet 5 (eCall cStr (aCons (eOp opFdiv (eCall cAbs (aCons (eVar 2) aNil)) (eCall m__law_ten (aCons (eVar 3) aNil))) aNil)))
  (sRet (eOp opAdd (eOp opAdd (eIf (tV (eOp opLt (eVar 2) (eC (.int 0)))) (eC (.str "-")) (eC (.str ""))) (eVar 5)) (eIf (tV (eOp opGt (eVar 3) (eC (.int 0)))) (eOp opAdd (eC (.str ".")) (eSl (eVar 4) (oSome (eOp opSub (eCall cLen (aCons (eVar 4) aNil)) (eVar 3))) oNone)) (eC (.str "")))))))))
def m__law_written : List W → M W := bodyM 6 2 b__law_written
def b_parse_decimal_C0 : EM := (eOp opIn (eVar 6) (eC (.str "0123456789")))
def b_parse_decimal : SM := (sSeq (sIf (tNot (tV (eUn (isI "str") (eVar 0))))
  (sRaise 4)
  sPass)
  (sSeq (sSet 1 (eIf (tV (eOp opEq (eSl (eVar 0) oNone (oSome (eC (.int 1)))) (eC (.str "-")))) (eSl (eVar 0) (oSome (eC (.int 1))) oNone) (eVar 0)))
  (sSeq (sUnp [2, 3, 4] (ePart (eVar 1) (eC (.str "."))))
  (sSeq (sIf (tOr (tV (eOp opEq (eVar 2) (eC (.str "")))) (tOr (tV (eOp opGt (eCall cLen (aCons (eVar 2) aNil)) (eC (.int 3)))) (tOr (tV (eOp opGt (eCall cLen (aCons (eVar 4) aNil)) (eC (.int 6)))) (tAnd (tV (eOp opNe (eVar 3) (eC (.str "")))) (tV (eOp opEq (eVar 4) (eC (.str ""))))))))
  (sRaise 4)
  sPass)
  (sSeq (sIf (tNot (tV (eCall cAll (aCons (eComp (iLst (eOp opAdd (eVar 2) (eVar 4))) (bdN 6) [6] cYes b_parse_decimal_C0) aNil))))
  (sRaise 4)
  sPass)
  (sSeq (sSet 5 (eCall cInt (aCons (eOp opAdd (eVar 2) (eVar 4)) aNil)))
  (sSeq (sSet 5 (eIf (tV (eOp opEq (eSl (eVar 0) oNone (oSome (eC (.int 1)))) (eC (.str "-")))) (eUn opNeg (eVar 5)) (eVar 5)))
  (sSeq (sIf (tOr (tV (eOp opGt (eCall cAbs (aCons (eVar 5) aNil)) (eOp opMul (eC (.int 101)) (eCall m_power_of (aCons (eCall cLen (aCons (eVar 4) aNil)) aNil))))) (tV (eOp opNe (eCall m_written (aCons (eVar 5) (aCons (eCall cLen (aCons (eVar 4) aNil)) aNil))) (eVar 0))))
  (sRaise 4)
  sPass)
  (sRet (eTup (aCons (eVar 5) (aCons (eCall cLen (aCons (eVar 4) aNil)) aNil))))))))))))
def m_parse_decimal : List W → M W := bodyM 7 1 b_parse_decimal
def b_parse_fraction_C0 : EM := (eOp opIn (eVar 7) (eC (.str "0123456789")))
def b_parse_fraction : SM := (sSeq (sIf (tNot (tV (eUn (isI "str") (eVar 0))))
  (sRaise 4)
  sPass)
  (sSeq (sSet 1 (eIf (tV (eOp opEq (eSl (eVar 0) oNone (oSome (eC (.int 1)))) (eC (.str "-")))) (eSl (eVar 0) (oSome (eC (.int 1))) oNone) (eVar 0)))
  (sSeq (sUnp [2, 3, 4] (ePart (eVar 1) (eC (.str "/"))))
  (sSeq (sIf (tOr (tNot (tV (eCall cAll (aCons (eComp (iLst (eOp opAdd (eVar 2) (eVar 4))) (bdN 7) [7] cYes b_parse_fraction_C0) aNil)))) (tOr (tNot (tV (eChain opLe opLe (eC (.int 1)) (eCall cLen (aCons (eVar 2) aNil)) (eC (.int 4))))) (tV (eOp opGt (eCall cLen (aCons (eVar 4) aNil)) (eC (.int 2))))))
  (sRaise 4)
  sPass)
  (sSeq (sIf (tAnd (tV (eOp opNe (eVar 3) (eC (.str "")))) (tV (eOp opEq (eVar 4) (eC (.str "")))))
  (sRaise 4)
  sPass)
  (sSeq (sSet 5 (eCall cInt (aCons (eVar 2) aNil)))
  (sSeq (sSet 6 (eTup (aCons (eIf (tV (eOp opEq (eSl (eVar 0) oNone (oSome (eC (.int 1)))) (eC (.str "-")))) (eUn opNeg (eVar 5)) (eVar 5)) (aCons (eIf (tV (eOp opNe (eVar 4) (eC (.str "")))) (eCall cInt (aCons (eVar 4) aNil)) (eC (.int 1))) aNil))))
  (sSeq (sIf (tOr (tNot (tV (eCall m_is_fraction (aCons (eVar 6) aNil)))) (tV (eOp opNe (eCall m_format_fraction (aCons (eVar 6) aNil)) (eVar 0))))
  (sRaise 4)
  sPass)
  (sRet (eVar 6))))))))))
def m_parse_fraction : List W → M W := bodyM 8 1 b_parse_fraction
def b__law_parsed_T0 : SM := (sSet 2 (eIf (tV (eOp opEq (eVar 0) (eC (.int 0)))) (eCall m_parse_decimal (aCons (eVar 1) aNil)) (eCall m_parse_fraction (aCons (eVar 1) aNil))))
def b__law_parsed : SM := (sSeq (sSet 2 (eC .non))
  (sSeq (sSet 3 (eC .non))
  (sSeq (sTry 6 4 b__law_parsed_T0 (sSet 3 (eVar 4)))
  (sRet (eIf (tV (eOp opIs (eVar 3) (eC .non))) (eVar 2) (eCall m__law_error (aCons (eVar 3) aNil)))))))
def m__law_parsed : List W → M W := bodyM 5 2 b__law_parsed
def b__law_rejected_C0 : EM := (eCall m__law_parsed (aCons (eC (.int 0)) (aCons (eVar 1) aNil)))
def b__law_rejected_C1 : EM := (eCall m__law_parsed (aCons (eC (.int 1)) (aCons (eVar 1) aNil)))
def b__law_rejected : SM := (sSeq (sSet 0 (eLst (aCons (eC .non) (aCons (eC (.int 5)) (aCons (eC (.str "")) (aCons (eC (.str ".")) (aCons (eC (.str "-")) (aCons (eC (.str "1.")) (aCons (eC (.str ".5")) (aCons (eC (.str "-.5")) (aCons (eC (.str "00")) (aCons (eC (.str "01")) (aCons (eC (.str "+1")) (aCons (eC (.str "-0")) (aCons (eC (.str "-0.0")) (aCons (eC (.str "0.0000000")) (aCons (eC (.str "102")) (aCons (eC (.str "101.1")) (aCons (eC (.str "1000")) (aCons (eC (.str "1,5")) (aCons (eC (.str "1 ")) (aCons (eC (.str "1.-5")) (aCons (eLst (aCons (eC (.str "1")) aNil)) (aCons (eC (.str "-101.5")) aNil))))))))))))))))))))))))
  (sSeq (sIf (tOr (tV (eOp opNe (eComp (iLst (eVar 0)) (bdN 1) [1] cYes b__law_rejected_C0) (eOp opMul (eLst (aCons (eC (.str "text")) aNil)) (eC (.int 22))))) (tV (eOp opNe (eCall m__law_parsed (aCons (eC (.int 0)) (aCons (eC (.str "-101.000000")) aNil))) (eTup (aCons (eOp opSub (eC (.int 0)) (eC (.int 101000000))) (aCons (eC (.int 6)) aNil))))))
  (sRet (eC (.bl false)))
  sPass)
  (sSeq (sSet 0 (eLst (aCons (eC .non) (aCons (eC (.int 5)) (aCons (eC (.str "")) (aCons (eC (.str "/")) (aCons (eC (.str "1/")) (aCons (eC (.str "/2")) (aCons (eC (.str "2/4")) (aCons (eC (.str "1/61")) (aCons (eC (.str "0/2")) (aCons (eC (.str "-0")) (aCons (eC (.str "01")) (aCons (eC (.str "1/02")) (aCons (eC (.str "101")) (aCons (eC (.str "5/1")) (aCons (eC (.str "1/2/3")) (aCons (eC (.str "1 /2")) (aCons (eC (.str "a")) (aCons (eC (.str "+1")) (aCons (eLst (aCons (eC (.str "1")) aNil)) (aCons (eC (.str "1/-2")) aNil))))))))))))))))))))))
  (sRet (eAnd (eOp opEq (eComp (iLst (eVar 0)) (bdN 1) [1] cYes b__law_rejected_C1) (eOp opMul (eLst (aCons (eC (.str "text")) aNil)) (eC (.int 20)))) (eAnd (eOp opEq (eCall m__law_parsed (aCons (eC (.int 1)) (aCons (eC (.str "-100")) aNil))) (eTup (aCons (eOp opSub (eC (.int 0)) (eC (.int 100))) (aCons (eC (.int 1)) aNil)))) (eOp opEq (eCall m__law_parsed (aCons (eC (.int 1)) (aCons (eC (.str "5999/60")) aNil))) (eTup (aCons (eC (.int 5999)) (aCons (eC (.int 60)) aNil))))))))))
def m__law_rejected : List W → M W := bodyM 2 0 b__law_rejected
def b__law_shifted : SM := (sSeq (sIf (tV (eOp opLe (eCall cAbs (aCons (eOp opIx (eVar 1) (eC (.int 0))) aNil)) (eOp opMul (eC (.int 99)) (eOp opIx (eVar 1) (eC (.int 1))))))
  (sSeq (sSet 5 (eTup (aCons (eOp opAdd (eOp opIx (eVar 1) (eC (.int 0))) (eOp opIx (eVar 1) (eC (.int 1)))) (aCons (eOp opIx (eVar 1) (eC (.int 1))) aNil))))
  (sSeq (sIf (tAnd (tV (eOp opNin (eVar 4) (eTup (aCons (eC (.str "zero")) (aCons (eC (.str "near-zero")) (aCons (eC (.str "near-away")) aNil)))))) (tNot (tAnd (tV (eOp opEq (eVar 4) (eC (.str "near-even")))) (tV (eOp opEq (eVar 3) (eC (.int 0)))))))
  (sIf (tV (eOp opNe (eCall m_rounded (aCons (eVar 5) (aCons (eVar 3) (aCons (eVar 4) aNil)))) (eOp opAdd (eCall m_rounded (aCons (eVar 1) (aCons (eVar 3) (aCons (eVar 4) aNil)))) (eCall m__law_ten (aCons (eVar 3) aNil)))))
  (sRet (eC (.bl false)))
  sPass)
  sPass)
  (sSeq (sIf (tOr (tV (eOp opNe (eCall m_is_exact (aCons (eVar 5) (aCons (eVar 3) aNil))) (eCall m_is_exact (aCons (eVar 1) (aCons (eVar 3) aNil))))) (tV (eOp opNe (eCall m_is_middle (aCons (eVar 5) (aCons (eVar 3) aNil))) (eCall m_is_middle (aCons (eVar 1) (aCons (eVar 3) aNil))))))
  (sRet (eC (.bl false)))
  sPass)
  (sIf (tAnd (tV (eOp opGe (eOp opIx (eVar 1) (eC (.int 0))) (eC (.int 0)))) (tOr (tV (eOp opNe (eCall m_period (aCons (eVar 5) aNil)) (eCall m_period (aCons (eVar 1) aNil)))) (tV (eOp opNe (eCall m_digits_of (aCons (eVar 5) (aCons (eC (.int 20)) aNil))) (eCall m_digits_of (aCons (eVar 1) (aCons (eC (.int 20)) aNil)))))))
  (sRet (eC (.bl false)))
  sPass))))
  sPass)
  (sRet (eAnd (eOp opEq (eCall m_period (aCons (eVar 2) aNil)) (eCall m_period (aCons (eVar 1) aNil))) (eAnd (eOp opEq (eCall m_period_digits (aCons (eVar 2) aNil)) (eCall m_period_digits (aCons (eVar 1) aNil))) (eOp opEq (eCall m_digits_needed (aCons (eVar 2) aNil)) (eCall m_digits_needed (aCons (eVar 1) aNil)))))))
def m__law_shifted : List W → M W := bodyM 6 5 b__law_shifted
def b__law_least_T0 : SM := (sOset 1 (eC (.int 0)) (eCall m_least_digits (aCons (eVar 0) aNil)))
def b__law_least_T1 : SM := (sOset 1 (eC (.int 1)) (eOp opIx (eCall m_simplest (aCons (eVar 0) aNil)) (eC (.int 1))))
def b__law_least : SM := (sSeq (sOwn 1 (aCons (eC (.int 99)) (aCons (eC (.int 9999)) aNil)))
  (sSeq (sTry 5 2 b__law_least_T0 (sOset 1 (eC (.int 0)) (eIf (tV (eOp opEq (eCall m__law_error (aCons (eVar 2) aNil)) (eC (.str "none")))) (eC (.int 99)) (eOp opSub (eC (.int 0)) (eC (.int 1))))))
  (sSeq (sTry 5 2 b__law_least_T1 (sOset 1 (eC (.int 1)) (eIf (tV (eOp opEq (eCall m__law_error (aCons (eVar 2) aNil)) (eC (.str "none")))) (eC (.int 9999)) (eOp opSub (eC (.int 0)) (eC (.int 1))))))
  (sFrz 1 (sRet (eVar 1))))))
def m__law_least : List W → M W := bodyM 3 1 b__law_least
def b__law_one : SM := (sSeq (sIf (tV (eOp opEq (eVar 0) (eC (.int 0))))
  (sRet (eCall m_all_rounded (aCons (eVar 1) (aCons (eC (.int 0)) aNil))))
  sPass)
  (sSeq (sIf (tV (eOp opEq (eVar 0) (eC (.int 1))))
  (sRet (eCall m_digits_needed (aCons (eVar 1) aNil)))
  sPass)
  (sSeq (sIf (tV (eOp opEq (eVar 0) (eC (.int 2))))
  (sRet (eCall m_period (aCons (eVar 1) aNil)))
  sPass)
  (sSeq (sIf (tV (eOp opEq (eVar 0) (eC (.int 3))))
  (sRet (eCall m_period_digits (aCons (eVar 1) aNil)))
  sPass)
  (sSeq (sIf (tV (eOp opEq (eVar 0) (eC (.int 4))))
  (sRet (eCall m_same_period (aCons (eVar 1) (aCons (eTup (aCons (eC (.int 1)) (aCons (eC (.int 3)) aNil))) aNil))))
  sPass)
  (sSeq (sIf (tV (eOp opEq (eVar 0) (eC (.int 5))))
  (sRet (eCall m_same_period (aCons (eTup (aCons (eC (.int 1)) (aCons (eC (.int 3)) aNil))) (aCons (eVar 1) aNil))))
  sPass)
  (sSeq (sIf (tV (eOp opEq (eVar 0) (eC (.int 6))))
  (sRet (eCall m_format_fraction (aCons (eVar 1) aNil)))
  sPass)
  (sSeq (sIf (tV (eOp opEq (eVar 0) (eC (.int 7))))
  (sRet (eCall m_least_digits_for (aCons (eVar 1) (aCons (eTup (aCons (eC (.int 1)) (aCons (eC (.int 2)) aNil))) aNil))))
  sPass)
  (sSeq (sIf (tV (eOp opEq (eVar 0) (eC (.int 8))))
  (sRet (eCall m_least_digits_for (aCons (eTup (aCons (eC (.int 1)) (aCons (eC (.int 3)) aNil))) (aCons (eVar 1) aNil))))
  sPass)
  (sSeq (sIf (tV (eOp opEq (eVar 0) (eC (.int 9))))
  (sRet (eCall m_tells_apart (aCons (eVar 1) (aCons (eTup (aCons (eC (.int 1)) (aCons (eC (.int 3)) aNil))) (aCons (eC (.str "down")) aNil)))))
  sPass)
  (sSeq (sIf (tV (eOp opEq (eVar 0) (eC (.int 10))))
  (sRet (eCall m_tells_apart (aCons (eTup (aCons (eC (.int 1)) (aCons (eC (.int 3)) aNil))) (aCons (eVar 1) (aCons (eC (.str "down")) aNil)))))
  sPass)
  (sSeq (sIf (tV (eOp opEq (eVar 0) (eC (.int 11))))
  (sRet (eCall m_contains (aCons (eTup (aCons (eTup (aCons (eC (.int 0)) (aCons (eC (.int 1)) aNil))) (aCons (eC (.bl true)) (aCons (eTup (aCons (eC (.int 1)) (aCons (eC (.int 1)) aNil))) (aCons (eC (.bl true)) aNil))))) (aCons (eVar 1) aNil))))
  sPass)
  (sRet (eIf (tV (eOp opEq (eVar 0) (eC (.int 12)))) (eCall m_nearest (aCons (eTup (aCons (eTup (aCons (eC (.int 0)) (aCons (eC (.int 1)) aNil))) (aCons (eC (.bl true)) (aCons (eTup (aCons (eC (.int 1)) (aCons (eC (.int 1)) aNil))) (aCons (eC (.bl true)) aNil))))) (aCons (eVar 1) aNil))) (eCall m_digits_to_find (aCons (eVar 1) (aCons (eC (.str "down")) aNil)))))))))))))))))
def m__law_one : List W → M W := bodyM 2 2 b__law_one
def b__law_two : SM := (sSeq (sIf (tV (eOp opEq (eVar 0) (eC (.int 0))))
  (sRet (eCall m_rounded (aCons (eVar 1) (aCons (eVar 2) (aCons (eC (.str "down")) aNil)))))
  sPass)
  (sSeq (sIf (tV (eOp opEq (eVar 0) (eC (.int 1))))
  (sRet (eCall m_all_rounded (aCons (eVar 1) (aCons (eVar 2) aNil))))
  sPass)
  (sSeq (sIf (tV (eOp opEq (eVar 0) (eC (.int 2))))
  (sRet (eCall m_error_of (aCons (eVar 1) (aCons (eVar 2) (aCons (eC (.str "down")) aNil)))))
  sPass)
  (sSeq (sIf (tV (eOp opEq (eVar 0) (eC (.int 3))))
  (sRet (eCall m_is_exact (aCons (eVar 1) (aCons (eVar 2) aNil))))
  sPass)
  (sSeq (sIf (tV (eOp opEq (eVar 0) (eC (.int 4))))
  (sRet (eCall m_is_middle (aCons (eVar 1) (aCons (eVar 2) aNil))))
  sPass)
  (sSeq (sIf (tV (eOp opEq (eVar 0) (eC (.int 5))))
  (sRet (eCall m_reads_as (aCons (eVar 1) (aCons (eC (.int 0)) (aCons (eVar 2) (aCons (eC (.str "down")) aNil))))))
  sPass)
  (sSeq (sIf (tV (eOp opEq (eVar 0) (eC (.int 6))))
  (sRet (eCall m_is_simplest (aCons (eVar 1) (aCons (eVar 2) (aCons (eC (.str "down")) aNil)))))
  sPass)
  (sSeq (sIf (tV (eOp opEq (eVar 0) (eC (.int 7))))
  (sRet (eCall m_twice (aCons (eVar 1) (aCons (eVar 2) (aCons (eC (.int 0)) (aCons (eC (.str "down")) aNil))))))
  sPass)
  (sSeq (sIf (tV (eOp opEq (eVar 0) (eC (.int 8))))
  (sRet (eCall m_differs (aCons (eVar 1) (aCons (eVar 2) (aCons (eC (.int 0)) (aCons (eC (.str "down")) aNil))))))
  sPass)
  (sSeq (sIf (tV (eOp opEq (eVar 0) (eC (.int 9))))
  (sRet (eCall m_first_trap (aCons (eVar 1) (aCons (eVar 2) (aCons (eC (.str "down")) aNil)))))
  sPass)
  (sSeq (sIf (tV (eOp opEq (eVar 0) (eC (.int 10))))
  (sRet (eCall m_step_down (aCons (eVar 1) (aCons (eVar 2) (aCons (eC (.str "down")) aNil)))))
  sPass)
  (sSeq (sIf (tV (eOp opEq (eVar 0) (eC (.int 11))))
  (sRet (eCall m_chain_error (aCons (eVar 1) (aCons (eVar 2) (aCons (eC (.str "down")) aNil)))))
  sPass)
  (sRet (eCall m_format_rounded (aCons (eVar 1) (aCons (eVar 2) (aCons (eC (.str "down")) aNil)))))))))))))))))
def m__law_two : List W → M W := bodyM 3 3 b__law_two
def b__law_ruled : SM := (sSeq (sIf (tV (eOp opEq (eVar 0) (eC (.int 0))))
  (sRet (eCall m_rounded (aCons (eTup (aCons (eC (.int 1)) (aCons (eC (.int 3)) aNil))) (aCons (eC (.int 0)) (aCons (eVar 1) aNil)))))
  sPass)
  (sSeq (sIf (tV (eOp opEq (eVar 0) (eC (.int 1))))
  (sRet (eCall m_error_of (aCons (eTup (aCons (eC (.int 1)) (aCons (eC (.int 3)) aNil))) (aCons (eC (.int 0)) (aCons (eVar 1) aNil)))))
  sPass)
  (sSeq (sIf (tV (eOp opEq (eVar 0) (eC (.int 2))))
  (sRet (eCall m_range_of (aCons (eC (.int 0)) (aCons (eC (.int 0)) (aCons (eVar 1) aNil)))))
  sPass)
  (sSeq (sIf (tV (eOp opEq (eVar 0) (eC (.int 3))))
  (sRet (eCall m_reads_as (aCons (eTup (aCons (eC (.int 1)) (aCons (eC (.int 3)) aNil))) (aCons (eC (.int 0)) (aCons (eC (.int 0)) (aCons (eVar 1) aNil))))))
  sPass)
  (sSeq (sIf (tV (eOp opEq (eVar 0) (eC (.int 4))))
  (sRet (eCall m_fractions_reading (aCons (eC (.int 0)) (aCons (eC (.int 0)) (aCons (eVar 1) (aCons (eC (.int 3)) aNil))))))
  sPass)
  (sSeq (sIf (tV (eOp opEq (eVar 0) (eC (.int 5))))
  (sRet (eCall m_count_reading (aCons (eC (.int 0)) (aCons (eC (.int 0)) (aCons (eVar 1) (aCons (eC (.int 3)) aNil))))))
  sPass)
  (sSeq (sIf (tV (eOp opEq (eVar 0) (eC (.int 6))))
  (sRet (eCall m_tells_apart (aCons (eTup (aCons (eC (.int 1)) (aCons (eC (.int 3)) aNil))) (aCons (eTup (aCons (eC (.int 1)) (aCons (eC (.int 2)) aNil))) (aCons (eVar 1) aNil)))))
  sPass)
  (sSeq (sIf (tV (eOp opEq (eVar 0) (eC (.int 7))))
  (sRet (eCall m_digits_to_tell (aCons (eC (.int 3)) (aCons (eVar 1) aNil))))
  sPass)
  (sSeq (sIf (tV (eOp opEq (eVar 0) (eC (.int 8))))
  (sRet (eCall m_is_simplest (aCons (eTup (aCons (eC (.int 1)) (aCons (eC (.int 3)) aNil))) (aCons (eC (.int 0)) (aCons (eVar 1) aNil)))))
  sPass)
  (sSeq (sIf (tV (eOp opEq (eVar 0) (eC (.int 9))))
  (sRet (eCall m_digits_to_find (aCons (eTup (aCons (eC (.int 1)) (aCons (eC (.int 3)) aNil))) (aCons (eVar 1) aNil))))
  sPass)
  (sSeq (sIf (tV (eOp opEq (eVar 0) (eC (.int 10))))
  (sRet (eCall m_twice (aCons (eTup (aCons (eC (.int 1)) (aCons (eC (.int 3)) aNil))) (aCons (eC (.int 1)) (aCons (eC (.int 0)) (aCons (eVar 1) aNil))))))
  sPass)
  (sSeq (sIf (tV (eOp opEq (eVar 0) (eC (.int 11))))
  (sRet (eCall m_differs (aCons (eTup (aCons (eC (.int 1)) (aCons (eC (.int 3)) aNil))) (aCons (eC (.int 1)) (aCons (eC (.int 0)) (aCons (eVar 1) aNil))))))
  sPass)
  (sSeq (sIf (tV (eOp opEq (eVar 0) (eC (.int 12))))
  (sRet (eCall m_first_trap (aCons (eTup (aCons (eC (.int 1)) (aCons (eC (.int 3)) aNil))) (aCons (eC (.int 0)) (aCons (eVar 1) aNil)))))
  sPass)
  (sSeq (sIf (tV (eOp opEq (eVar 0) (eC (.int 13))))
  (sRet (eCall m_step_down (aCons (eTup (aCons (eC (.int 1)) (aCons (eC (.int 3)) aNil))) (aCons (eC (.int 1)) (aCons (eVar 1) aNil)))))
  sPass)
  (sSeq (sIf (tV (eOp opEq (eVar 0) (eC (.int 14))))
  (sRet (eCall m_chain_error (aCons (eTup (aCons (eC (.int 1)) (aCons (eC (.int 3)) aNil))) (aCons (eC (.int 1)) (aCons (eVar 1) aNil)))))
  sPass)
  (sRet (eIf (tV (eOp opEq (eVar 0) (eC (.int 15)))) (eCall m_traps_under (aCons (eC (.int 3)) (aCons (eC (.int 1)) (aCons (eC (.int 0)) (aCons (eVar 1) aNil))))) (eCall m_format_rounded (aCons (eTup (aCons (eC (.int 1)) (aCons (eC (.int 3)) aNil))) (aCons (eC (.int 0)) (aCons (eVar 1) aNil)))))))))))))))))))))
def m__law_ruled : List W → M W := bodyM 2 2 b__law_ruled
def b__law_span_call : SM := (sSeq (sIf (tV (eOp opEq (eVar 0) (eC (.int 0))))
  (sRet (eCall m_least_digits (aCons (eVar 1) aNil)))
  sPass)
  (sSeq (sIf (tV (eOp opEq (eVar 0) (eC (.int 1))))
  (sRet (eCall m_shortest (aCons (eVar 1) aNil)))
  sPass)
  (sSeq (sIf (tV (eOp opEq (eVar 0) (eC (.int 2))))
  (sRet (eCall m_simplest (aCons (eVar 1) aNil)))
  sPass)
  (sSeq (sIf (tV (eOp opEq (eVar 0) (eC (.int 3))))
  (sRet (eCall m_simplest_all (aCons (eVar 1) aNil)))
  sPass)
  (sSeq (sIf (tV (eOp opEq (eVar 0) (eC (.int 4))))
  (sRet (eCall m_width (aCons (eVar 1) aNil)))
  sPass)
  (sSeq (sIf (tV (eOp opEq (eVar 0) (eC (.int 5))))
  (sRet (eMake m_Reader___init__ (aCons (eVar 1) aNil)))
  sPass)
  (sSeq (sIf (tV (eOp opEq (eVar 0) (eC (.int 6))))
  (sRet (eCall m_contains (aCons (eVar 1) (aCons (eTup (aCons (eC (.int 1)) (aCons (eC (.int 2)) aNil))) aNil))))
  sPass)
  (sSeq (sIf (tV (eOp opEq (eVar 0) (eC (.int 7))))
  (sRet (eCall m_nearest (aCons (eVar 1) (aCons (eTup (aCons (eC (.int 1)) (aCons (eC (.int 2)) aNil))) aNil))))
  sPass)
  (sRet (eIf (tV (eOp opEq (eVar 0) (eC (.int 8)))) (eCall m_count_decimals (aCons (eVar 1) (aCons (eC (.int 0)) aNil))) (eCall m_decimals_in (aCons (eVar 1) (aCons (eC (.int 0)) aNil)))))))))))))
def m__law_span_call : List W → M W := bodyM 2 2 b__law_span_call
def b__law_second : SM := (sSeq (sIf (tOr (tV (eOp opNe (eCall m_period (aCons (eTup (aCons (eC (.int 1)) (aCons (eC (.int 12)) aNil))) aNil)) (eTup (aCons (eC (.int 2)) (aCons (eC (.int 1)) aNil))))) (tV (eOp opNe (eCall m_digits_of (aCons (eTup (aCons (eC (.int 1)) (aCons (eC (.int 12)) aNil))) (aCons (eC (.int 4)) aNil))) (eLst (aCons (eC (.int 0)) (aCons (eC (.int 8)) (aCons (eC (.int 3)) (aCons (eC (.int 3)) aNil))))))))
  (sRet (eC (.bl false)))
  sPass)
  (sSeq (sIf (tOr (tV (eOp opNe (eCall m_twice (aCons (eTup (aCons (eC (.int 49)) (aCons (eC (.int 40)) aNil))) (aCons (eC (.int 2)) (aCons (eC (.int 1)) (aCons (eC (.str "near-up")) aNil))))) (eC (.int 12)))) (tV (eOp opNe (eCall m_step_down (aCons (eTup (aCons (eC (.int 29)) (aCons (eC (.int 20)) aNil))) (aCons (eC (.int 1)) (aCons (eC (.str "near-up")) aNil)))) (eLst (aCons (eC (.int 15)) (aCons (eC (.int 2)) aNil))))))
  (sRet (eC (.bl false)))
  sPass)
  (sRet (eOp opEq (eCall m_format_decimal (aCons (eOp opSub (eC (.int 0)) (eC (.int 5))) (aCons (eC (.int 2)) aNil))) (eC (.str "-0.05"))))))
def m__law_second : List W → M W := bodyM 0 0 b__law_second
end Mir
end
section
namespace K14
open PySem PySem.Spec PyProof.Rows L2 Zz Mir
def b__law_call : SM := (sSeq (sIf (tV (eOp opEq (eVar 0) (eC (.int 0))))
  (sRet (eCall m_range_of (aCons (eVar 1) (aCons (eVar 2) (aCons (eC (.str "down")) aNil)))))
  sPass)
  (sSeq (sIf (tV (eOp opEq (eVar 0) (eC (.int 1))))
  (sRet (eCall m_reads_as (aCons (eTup (aCons (eC (.int 1)) (aCons (eC (.int 2)) aNil))) (aCons (eVar 1) (aCons (eVar 2) (aCons (eC (.str "down")) aNil))))))
  sPass)
  (sSeq (sIf (tV (eOp opEq (eVar 0) (eC (.int 2))))
  (sRet (eCall m_fractions_reading (aCons (eVar 1) (aCons (eVar 2) (aCons (eC (.str "down")) (aCons (eC (.int 3)) aNil))))))
  sPass)
  (sSeq (sIf (tV (eOp opEq (eVar 0) (eC (.int 3))))
  (sRet (eCall m_count_reading (aCons (eVar 1) (aCons (eVar 2) (aCons (eC (.str "down")) (aCons (eC (.int 3)) aNil))))))
  sPass)
  (sSeq (sIf (tV (eOp opEq (eVar 0) (eC (.int 4))))
  (sRet (eCall m_format_decimal (aCons (eVar 1) (aCons (eVar 2) aNil))))
  sPass)
  (sSeq (sIf (tV (eOp opEq (eVar 0) (eC (.int 5))))
  (sRet (eCall m_fractions_reading (aCons (eC (.int 0)) (aCons (eC (.int 0)) (aCons (eC (.str "down")) (aCons (eVar 1) aNil))))))
  sPass)
  (sSeq (sIf (tV (eOp opEq (eVar 0) (eC (.int 6))))
  (sRet (eCall m_count_reading (aCons (eC (.int 0)) (aCons (eC (.int 0)) (aCons (eC (.str "down")) (aCons (eVar 1) aNil))))))
  sPass)
  (sSeq (sIf (tV (eOp opEq (eVar 0) (eC (.int 7))))
  (sRet (eCall m_digits_to_tell (aCons (eVar 1) (aCons (eC (.str "down")) aNil))))
  sPass)
  (sSeq (sIf (tV (eOp opEq (eVar 0) (eC (.int 8))))
  (sRet (eCall m_digits_of (aCons (eTup (aCons (eC (.int 1)) (aCons (eC (.int 3)) aNil))) (aCons (eVar 1) aNil))))
  sPass)
  (sSeq (sIf (tV (eOp opEq (eVar 0) (eC (.int 9))))
  (sRet (eCall m_digit_at (aCons (eTup (aCons (eC (.int 1)) (aCons (eC (.int 3)) aNil))) (aCons (eVar 1) aNil))))
  sPass)
  (sSeq (sIf (tV (eOp opEq (eVar 0) (eC (.int 10))))
  (sRet (eCall m_digit_sum (aCons (eTup (aCons (eC (.int 1)) (aCons (eC (.int 3)) aNil))) (aCons (eVar 1) aNil))))
  sPass)
  (sSeq (sIf (tV (eOp opEq (eVar 0) (eC (.int 11))))
  (sRet (eCall m_traps_under (aCons (eVar 1) (aCons (eVar 2) (aCons (eVar 3) (aCons (eC (.str "down")) aNil))))))
  sPass)
  (sSeq (sIf (tV (eOp opEq (eVar 0) (eC (.int 12))))
  (sRet (eCall m_twice (aCons (eTup (aCons (eC (.int 1)) (aCons (eC (.int 3)) aNil))) (aCons (eVar 1) (aCons (eVar 2) (aCons (eC (.str "down")) aNil))))))
  sPass)
  (sSeq (sIf (tV (eOp opEq (eVar 0) (eC (.int 13))))
  (sRet (eCall m_count_decimals (aCons (eVar 1) (aCons (eVar 2) aNil))))
  sPass)
  (sSeq (sIf (tV (eOp opEq (eVar 0) (eC (.int 14))))
  (sRet (eCall m_decimals_in (aCons (eVar 1) (aCons (eVar 2) aNil))))
  sPass)
  (sRet (eIf (tV (eOp opEq (eVar 0) (eC (.int 15)))) (eMeth "tell" m_Reader_tell (eVar 1) (aCons (eVar 2) (aCons (eVar 3) (aCons (eC (.str "down")) aNil)))) (eMeth "tell" m_Reader_tell (eVar 1) (aCons (eC (.int 0)) (aCons (eC (.int 0)) (aCons (eVar 2) aNil)))))))))))))))))))))
def m__law_call : List W → M W := bodyM 4 4 b__law_call
def b__law_asked_T0 : SM := (sIf (tV (eOp opEq (eVar 0) (eC (.int 1))))
  (sDrop (eCall m__law_span_call (aCons (eVar 1) (aCons (eVar 2) aNil))))
  (sDrop (eCall m__law_call (aCons (eVar 1) (aCons (eVar 2) (aCons (eVar 3) (aCons (eVar 4) aNil)))))))
def b__law_asked : SM := (sSeq (sSet 5 (eC .non))
  (sSeq (sTry 6 6 b__law_asked_T0 (sSet 5 (eVar 6)))
  (sRet (eIf (tV (eOp opIs (eVar 5) (eC .non))) (eC (.str "done")) (eCall m__law_error (aCons (eVar 5) aNil))))))
def m__law_asked : List W → M W := bodyM 7 5 b__law_asked
def b__law_steps_C0 : EM := (eCall m__law_asked (aCons (eC (.int 2)) (aCons (eC (.int 11)) (aCons (eVar 1) (aCons (eC (.int 1)) (aCons (eC (.int 0)) aNil))))))
def b__law_steps_L1 : SM := (sApp 5 (eIf (tV (eOp opEq (eVar 2) (eC (.int 11)))) (eCall m__law_asked (aCons (eC (.int 2)) (aCons (eVar 2) (aCons (eVar 1) (aCons (eVar 6) (aCons (eVar 7) aNil)))))) (eCall m__law_asked (aCons (eC (.int 2)) (aCons (eVar 2) (aCons (eVar 6) (aCons (eVar 7) (aCons (eC (.int 0)) aNil))))))))
def b__law_steps_L2 : SM := (sSeq (sSet 4 (eLst (aCons (eTup (aCons (eC (.int 3)) (aCons (eC (.int 3)) (aCons (eC (.int 4)) aNil)))) (aCons (eTup (aCons (eC (.int 3)) (aCons (eC (.int 3)) (aCons (eOp opSub (eC (.int 0)) (eC (.int 1))) aNil)))) (aCons (eTup (aCons (eC (.int 3)) (aCons (eC (.int 3)) (aCons (eC .non) aNil)))) (aCons (eTup (aCons (eC (.int 3)) (aCons (eC (.int 3)) (aCons (eC (.bl true)) aNil)))) (aCons (eTup (aCons (eC (.int 3)) (aCons (eC (.int 7)) (aCons (eC (.int 0)) aNil)))) (aCons (eTup (aCons (eC (.int 3)) (aCons (eC .non) (aCons (eC (.int 0)) aNil)))) (aCons (eTup (aCons (eC (.int 3)) (aCons (eC (.int 3)) (aCons (eC (.int 3)) aNil)))) (aCons (eTup (aCons (eC (.int 3)) (aCons (eC (.int 6)) (aCons (eC (.int 0)) aNil)))) aNil))))))))))
  (sSeq (sOwn 5 aNil)
  (sSeq (sFor (iLst (eVar 4)) (bdT [1, 6, 7])
  b__law_steps_L1)
  (sFrz 5 (sIf (tV (eOp opNe (eVar 5) (eOp opAdd (eOp opMul (eLst (aCons (eC (.str "number")) aNil)) (eC (.int 6))) (eOp opMul (eLst (aCons (eC (.str "done")) aNil)) (eC (.int 2))))))
  (sRet (eC (.bl false)))
  sPass)))))
def b__law_steps_C3 : EM := (eCall m__law_asked (aCons (eC (.int 2)) (aCons (eC (.int 14)) (aCons (eVar 6) (aCons (eVar 9) (aCons (eC (.int 0)) aNil))))))
def b__law_steps : SM := (sSeq (sIf (tV (eOp opNe (eComp (iTup (eTup (aCons (eC .non) (aCons (eC (.int 0)) (aCons (eC (.int 61)) (aCons (eC (.bl true)) (aCons (eC (.str "1")) (aCons (eC (.int 1)) (aCons (eC (.int 60)) aNil))))))))) (bdN 1) [1] cYes b__law_steps_C0) (eOp opAdd (eOp opMul (eLst (aCons (eC (.str "number")) aNil)) (eC (.int 5))) (eOp opMul (eLst (aCons (eC (.str "done")) aNil)) (eC (.int 2))))))
  (sRet (eC (.bl false)))
  sPass)
  (sSeq (sFor (iLst (eLst (aCons (eTup (aCons (eC (.int 11)) (aCons (eC (.int 3)) aNil))) (aCons (eTup (aCons (eC (.int 12)) (aCons (eC (.int 3)) aNil))) aNil)))) (bdT [2, 3])
  b__law_steps_L2)
  (sSeq (sSet 8 (eTup (aCons (eTup (aCons (eC (.int 0)) (aCons (eC (.int 1)) aNil))) (aCons (eC (.bl true)) (aCons (eTup (aCons (eC (.int 1)) (aCons (eC (.int 1)) aNil))) (aCons (eC (.bl false)) aNil))))))
  (sRet (eOp opEq (eComp (iTup (eTup (aCons (eTup (aCons (eVar 8) (aCons (eC (.int 3)) aNil))) (aCons (eTup (aCons (eVar 8) (aCons (eC (.int 4)) aNil))) (aCons (eTup (aCons (eTup (aCons (eTup (aCons (eC (.int 0)) (aCons (eC (.int 1)) aNil))) (aCons (eC (.bl true)) (aCons (eTup (aCons (eC (.int 1)) (aCons (eC (.int 1)) aNil))) (aCons (eC (.bl true)) aNil))))) (aCons (eC (.int 3)) aNil))) (aCons (eTup (aCons (eVar 0) (aCons (eC (.int 2)) aNil))) aNil)))))) (bdT [6, 9]) [6, 9] cYes b__law_steps_C3) (eLst (aCons (eC (.str "done")) (aCons (eC (.str "number")) (aCons (eC (.str "number")) (aCons (eC (.str "done")) aNil))))))))))
def m__law_steps : List W → M W := bodyM 10 1 b__law_steps
def b__law_reader_C0 : EM := (eCall m__law_asked (aCons (eC (.int 2)) (aCons (eC (.int 15)) (aCons (eVar 1) (aCons (eVar 6) (aCons (eVar 7) aNil))))))
def b__law_reader_C1 : EM := (eCall m__law_asked (aCons (eC (.int 2)) (aCons (eC (.int 16)) (aCons (eVar 1) (aCons (eVar 8) (aCons (eC (.int 0)) aNil))))))
def b__law_reader_T2 : SM := (sDrop (eMeth "undo" m_Reader_undo (eVar 1) aNil))
def b__law_reader : SM := (sSeq (sSet 0 (eTup (aCons (eTup (aCons (eC (.int 0)) (aCons (eC (.int 1)) aNil))) (aCons (eC (.bl true)) (aCons (eTup (aCons (eC (.int 1)) (aCons (eC (.int 1)) aNil))) (aCons (eC (.bl true)) aNil))))))
  (sSeq (sSet 1 (eMake m_Reader___init__ (aCons (eVar 0) aNil)))
  (sSeq (sIf (tV (eOp opNe (eComp (iTup (eTup (aCons (eTup (aCons (eC .non) (aCons (eC (.int 0)) aNil))) (aCons (eTup (aCons (eC (.int 102)) (aCons (eC (.int 0)) aNil))) (aCons (eTup (aCons (eC (.int 0)) (aCons (eC (.int 7)) aNil))) (aCons (eTup (aCons (eC (.bl true)) (aCons (eC (.int 0)) aNil))) (aCons (eTup (aCons (eC (.int 0)) (aCons (eC .non) aNil))) aNil))))))) (bdT [6, 7]) [6, 7] cYes b__law_reader_C0) (eOp opMul (eLst (aCons (eC (.str "number")) aNil)) (eC (.int 5)))))
  (sRet (eC (.bl false)))
  sPass)
  (sSeq (sIf (tOr (tV (eOp opNe (eComp (iTup (eTup (aCons (eC .non) (aCons (eC (.str "best")) aNil)))) (bdN 8) [8] cYes b__law_reader_C1) (eOp opMul (eLst (aCons (eC (.str "rule")) aNil)) (eC (.int 2))))) (tV (eOp opNe (eCall m__law_asked (aCons (eC (.int 2)) (aCons (eC (.int 15)) (aCons (eVar 1) (aCons (eC (.int 5)) (aCons (eC (.int 0)) aNil)))))) (eC (.str "none")))))
  (sRet (eC (.bl false)))
  sPass)
  (sSeq (sSet 2 (eC .non))
  (sSeq (sTry 6 3 b__law_reader_T2 (sSet 2 (eVar 3)))
  (sSeq (sIf (tOr (tV (eOp opIs (eVar 2) (eC .non))) (tOr (tV (eOp opNe (eCall m__law_error (aCons (eVar 2) aNil)) (eC (.str "none")))) (tOr (tV (eOp opNe (eMeth "span" m_Reader_span (eVar 1) aNil) (eVar 0))) (tV (eOp opNe (eUn (lenO m_Reader___len__) (eVar 1)) (eC (.int 0)))))))
  (sRet (eC (.bl false)))
  sPass)
  (sSeq (sIf (tOr (tV (eOp opNe (eMeth "simplest" m_Reader_simplest (eVar 1) aNil) (eTup (aCons (eC (.int 0)) (aCons (eC (.int 1)) aNil))))) (tOr (tV (eOp opNe (eMeth "shortest" m_Reader_shortest (eVar 1) aNil) (eTup (aCons (eC (.int 0)) (aCons (eC (.int 0)) aNil))))) (tV (eOp opNe (eMeth "tell" m_Reader_tell (eVar 1) (aCons (eC (.int 1)) (aCons (eC (.int 0)) (aCons (eC (.str "down")) aNil)))) (eTup (aCons (eTup (aCons (eC (.int 1)) (aCons (eC (.int 1)) aNil))) (aCons (eC (.bl true)) (aCons (eTup (aCons (eC (.int 1)) (aCons (eC (.int 1)) aNil))) (aCons (eC (.bl true)) aNil)))))))))
  (sRet (eC (.bl false)))
  sPass)
  (sSeq (sSet 4 (eTup (aCons (eTup (aCons (eC (.int 1)) (aCons (eC (.int 3)) aNil))) (aCons (eC (.bl false)) (aCons (eTup (aCons (eC (.int 166667)) (aCons (eC (.int 500000)) aNil))) (aCons (eC (.bl true)) aNil))))))
  (sSeq (sIf (tOr (tV (eOp opNe (eCall m_shortest (aCons (eVar 4) aNil)) (eTup (aCons (eLst (aCons (eC (.int 333334)) aNil)) (aCons (eC (.int 6)) aNil))))) (tV (eOp opNe (eCall m__law_asked (aCons (eC (.int 1)) (aCons (eC (.int 1)) (aCons (eTup (aCons (eTup (aCons (eC (.int 1)) (aCons (eC (.int 3)) aNil))) (aCons (eC (.bl false)) (aCons (eTup (aCons (eC (.int 1666667)) (aCons (eC (.int 5000000)) aNil))) (aCons (eC (.bl true)) aNil))))) (aCons (eC (.int 0)) (aCons (eC (.int 0)) aNil)))))) (eC (.str "none")))))
  (sRet (eC (.bl false)))
  sPass)
  (sSeq (sIf (tV (eOp opNe (eCall m_simplest (aCons (eTup (aCons (eTup (aCons (eC (.int 1)) (aCons (eC (.int 1000)) aNil))) (aCons (eC (.bl true)) (aCons (eTup (aCons (eC (.int 1)) (aCons (eC (.int 1000)) aNil))) (aCons (eC (.bl true)) aNil))))) aNil)) (eTup (aCons (eC (.int 1)) (aCons (eC (.int 1000)) aNil)))))
  (sRet (eC (.bl false)))
  sPass)
  (sSeq (sSet 5 (eMake m_Reader___init__ (aCons (eTup (aCons (eTup (aCons (eC (.int 1)) (aCons (eC (.int 3)) aNil))) (aCons (eC (.bl true)) (aCons (eTup (aCons (eC (.int 1)) (aCons (eC (.int 3)) aNil))) (aCons (eC (.bl true)) aNil))))) aNil)))
  (sRet (eAnd (eOp opIs (eMeth "shortest" m_Reader_shortest (eVar 5) aNil) (eC .non)) (eAnd (eOp opEq (eMeth "simplest" m_Reader_simplest (eVar 5) aNil) (eTup (aCons (eC (.int 1)) (aCons (eC (.int 3)) aNil)))) (eOp opIs (eMeth "simplest" m_Reader_simplest (eMake m_Reader___init__ (aCons (eTup (aCons (eTup (aCons (eC (.int 1)) (aCons (eC (.int 1001)) aNil))) (aCons (eC (.bl true)) (aCons (eTup (aCons (eC (.int 1)) (aCons (eC (.int 1001)) aNil))) (aCons (eC (.bl true)) aNil))))) aNil)) aNil) (eC .non)))))))))))))))))
def m__law_reader : List W → M W := bodyM 9 0 b__law_reader
def b__law_units_asked_C0 : EM := (eCall m__law_asked (aCons (eC (.int 2)) (aCons (eVar 5) (aCons (eVar 1) (aCons (eC (.int 0)) (aCons (eC (.int 0)) aNil))))))
def b__law_units_asked_L1 : SM := (sIf (tV (eOp opNe (eComp (iRg1 (eC (.int 5))) (bdN 5) [5] cYes b__law_units_asked_C0) (eOp opMul (eLst (aCons (eC (.str "number")) aNil)) (eC (.int 5)))))
  (sRet (eC (.bl false)))
  sPass)
def b__law_units_asked_C2 : EM := (eCall m__law_asked (aCons (eC (.int 2)) (aCons (eVar 5) (aCons (eC (.int 0)) (aCons (eVar 1) (aCons (eC (.int 0)) aNil))))))
def b__law_units_asked_C3 : EM := (eCall m__law_asked (aCons (eC (.int 2)) (aCons (eVar 5) (aCons (eVar 0) (aCons (eVar 1) (aCons (eC (.int 0)) aNil))))))
def b__law_units_asked_L4 : SM := (sIf (tOr (tV (eOp opNe (eComp (iRg1 (eC (.int 5))) (bdN 5) [5] cYes b__law_units_asked_C2) (eOp opMul (eLst (aCons (eC (.str "number")) aNil)) (eC (.int 5))))) (tV (eOp opNe (eComp (iTup (eTup (aCons (eC (.int 13)) (aCons (eC (.int 14)) aNil)))) (bdN 5) [5] cYes b__law_units_asked_C3) (eOp opMul (eLst (aCons (eC (.str "number")) aNil)) (eC (.int 2))))))
  (sRet (eC (.bl false)))
  sPass)
def b__law_units_asked_C5 : EM := (eCall m__law_asked (aCons (eC (.int 2)) (aCons (eVar 5) (aCons (eC (.int 101)) (aCons (eC (.int 0)) (aCons (eC (.int 0)) aNil))))))
def b__law_units_asked_C6 : EM := (eCall m__law_asked (aCons (eC (.int 2)) (aCons (eVar 5) (aCons (eOp opSub (eC (.int 0)) (eC (.int 101000000))) (aCons (eC (.int 6)) (aCons (eC (.int 0)) aNil))))))
def b__law_units_asked_C7 : EM := (eCall m__law_asked (aCons (eC (.int 2)) (aCons (eVar 2) (aCons (eVar 1) (aCons (eC (.int 0)) (aCons (eC (.int 0)) aNil))))))
def b__law_units_asked_C8 : EM := (eCall m__law_asked (aCons (eC (.int 2)) (aCons (eVar 2) (aCons (eVar 6) (aCons (eC (.int 0)) (aCons (eC (.int 0)) aNil))))))
def b__law_units_asked_L9 : SM := (sSeq (sIf (tV (eOp opNe (eComp (iTup (eTup (aCons (eC .non) (aCons (eOp opSub (eVar 3) (eC (.int 1))) (aCons (eOp opAdd (eVar 4) (eC (.int 1))) (aCons (eC (.bl true)) (aCons (eCall cStr (aCons (eVar 3) aNil)) aNil))))))) (bdN 1) [1] cYes b__law_units_asked_C7) (eOp opMul (eLst (aCons (eC (.str "number")) aNil)) (eC (.int 5)))))
  (sRet (eC (.bl false)))
  sPass)
  (sIf (tV (eOp opNe (eComp (iTup (eTup (aCons (eVar 3) (aCons (eVar 4) aNil)))) (bdN 6) [6] cYes b__law_units_asked_C8) (eOp opMul (eLst (aCons (eC (.str "done")) aNil)) (eC (.int 2)))))
  (sRet (eC (.bl false)))
  sPass))
def b__law_units_asked : SM := (sSeq (sFor (iLst (eLst (aCons (eC .non) (aCons (eC (.int 102)) (aCons (eOp opSub (eC (.int 0)) (eC (.int 102))) (aCons (eC (.bl true)) (aCons (eC (.str "1")) aNil))))))) (bdN 1)
  b__law_units_asked_L1)
  (sSeq (sFor (iLst (eLst (aCons (eC .non) (aCons (eC (.int 7)) (aCons (eOp opSub (eC (.int 0)) (eC (.int 1))) (aCons (eC (.bl true)) (aCons (eC (.str "1")) aNil))))))) (bdN 1)
  b__law_units_asked_L4)
  (sSeq (sIf (tOr (tV (eOp opNe (eComp (iRg1 (eC (.int 5))) (bdN 5) [5] cYes b__law_units_asked_C5) (eOp opMul (eLst (aCons (eC (.str "done")) aNil)) (eC (.int 5))))) (tV (eOp opNe (eComp (iRg1 (eC (.int 5))) (bdN 5) [5] cYes b__law_units_asked_C6) (eOp opMul (eLst (aCons (eC (.str "done")) aNil)) (eC (.int 5))))))
  (sRet (eC (.bl false)))
  sPass)
  (sSeq (sFor (iLst (eLst (aCons (eTup (aCons (eC (.int 5)) (aCons (eC (.int 1)) (aCons (eC (.int 20)) aNil)))) (aCons (eTup (aCons (eC (.int 6)) (aCons (eC (.int 1)) (aCons (eC (.int 20)) aNil)))) (aCons (eTup (aCons (eC (.int 7)) (aCons (eC (.int 1)) (aCons (eC (.int 12)) aNil)))) (aCons (eTup (aCons (eC (.int 8)) (aCons (eC (.int 0)) (aCons (eC (.int 200)) aNil)))) (aCons (eTup (aCons (eC (.int 9)) (aCons (eC (.int 0)) (aCons (eC (.int 100000)) aNil)))) (aCons (eTup (aCons (eC (.int 10)) (aCons (eC (.int 0)) (aCons (eC (.int 100000)) aNil)))) aNil)))))))) (bdT [2, 3, 4])
  b__law_units_asked_L9)
  (sRet (eAnd (eCall m__law_steps (aCons (eVar 0) aNil)) (eCall m__law_reader aNil)))))))
def m__law_units_asked : List W → M W := bodyM 7 1 b__law_units_asked
def b_law_C0 : EM := (eCall m__law_asked (aCons (eC (.int 1)) (aCons (eVar 8) (aCons (eVar 5) (aCons (eC (.int 0)) (aCons (eC (.int 0)) aNil))))))
def b_law_L1 : SM := (sIf (tOr (tV (eOp opIsn (eCall m_is_range (aCons (eVar 5) aNil)) (eC (.bl false)))) (tV (eOp opNe (eComp (iRg1 (eC (.int 10))) (bdN 8) [8] cYes b_law_C0) (eOp opMul (eLst (aCons (eC (.str "range")) aNil)) (eC (.int 10))))))
  (sRet (eC (.bl false)))
  sPass)
def b_law_C2 : EM := (eCall m__law_asked (aCons (eC (.int 1)) (aCons (eVar 8) (aCons (eVar 6) (aCons (eC (.int 0)) (aCons (eC (.int 0)) aNil))))))
def b_law_C3 : EM := (eCall m__law_asked (aCons (eC (.int 1)) (aCons (eVar 8) (aCons (eVar 7) (aCons (eC (.int 0)) (aCons (eC (.int 0)) aNil))))))
def b_law_C4 : EM := (eCall m__law_asked (aCons (eC (.int 1)) (aCons (eVar 8) (aCons (eTup (aCons (eTup (aCons (eC (.int 1)) (aCons (eC (.int 1001)) aNil))) (aCons (eC (.bl true)) (aCons (eTup (aCons (eC (.int 1)) (aCons (eC (.int 1001)) aNil))) (aCons (eC (.bl true)) aNil))))) (aCons (eC (.int 0)) (aCons (eC (.int 0)) aNil))))))
def b_law : SM := (sSeq (sSet 1 (eCall m__law_start (aCons (eVar 0) aNil)))
  (sSeq (sUnp [2, 3] (eTup (aCons (eTup (aCons (eC (.int 0)) (aCons (eC (.int 1)) aNil))) (aCons (eTup (aCons (eC (.int 1)) (aCons (eC (.int 2)) aNil))) aNil))))
  (sSeq (sSet 4 (eLst (aCons (eC .non) (aCons (eC (.int 5)) (aCons (eTup aNil) (aCons (eTup (aCons (eVar 2) (aCons (eC (.bl true)) (aCons (eVar 3) aNil)))) (aCons (eLst (aCons (eVar 2) (aCons (eC (.bl true)) (aCons (eVar 3) (aCons (eC (.bl true)) aNil))))) (aCons (eTup (aCons (eVar 3) (aCons (eC (.bl true)) (aCons (eVar 2) (aCons (eC (.bl true)) aNil))))) (aCons (eTup (aCons (eVar 2) (aCons (eC (.bl true)) (aCons (eVar 2) (aCons (eC (.bl false)) aNil))))) (aCons (eTup (aCons (eVar 2) (aCons (eC (.bl false)) (aCons (eVar 2) (aCons (eC (.bl true)) aNil))))) (aCons (eTup (aCons (eVar 2) (aCons (eC (.int 1)) (aCons (eVar 3) (aCons (eC (.bl true)) aNil))))) (aCons (eTup (aCons (eVar 2) (aCons (eC (.bl true)) (aCons (eVar 3) (aCons (eC .non) aNil))))) (aCons (eTup (aCons (eTup (aCons (eC (.int 0)) (aCons (eC (.int 2)) aNil))) (aCons (eC (.bl true)) (aCons (eVar 3) (aCons (eC (.bl true)) aNil))))) (aCons (eTup (aCons (eVar 2) (aCons (eC (.bl true)) (aCons (eTup (aCons (eC (.int 2)) (aCons (eC (.int 4)) aNil))) (aCons (eC (.bl true)) aNil))))) (aCons (eTup (aCons (eTup (aCons (eOp opSub (eC (.int 0)) (eC (.int 201))) (aCons (eC (.int 1)) aNil))) (aCons (eC (.bl true)) (aCons (eVar 3) (aCons (eC (.bl true)) aNil))))) (aCons (eTup (aCons (eVar 2) (aCons (eC (.bl true)) (aCons (eTup (aCons (eC (.int 201)) (aCons (eC (.int 1)) aNil))) (aCons (eC (.bl true)) aNil))))) (aCons (eTup (aCons (eVar 2) (aCons (eC (.bl true)) (aCons (eTup (aCons (eC (.int 1)) (aCons (eC (.int 0)) aNil))) (aCons (eC (.bl true)) aNil))))) (aCons (eTup (aCons (eTup (aCons (eC (.bl true)) (aCons (eC (.int 1)) aNil))) (aCons (eC (.bl true)) (aCons (eVar 3) (aCons (eC (.bl true)) aNil))))) (aCons (eTup (aCons (eC (.int 0)) (aCons (eC (.bl true)) (aCons (eVar 3) (aCons (eC (.bl true)) aNil))))) aNil)))))))))))))))))))
  (sSeq (sFor (iLst (eVar 4)) (bdN 5)
  b_law_L1)
  (sSeq (sSet 6 (eTup (aCons (eVar 2) (aCons (eC (.bl true)) (aCons (eVar 3) (aCons (eOp opEq (eCall m__law_draw (aCons (eVar 1) (aCons (eC (.int 2)) aNil))) (eC (.int 0))) aNil))))))
  (sSeq (sIf (tOr (tV (eOp opIsn (eCall m_is_range (aCons (eVar 6) aNil)) (eC (.bl true)))) (tOr (tV (eOp opNe (eComp (iRg1 (eC (.int 10))) (bdN 8) [8] cYes b_law_C2) (eOp opMul (eLst (aCons (eC (.str "done")) aNil)) (eC (.int 10))))) (tV (eOp opIsn (eCall m_is_range (aCons (eTup (aCons (eTup (aCons (eC (.int 1)) (aCons (eC (.int 997)) aNil))) (aCons (eC (.bl true)) (aCons (eTup (aCons (eC (.int 1)) (aCons (eC (.int 997)) aNil))) (aCons (eC (.bl true)) aNil))))) aNil)) (eC (.bl true))))))
  (sRet (eC (.bl false)))
  sPass)
  (sSeq (sSet 7 (eTup (aCons (eTup (aCons (eC (.int 1)) (aCons (eC (.int 3)) aNil))) (aCons (eC (.bl true)) (aCons (eTup (aCons (eC (.int 1)) (aCons (eC (.int 3)) aNil))) (aCons (eC (.bl true)) aNil))))))
  (sSeq (sIf (tV (eOp opNe (eComp (iRg1 (eC (.int 10))) (bdN 8) [8] cYes b_law_C3) (eOp opAdd (eOp opAdd (eOp opAdd (eOp opMul (eLst (aCons (eC (.str "none")) aNil)) (eC (.int 2))) (eOp opMul (eLst (aCons (eC (.str "done")) aNil)) (eC (.int 5)))) (eLst (aCons (eC (.str "none")) aNil))) (eOp opMul (eLst (aCons (eC (.str "done")) aNil)) (eC (.int 2))))))
  (sRet (eC (.bl false)))
  sPass)
  (sSeq (sIf (tV (eOp opNe (eComp (iTup (eTup (aCons (eC (.int 2)) (aCons (eC (.int 3)) aNil)))) (bdN 8) [8] cYes b_law_C4) (eOp opMul (eLst (aCons (eC (.str "none")) aNil)) (eC (.int 2)))))
  (sRet (eC (.bl false)))
  sPass)
  (sRet (eCall m__law_units_asked (aCons (eVar 6) aNil))))))))))))
def m_law : List W → M W := bodyM 9 1 b_law
end K14
end
section
namespace K14
open PySem PySem.Spec PyProof.Rows L2 Zz Mir
def topS (i : Nat) : Stmt := PySem.Challenge.pw_shortdecimals_k14_more_errors.main.body.getD i (.Pass ⟨0, 0, 0, 0⟩)
/-! _law_start -/
abbrev s__law_start : Stmt := topS 72
abbrev N__law_start : List Str := ["_law_script"]
theorem sc__law_start : FnScope N__law_start ["_law_script"] (defScope s__law_start) := ⟨rfl, rfl, rfl, by decide +kernel, rfl, by decide +kernel, by decide +kernel⟩
/-! common -/
abbrev s_common : Stmt := topS 12
abbrev N_common : List Str := ["one", "other"]
theorem sc_common : FnScope N_common ["one", "other"] (defScope s_common) := ⟨rfl, rfl, rfl, by decide +kernel, rfl, by decide +kernel, by decide +kernel⟩
/-! is_any -/
abbrev s_is_any : Stmt := topS 23
abbrev N_is_any : List Str := ["value", "part"]
theorem sc_is_any : FnScope N_is_any ["value"] (defScope s_is_any) := ⟨rfl, rfl, rfl, by decide +kernel, rfl, by decide +kernel, by decide +kernel⟩
/-! less -/
abbrev s_less : Stmt := topS 22
abbrev N_less : List Str := ["one", "other"]
theorem sc_less : FnScope N_less ["one", "other"] (defScope s_less) := ⟨rfl, rfl, rfl, by decide +kernel, rfl, by decide +kernel, by decide +kernel⟩
/-! is_span -/
abbrev s_is_span : Stmt := topS 24
abbrev N_is_span : List Str := ["value"]
theorem sc_is_span : FnScope N_is_span ["value"] (defScope s_is_span) := ⟨rfl, rfl, rfl, by decide +kernel, rfl, by decide +kernel, by decide +kernel⟩
/-! is_range -/
abbrev s_is_range : Stmt := topS 28
abbrev N_is_range : List Str := ["value"]
theorem sc_is_range : FnScope N_is_range ["value"] (defScope s_is_range) := ⟨rfl, rfl, rfl, by decide +kernel, rfl, by decide +kernel, by decide +kernel⟩
/-! check_range -/
abbrev s_check_range : Stmt := topS 29
abbrev N_check_range : List Str := ["value"]
theorem sc_check_range : FnScope N_check_range ["value"] (defScope s_check_range) := ⟨rfl, rfl, rfl, by decide +kernel, rfl, by decide +kernel, by decide +kernel⟩
/-! power_of -/
abbrev s_power_of : Stmt := topS 18
abbrev N_power_of : List Str := ["digits", "found", "turn"]
theorem sc_power_of : FnScope N_power_of ["digits"] (defScope s_power_of) := ⟨rfl, rfl, rfl, by decide +kernel, rfl, by decide +kernel, by decide +kernel⟩
/-! ends_of -/
abbrev s_ends_of : Stmt := topS 30
abbrev N_ends_of : List Str := ["span", "digits", "low", "low_in", "high", "high_in", "power", "first", "last"]
theorem sc_ends_of : FnScope N_ends_of ["span", "digits"] (defScope s_ends_of) := ⟨rfl, rfl, rfl, by decide +kernel, rfl, by decide +kernel, by decide +kernel⟩
/-! least_of -/
abbrev s_least_of : Stmt := topS 31
abbrev N_least_of : List Str := ["span", "digits", "first", "last"]
theorem sc_least_of : FnScope N_least_of ["span"] (defScope s_least_of) := ⟨rfl, rfl, rfl, by decide +kernel, rfl, by decide +kernel, by decide +kernel⟩
/-! least_digits -/
abbrev s_least_digits : Stmt := topS 35
abbrev N_least_digits : List Str := ["span", "found"]
theorem sc_least_digits : FnScope N_least_digits ["span"] (defScope s_least_digits) := ⟨rfl, rfl, rfl, by decide +kernel, rfl, by decide +kernel, by decide +kernel⟩
/-! shortest -/
abbrev s_shortest : Stmt := topS 36
abbrev N_shortest : List Str := ["span", "digits", "first", "last"]
theorem sc_shortest : FnScope N_shortest ["span"] (defScope s_shortest) := ⟨rfl, rfl, rfl, by decide +kernel, rfl, by decide +kernel, by decide +kernel⟩
/-! tops_in -/
abbrev s_tops_in : Stmt := topS 51
abbrev N_tops_in : List Str := ["span", "under", "low", "low_in", "high", "high_in", "first", "last"]
theorem sc_tops_in : FnScope N_tops_in ["span", "under"] (defScope s_tops_in) := ⟨rfl, rfl, rfl, by decide +kernel, rfl, by decide +kernel, by decide +kernel⟩
/-! simplest_of -/
abbrev s_simplest_of : Stmt := topS 52
abbrev N_simplest_of : List Str := ["span", "under", "first", "last"]
theorem sc_simplest_of : FnScope N_simplest_of ["span"] (defScope s_simplest_of) := ⟨rfl, rfl, rfl, by decide +kernel, rfl, by decide +kernel, by decide +kernel⟩
/-! lowest -/
abbrev s_lowest : Stmt := topS 20
abbrev N_lowest : List Str := ["top", "below", "divisor"]
theorem sc_lowest : FnScope N_lowest ["top", "below"] (defScope s_lowest) := ⟨rfl, rfl, rfl, by decide +kernel, rfl, by decide +kernel, by decide +kernel⟩
/-! simplest -/
abbrev s_simplest : Stmt := topS 53
abbrev N_simplest : List Str := ["span", "found"]
theorem sc_simplest : FnScope N_simplest ["span"] (defScope s_simplest) := ⟨rfl, rfl, rfl, by decide +kernel, rfl, by decide +kernel, by decide +kernel⟩
/-! simplest_all -/
abbrev s_simplest_all : Stmt := topS 54
abbrev N_simplest_all : List Str := ["span", "found", "first", "last", "top"]
theorem sc_simplest_all : FnScope N_simplest_all ["span"] (defScope s_simplest_all) := ⟨rfl, rfl, rfl, by decide +kernel, rfl, by decide +kernel, by decide +kernel⟩
/-! minus -/
abbrev s_minus : Stmt := topS 21
abbrev N_minus : List Str := ["one", "other"]
theorem sc_minus : FnScope N_minus ["one", "other"] (defScope s_minus) := ⟨rfl, rfl, rfl, by decide +kernel, rfl, by decide +kernel, by decide +kernel⟩
/-! width -/
abbrev s_width : Stmt := topS 38
abbrev N_width : List Str := ["span"]
theorem sc_width : FnScope N_width ["span"] (defScope s_width) := ⟨rfl, rfl, rfl, by decide +kernel, rfl, by decide +kernel, by decide +kernel⟩
/-! Reader___init__ -/
abbrev s_Reader___init__ : Stmt := inClass (topS 67) 0
abbrev N_Reader___init__ : List Str := ["self", "span"]
theorem sc_Reader___init__ : FnScope N_Reader___init__ ["self", "span"] (defScope s_Reader___init__) := ⟨rfl, rfl, rfl, by decide +kernel, rfl, by decide +kernel, by decide +kernel⟩
/-! is_int -/
abbrev s_is_int : Stmt := topS 11
abbrev N_is_int : List Str := ["value", "low", "high"]
theorem sc_is_int : FnScope N_is_int ["value", "low", "high"] (defScope s_is_int) := ⟨rfl, rfl, rfl, by decide +kernel, rfl, by decide +kernel, by decide +kernel⟩
/-! is_fraction -/
abbrev s_is_fraction : Stmt := topS 13
abbrev N_is_fraction : List Str := ["value"]
theorem sc_is_fraction : FnScope N_is_fraction ["value"] (defScope s_is_fraction) := ⟨rfl, rfl, rfl, by decide +kernel, rfl, by decide +kernel, by decide +kernel⟩
/-! check_fraction -/
abbrev s_check_fraction : Stmt := topS 14
abbrev N_check_fraction : List Str := ["value"]
theorem sc_check_fraction : FnScope N_check_fraction ["value"] (defScope s_check_fraction) := ⟨rfl, rfl, rfl, by decide +kernel, rfl, by decide +kernel, by decide +kernel⟩
/-! within -/
abbrev s_within : Stmt := topS 25
abbrev N_within : List Str := ["span", "value", "low", "low_in", "high", "high_in"]
theorem sc_within : FnScope N_within ["span", "value"] (defScope s_within) := ⟨rfl, rfl, rfl, by decide +kernel, rfl, by decide +kernel, by decide +kernel⟩
/-! contains -/
abbrev s_contains : Stmt := topS 32
abbrev N_contains : List Str := ["span", "value"]
theorem sc_contains : FnScope N_contains ["span", "value"] (defScope s_contains) := ⟨rfl, rfl, rfl, by decide +kernel, rfl, by decide +kernel, by decide +kernel⟩
/-! nearest -/
abbrev s_nearest : Stmt := topS 37
abbrev N_nearest : List Str := ["span", "value", "digits", "first", "last", "power", "best", "units", "gap", "size"]
theorem sc_nearest : FnScope N_nearest ["span", "value"] (defScope s_nearest) := ⟨rfl, rfl, rfl, by decide +kernel, rfl, by decide +kernel, by decide +kernel⟩
/-! check_digits -/
abbrev s_check_digits : Stmt := topS 16
abbrev N_check_digits : List Str := ["value"]
theorem sc_check_digits : FnScope N_check_digits ["value"] (defScope s_check_digits) := ⟨rfl, rfl, rfl, by decide +kernel, rfl, by decide +kernel, by decide +kernel⟩
/-! count_decimals -/
abbrev s_count_decimals : Stmt := topS 33
abbrev N_count_decimals : List Str := ["span", "digits", "first", "last"]
theorem sc_count_decimals : FnScope N_count_decimals ["span", "digits"] (defScope s_count_decimals) := ⟨rfl, rfl, rfl, by decide +kernel, rfl, by decide +kernel, by decide +kernel⟩
/-! decimals_in -/
abbrev s_decimals_in : Stmt := topS 34
abbrev N_decimals_in : List Str := ["span", "digits", "first", "last"]
theorem sc_decimals_in : FnScope N_decimals_in ["span", "digits"] (defScope s_decimals_in) := ⟨rfl, rfl, rfl, by decide +kernel, rfl, by decide +kernel, by decide +kernel⟩
/-! _law_span_call -/
abbrev s__law_span_call : Stmt := topS 75
abbrev N__law_span_call : List Str := ["_law_kind", "_law_span"]
theorem sc__law_span_call : FnScope N__law_span_call ["_law_kind", "_law_span"] (defScope s__law_span_call) := ⟨rfl, rfl, rfl, by decide +kernel, rfl, by decide +kernel, by decide +kernel⟩
/-! check_whole -/
abbrev s_check_whole : Stmt := topS 17
abbrev N_check_whole : List Str := ["value", "digits"]
theorem sc_check_whole : FnScope N_check_whole ["value", "digits"] (defScope s_check_whole) := ⟨rfl, rfl, rfl, by decide +kernel, rfl, by decide +kernel, by decide +kernel⟩
/-! check_rule -/
abbrev s_check_rule : Stmt := topS 15
abbrev N_check_rule : List Str := ["value"]
theorem sc_check_rule : FnScope N_check_rule ["value"] (defScope s_check_rule) := ⟨rfl, rfl, rfl, by decide +kernel, rfl, by decide +kernel, by decide +kernel⟩
/-! span_of -/
abbrev s_span_of : Stmt := topS 42
abbrev N_span_of : List Str := ["units", "digits", "rule", "power", "low", "high"]
theorem sc_span_of : FnScope N_span_of ["units", "digits", "rule"] (defScope s_span_of) := ⟨rfl, rfl, rfl, by decide +kernel, rfl, by decide +kernel, by decide +kernel⟩
/-! range_of -/
abbrev s_range_of : Stmt := topS 43
abbrev N_range_of : List Str := ["units", "digits", "rule"]
theorem sc_range_of : FnScope N_range_of ["units", "digits", "rule"] (defScope s_range_of) := ⟨rfl, rfl, rfl, by decide +kernel, rfl, by decide +kernel, by decide +kernel⟩
/-! units_of -/
abbrev s_units_of : Stmt := topS 40
abbrev N_units_of : List Str := ["value", "digits", "rule", "top", "under", "floor", "rest"]
theorem sc_units_of : FnScope N_units_of ["value", "digits", "rule"] (defScope s_units_of) := ⟨rfl, rfl, rfl, by decide +kernel, rfl, by decide +kernel, by decide +kernel⟩
/-! reads_as -/
abbrev s_reads_as : Stmt := topS 44
abbrev N_reads_as : List Str := ["value", "units", "digits", "rule"]
theorem sc_reads_as : FnScope N_reads_as ["value", "units", "digits", "rule"] (defScope s_reads_as) := ⟨rfl, rfl, rfl, by decide +kernel, rfl, by decide +kernel, by decide +kernel⟩
/-! reading_of -/
abbrev s_reading_of : Stmt := topS 46
abbrev N_reading_of : List Str := ["units", "digits", "rule", "most", "span", "found", "under", "first", "last", "top"]
theorem sc_reading_of : FnScope N_reading_of ["units", "digits", "rule", "most"] (defScope s_reading_of) := ⟨rfl, rfl, rfl, by decide +kernel, rfl, by decide +kernel, by decide +kernel⟩
/-! fractions_reading -/
abbrev s_fractions_reading : Stmt := topS 45
abbrev N_fractions_reading : List Str := ["units", "digits", "rule", "most"]
theorem sc_fractions_reading : FnScope N_fractions_reading ["units", "digits", "rule", "most"] (defScope s_fractions_reading) := ⟨rfl, rfl, rfl, by decide +kernel, rfl, by decide +kernel, by decide +kernel⟩
/-! count_reading -/
abbrev s_count_reading : Stmt := topS 47
abbrev N_count_reading : List Str := ["units", "digits", "rule", "most"]
theorem sc_count_reading : FnScope N_count_reading ["units", "digits", "rule", "most"] (defScope s_count_reading) := ⟨rfl, rfl, rfl, by decide +kernel, rfl, by decide +kernel, by decide +kernel⟩
/-! written -/
abbrev s_written : Stmt := topS 69
abbrev N_written : List Str := ["units", "digits", "power", "head", "tail", "sign", "rest"]
theorem sc_written : FnScope N_written ["units", "digits"] (defScope s_written) := ⟨rfl, rfl, rfl, by decide +kernel, rfl, by decide +kernel, by decide +kernel⟩
/-! format_decimal -/
abbrev s_format_decimal : Stmt := topS 70
abbrev N_format_decimal : List Str := ["units", "digits"]
theorem sc_format_decimal : FnScope N_format_decimal ["units", "digits"] (defScope s_format_decimal) := ⟨rfl, rfl, rfl, by decide +kernel, rfl, by decide +kernel, by decide +kernel⟩
/-! digits_to_tell -/
abbrev s_digits_to_tell : Stmt := topS 48
abbrev N_digits_to_tell : List Str := ["most", "rule", "every", "under", "digits", "top", "value"]
theorem sc_digits_to_tell : FnScope N_digits_to_tell ["most", "rule"] (defScope s_digits_to_tell) := ⟨rfl, rfl, rfl, by decide +kernel, rfl, by decide +kernel, by decide +kernel⟩
/-! digits_of -/
abbrev s_digits_of : Stmt := topS 58
abbrev N_digits_of : List Str := ["value", "many", "rest", "found", "turn"]
theorem sc_digits_of : FnScope N_digits_of ["value", "many"] (defScope s_digits_of) := ⟨rfl, rfl, rfl, by decide +kernel, rfl, by decide +kernel, by decide +kernel⟩
/-! parts_of -/
abbrev s_parts_of : Stmt := topS 56
abbrev N_parts_of : List Str := ["under", "twos", "fives", "left"]
theorem sc_parts_of : FnScope N_parts_of ["under"] (defScope s_parts_of) := ⟨rfl, rfl, rfl, by decide +kernel, rfl, by decide +kernel, by decide +kernel⟩
/-! period -/
abbrev s_period : Stmt := topS 57
abbrev N_period : List Str := ["value", "before", "left", "length", "rest"]
theorem sc_period : FnScope N_period ["value"] (defScope s_period) := ⟨rfl, rfl, rfl, by decide +kernel, rfl, by decide +kernel, by decide +kernel⟩
/-! digit_at -/
abbrev s_digit_at : Stmt := topS 59
abbrev N_digit_at : List Str := ["value", "place", "before", "length"]
theorem sc_digit_at : FnScope N_digit_at ["value", "place"] (defScope s_digit_at) := ⟨rfl, rfl, rfl, by decide +kernel, rfl, by decide +kernel, by decide +kernel⟩
/-! digit_sum -/
abbrev s_digit_sum : Stmt := topS 60
abbrev N_digit_sum : List Str := ["value", "many", "before", "length", "first", "rounds", "rest"]
theorem sc_digit_sum : FnScope N_digit_sum ["value", "many"] (defScope s_digit_sum) := ⟨rfl, rfl, rfl, by decide +kernel, rfl, by decide +kernel, by decide +kernel⟩
/-! check_steps -/
abbrev s_check_steps : Stmt := topS 62
abbrev N_check_steps : List Str := ["first", "then"]
theorem sc_check_steps : FnScope N_check_steps ["first", "then"] (defScope s_check_steps) := ⟨rfl, rfl, rfl, by decide +kernel, rfl, by decide +kernel, by decide +kernel⟩
/-! twice_of -/
abbrev s_twice_of : Stmt := topS 63
abbrev N_twice_of : List Str := ["value", "first", "then", "rule", "middle"]
theorem sc_twice_of : FnScope N_twice_of ["value", "first", "then", "rule"] (defScope s_twice_of) := ⟨rfl, rfl, rfl, by decide +kernel, rfl, by decide +kernel, by decide +kernel⟩
/-! traps_under -/
abbrev s_traps_under : Stmt := topS 65
abbrev N_traps_under : List Str := ["under", "first", "then", "rule", "found", "top", "value"]
theorem sc_traps_under : FnScope N_traps_under ["under", "first", "then", "rule"] (defScope s_traps_under) := ⟨rfl, rfl, rfl, by decide +kernel, rfl, by decide +kernel, by decide +kernel⟩
/-! twice -/
abbrev s_twice : Stmt := topS 64
abbrev N_twice : List Str := ["value", "first", "then", "rule"]
theorem sc_twice : FnScope N_twice ["value", "first", "then", "rule"] (defScope s_twice) := ⟨rfl, rfl, rfl, by decide +kernel, rfl, by decide +kernel, by decide +kernel⟩
/-! met -/
abbrev s_met : Stmt := topS 26
abbrev N_met : List Str := ["one", "other", "low", "low_in", "high", "high_in"]
theorem sc_met : FnScope N_met ["one", "other"] (defScope s_met) := ⟨rfl, rfl, rfl, by decide +kernel, rfl, by decide +kernel, by decide +kernel⟩
/-! Reader_tell -/
abbrev s_Reader_tell : Stmt := inClass (topS 67) 1
abbrev N_Reader_tell : List Str := ["self", "units", "digits", "rule", "found"]
theorem sc_Reader_tell : FnScope N_Reader_tell ["self", "units", "digits", "rule"] (defScope s_Reader_tell) := ⟨rfl, rfl, rfl, by decide +kernel, rfl, by decide +kernel, by decide +kernel⟩
/-! _law_call -/
abbrev s__law_call : Stmt := topS 76
abbrev N__law_call : List Str := ["_law_kind", "_law_one", "_law_two", "_law_three"]
theorem sc__law_call : FnScope N__law_call ["_law_kind", "_law_one", "_law_two", "_law_three"] (defScope s__law_call) := ⟨rfl, rfl, rfl, by decide +kernel, rfl, by decide +kernel, by decide +kernel⟩
/-! _law_error -/
abbrev s__law_error : Stmt := topS 74
abbrev N__law_error : List Str := ["_law_caught", "_law_kinds"]
theorem sc__law_error : FnScope N__law_error ["_law_caught"] (defScope s__law_error) := ⟨rfl, rfl, rfl, by decide +kernel, rfl, by decide +kernel, by decide +kernel⟩
/-! _law_asked -/
abbrev s__law_asked : Stmt := topS 77
abbrev N__law_asked : List Str := ["_law_group", "_law_kind", "_law_one", "_law_two", "_law_three", "_law_caught", "e"]
theorem sc__law_asked : FnScope N__law_asked ["_law_group", "_law_kind", "_law_one", "_law_two", "_law_three"] (defScope s__law_asked) := ⟨rfl, rfl, rfl, by decide +kernel, rfl, by decide +kernel, by decide +kernel⟩
/-! _law_draw -/
abbrev s__law_draw : Stmt := topS 73
abbrev N__law_draw : List Str := ["_law_draws", "_law_limit", "_law_numbers", "_law_at", "_law_cell", "_law_mixed"]
theorem sc__law_draw : FnScope N__law_draw ["_law_draws", "_law_limit"] (defScope s__law_draw) := ⟨rfl, rfl, rfl, by decide +kernel, rfl, by decide +kernel, by decide +kernel⟩
/-! _law_steps -/
abbrev s__law_steps : Stmt := topS 79
abbrev N__law_steps : List Str := ["_law_span", "_law_under", "_law_kind", "_law_first", "_law_steps_here", "_law_told", "_law_one", "_law_two", "_law_wide", "_law_digits"]
theorem sc__law_steps : FnScope N__law_steps ["_law_span"] (defScope s__law_steps) := ⟨rfl, rfl, rfl, by decide +kernel, rfl, by decide +kernel, by decide +kernel⟩
/-! Reader_undo -/
abbrev s_Reader_undo : Stmt := inClass (topS 67) 5
abbrev N_Reader_undo : List Str := ["self"]
theorem sc_Reader_undo : FnScope N_Reader_undo ["self"] (defScope s_Reader_undo) := ⟨rfl, rfl, rfl, by decide +kernel, rfl, by decide +kernel, by decide +kernel⟩
/-! Reader_span -/
abbrev s_Reader_span : Stmt := inClass (topS 67) 2
abbrev N_Reader_span : List Str := ["self"]
theorem sc_Reader_span : FnScope N_Reader_span ["self"] (defScope s_Reader_span) := ⟨rfl, rfl, rfl, by decide +kernel, rfl, by decide +kernel, by decide +kernel⟩
/-! Reader___len__ -/
abbrev s_Reader___len__ : Stmt := inClass (topS 67) 6
abbrev N_Reader___len__ : List Str := ["self"]
theorem sc_Reader___len__ : FnScope N_Reader___len__ ["self"] (defScope s_Reader___len__) := ⟨rfl, rfl, rfl, by decide +kernel, rfl, by decide +kernel, by decide +kernel⟩
/-! Reader_simplest -/
abbrev s_Reader_simplest : Stmt := inClass (topS 67) 3
abbrev N_Reader_simplest : List Str := ["self", "found"]
theorem sc_Reader_simplest : FnScope N_Reader_simplest ["self"] (defScope s_Reader_simplest) := ⟨rfl, rfl, rfl, by decide +kernel, rfl, by decide +kernel, by decide +kernel⟩
/-! Reader_shortest -/
abbrev s_Reader_shortest : Stmt := inClass (topS 67) 4
abbrev N_Reader_shortest : List Str := ["self", "digits"]
theorem sc_Reader_shortest : FnScope N_Reader_shortest ["self"] (defScope s_Reader_shortest) := ⟨rfl, rfl, rfl, by decide +kernel, rfl, by decide +kernel, by decide +kernel⟩
/-! _law_reader -/
abbrev s__law_reader : Stmt := topS 78
abbrev N__law_reader : List Str := ["_law_start_here", "_law_shown", "_law_caught", "e", "_law_tight", "_law_far", "_law_units", "_law_digits", "_law_bad"]
theorem sc__law_reader : FnScope N__law_reader [] (defScope s__law_reader) := ⟨rfl, rfl, rfl, by decide +kernel, rfl, by decide +kernel, by decide +kernel⟩
/-! _law_units_asked -/
abbrev s__law_units_asked : Stmt := topS 80
abbrev N__law_units_asked : List Str := ["_law_span", "_law_bad", "_law_kind", "_law_first", "_law_last", "_law_k", "_law_good"]
theorem sc__law_units_asked : FnScope N__law_units_asked ["_law_span"] (defScope s__law_units_asked) := ⟨rfl, rfl, rfl, by decide +kernel, rfl, by decide +kernel, by decide +kernel⟩
/-! law -/
abbrev s_law : Stmt := topS 81
abbrev N_law : List Str := ["_law_script", "_law_draws", "_law_low", "_law_high", "_law_odd", "_law_bad", "_law_span", "_law_tight", "_law_k"]
theorem sc_law : FnScope N_law ["_law_script"] (defScope s_law) := ⟨rfl, rfl, rfl, by decide +kernel, rfl, by decide +kernel, by decide +kernel⟩
structure Gs (K : PySem.W.Frag) (mg : Str → Option Value) (C : Addr) (cv : Nat → Value) : Prop where
  MOST_DIGITS : ∃ t, mg "MOST_DIGITS" = some (.int 6 t)
  MOST_TRIED : ∃ t, mg "MOST_TRIED" = some (.int 1000 t)
  MOST_UNDER : ∃ t, mg "MOST_UNDER" = some (.int 60 t)
  RULES : GTup K mg "RULES" ["down", "up", "zero", "near-up", "near-zero", "near-away", "near-even"]
  ValueError : mg "ValueError" = none
  abs : mg "abs" = none
  all : mg "all" = none
  bool : mg "bool" = none
  cvE : cv = cvOf K
  exF : ∀ c, c < 6 → ExF K c
  exm6 : ∀ c, c < 6 → PySem.W.exmOne K (cvOf K c) (cvOf K 6) = some (catches 6 c)
  int : mg "int" = none
  isinstance : mg "isinstance" = none
  kit0 : ∀ c, c < 6 → PySem.W.kitOne K (cvOf K c) (cvOf K 0) = some (catches 0 c)
  kit1 : ∀ c, c < 6 → PySem.W.kitOne K (cvOf K c) (cvOf K 1) = some (catches 1 c)
  kit2 : ∀ c, c < 6 → PySem.W.kitOne K (cvOf K c) (cvOf K 2) = some (catches 2 c)
  kit3 : ∀ c, c < 6 → PySem.W.kitOne K (cvOf K c) (cvOf K 3) = some (catches 3 c)
  kit4 : ∀ c, c < 6 → PySem.W.kitOne K (cvOf K c) (cvOf K 4) = some (catches 4 c)
  kit5 : ∀ c, c < 6 → PySem.W.kitOne K (cvOf K c) (cvOf K 5) = some (catches 5 c)
  kit6 : ∀ c, c < 6 → PySem.W.kitOne K (cvOf K c) (cvOf K 6) = some (catches 6 c)
  kitV : ∀ c, c < 6 → PySem.W.kitOne K (cvOf K c) (.type "ValueError") = some true
  len : mg "len" = none
  list : mg "list" = none
  max : mg "max" = none
  range : mg "range" = none
  rd : RdF K mg C
  set : mg "set" = none
  str : mg "str" = none
  sum : mg "sum" = none
  tuple : mg "tuple" = none
  x_BadFraction : XF K mg cv 0 "BadFraction"
  x_BadNumber : XF K mg cv 3 "BadNumber"
  x_BadRange : XF K mg cv 1 "BadRange"
  x_BadRule : XF K mg cv 2 "BadRule"
  x_BadText : XF K mg cv 4 "BadText"
  x_DecimalError : XF K mg cv 6 "DecimalError"
  x_NotFound : XF K mg cv 5 "NotFound"
section
variable {P : Program} {w : World} {K : PySem.W.Frag} {mg : Str → Option Value} {base : Heap} {C : Addr} {cv : Nat → Value}
set_option maxHeartbeats 4000000 in
theorem ok__law_start (G : Gs K mg C cv) (f : Addr) (fd : FuncData) (F : Fun K "_law_start" "_law_start" s__law_start f fd) : FnOk P w K mg base (L2.CX P w) 1 f fd ["_law_script"] (spM K C cv 1 m__law_start) :=
  have nd := sc__law_start.nd
  zdef (mb := b__law_start) rfl rfl F sc__law_start fun cdv A outer s H E g hr =>
  (sone (sret (znewS (zacons (zif (ztcmp (op_neD (units64 hr)) m_ne (zv 0) (zlst zanil) (nomark _)) (zcallTy (show CallR _ (.type "list") (rListOf _) from call_list_of) m_listS G.list (zacons (zv 0) zanil)) (znewS (zacons zint zanil))) (zacons zint zanil)))))
set_option maxHeartbeats 4000000 in
theorem ok_common (G : Gs K mg C cv) (f : Addr) (fd : FuncData) (F : Fun K "common" "common" s_common f fd) : FnOk P w K mg base (L2.CX P w) 1 f fd ["one", "other"] (spM K C cv 2 m_common) :=
  have nd := sc_common.nd
  zdef (mb := b_common) rfl rfl F sc_common fun cdv A outer s H E g hr =>
  (scons (spar2 0 1 nd (zacons (zcallB call_abs m_abs G.abs (zacons (zv 0) zanil)) (zacons (zcallB call_abs m_abs G.abs (zacons (zv 1) zanil)) zanil)))
  (scons (swhile fuelN (ztcmp (op_neD (units64 hr)) m_ne (zv 1) zint (nomark _))
  (sone (spar2 0 1 nd (zacons (zv 1) (zacons (zop op_mod m_mod (zv 0) (zv 1)) zanil)))) ownX)
  (sone (sret (zv 0)))))
set_option maxHeartbeats 4000000 in
theorem ok_is_any (G : Gs K mg C cv) (D_common : Def P w K mg base C cv 1 "common" 2 m_common) (f : Addr) (fd : FuncData) (F : Fun K "is_any" "is_any" s_is_any f fd) : FnOk P w K mg base (L2.CX P w) 2 f fd ["value"] (spM K C cv 1 m_is_any) :=
  have nd := sc_is_any.nd
  zdef (mb := b_is_any) rfl rfl F sc_is_any fun cdv A outer s H E g hr =>
  (scons (sif (PW.pt (ztor (ztnot (ztv (zisi (T := "tuple") (zv 0) G.isinstance G.tuple (by decide +kernel)))) (ztor1 (ztcmp (op_neD (units64 hr)) m_ne (zcallB call_len m_len G.len (zacons (zv 0) zanil)) zint (nomark _)))))
  (sone (sret zbl))
  snil)
  (scons (sif (ztnot (ztv (zcallB (cr_all rfl) m_all G.all (zacons (zcomp (own := [("part", 1)]) nd (zitup (zv 0)) (tg_name _ 1) (blkOk_by (N := N_is_any) (sc := defScope s_is_any) (by decide +kernel)) (fun _ _ _ _ _ => (pg_name (i := 1) nd rfl (by first | exact .inl rfl | exact .inr rfl))) (fun _ _ _ _ _ _ _ => tsnil) (fun _ _ _ _ _ _ _ => (zand (zisi (T := "int") (zv 1) G.isinstance G.int (by decide +kernel)) (zone (znot (zisi (T := "bool") (zv 1) G.isinstance G.bool (by decide +kernel))))))) zanil))))
  (sone (sret zbl))
  snil)
  (sone (sret (zand (zcmp op_gt m_gt (zix ix_seq m_ix (zv 0) zint) zint (nomark _)) (zone (zcmp (op_eqD (units64 hr)) m_eq (zcall D_common hr pasX (zacons (zix ix_seq m_ix (zv 0) zint) (zacons (zix ix_seq m_ix (zv 0) zint) zanil)) (hal := (al_cons (al_cons al_nil)))) zint (nomark _))))))))
set_option maxHeartbeats 4000000 in
theorem ok_less (G : Gs K mg C cv) (f : Addr) (fd : FuncData) (F : Fun K "less" "less" s_less f fd) : FnOk P w K mg base (L2.CX P w) 1 f fd ["one", "other"] (spM K C cv 2 m_less) :=
  have nd := sc_less.nd
  zdef (mb := b_less) rfl rfl F sc_less fun cdv A outer s H E g hr =>
  (sone (sret (zcmp op_lt m_lt (zop h_mul m_mul (zix ix_seq m_ix (zv 0) zint) (zix ix_seq m_ix (zv 1) zint)) (zop h_mul m_mul (zix ix_seq m_ix (zv 1) zint) (zix ix_seq m_ix (zv 0) zint)) (nomark _))))
set_option maxHeartbeats 4000000 in
theorem ok_is_span (G : Gs K mg C cv) (D_is_any : Def P w K mg base C cv 2 "is_any" 1 m_is_any) (D_less : Def P w K mg base C cv 1 "less" 2 m_less) (f : Addr) (fd : FuncData) (F : Fun K "is_span" "is_span" s_is_span f fd) : FnOk P w K mg base (L2.CX P w) 3 f fd ["value"] (spM K C cv 1 m_is_span) :=
  have nd := sc_is_span.nd
  zdef (mb := b_is_span) rfl rfl F sc_is_span fun cdv A outer s H E g hr =>
  (scons (sif (PW.pt (ztor (ztnot (ztv (zisi (T := "tuple") (zv 0) G.isinstance G.tuple (by decide +kernel)))) (ztor (ztcmp (op_neD (units64 hr)) m_ne (zcallB call_len m_len G.len (zacons (zv 0) zanil)) zint (nomark _)) (ztor (ztnot (ztv (zcall D_is_any hr pasX (zacons (zix ix_seq m_ix (zv 0) zint) zanil) (hal := (al_cons al_nil))))) (ztor1 (ztnot (ztv (zcall D_is_any hr pasX (zacons (zix ix_seq m_ix (zv 0) zint) zanil) (hal := (al_cons al_nil))))))))))
  (sone (sret zbl))
  snil)
  (scons (sif (PW.pt (ztor (ztnot (ztv (zisi (T := "bool") (zix ix_seq m_ix (zv 0) zint) G.isinstance G.bool (by decide +kernel)))) (ztor1 (ztnot (ztv (zisi (T := "bool") (zix ix_seq m_ix (zv 0) zint) G.isinstance G.bool (by decide +kernel)))))))
  (sone (sret zbl))
  snil)
  (sone (sret (zor (zcall D_less hr pasX (zacons (zix ix_seq m_ix (zv 0) zint) (zacons (zix ix_seq m_ix (zv 0) zint) zanil)) (hal := (al_cons (al_cons al_nil)))) (zone (zand (zcmp (op_eqD (units64 hr)) m_eq (zix ix_seq m_ix (zv 0) zint) (zix ix_seq m_ix (zv 0) zint) (nomark _)) (zand (zix ix_seq m_ix (zv 0) zint) (zone (zix ix_seq m_ix (zv 0) zint))))))))))
set_option maxHeartbeats 4000000 in
theorem ok_is_range (G : Gs K mg C cv) (D_is_span : Def P w K mg base C cv 3 "is_span" 1 m_is_span) (D_less : Def P w K mg base C cv 1 "less" 2 m_less) (f : Addr) (fd : FuncData) (F : Fun K "is_range" "is_range" s_is_range f fd) : FnOk P w K mg base (L2.CX P w) 4 f fd ["value"] (spM K C cv 1 m_is_range) :=
  have nd := sc_is_range.nd
  zdef (mb := b_is_range) rfl rfl F sc_is_range fun cdv A outer s H E g hr =>
  (sone (sret (zand (zcall D_is_span hr pasX (zacons (zv 0) zanil) (hal := (al_cons al_nil))) (zand (znot (zcall D_less hr pasX (zacons (zix ix_seq m_ix (zv 0) zint) (zacons (ztup (zacons (zun un_neg m_neg zint) (zacons zint zanil))) zanil)) (hal := (al_cons (al_cons al_nil))))) (zone (znot (zcall D_less hr pasX (zacons (ztup (zacons zint (zacons zint zanil))) (zacons (zix ix_seq m_ix (zv 0) zint) zanil)) (hal := (al_cons (al_cons al_nil))))))))))
set_option maxHeartbeats 4000000 in
theorem ok_check_range (G : Gs K mg C cv) (D_is_range : Def P w K mg base C cv 4 "is_range" 1 m_is_range) (f : Addr) (fd : FuncData) (F : Fun K "check_range" "check_range" s_check_range f fd) : FnOk P w K mg base (L2.CX P w) 5 f fd ["value"] (spM K C cv 1 m_check_range) :=
  have nd := sc_check_range.nd
  zdef (mb := b_check_range) rfl rfl F sc_check_range fun cdv A outer s H E g hr =>
  (sone (sif (ztnot (ztv (zcall D_is_range hr pasX (zacons (zv 0) zanil) (hal := (al_cons al_nil)))))
  (sone (zraise G.x_BadRange takX))
  snil))
set_option maxHeartbeats 4000000 in
theorem ok_power_of (G : Gs K mg C cv) (f : Addr) (fd : FuncData) (F : Fun K "power_of" "power_of" s_power_of f fd) : FnOk P w K mg base (L2.CX P w) 1 f fd ["digits"] (spM K C cv 1 m_power_of) :=
  have nd := sc_power_of.nd
  zdef (mb := b_power_of) rfl rfl F sc_power_of fun cdv A outer s H E g hr =>
  (scons (sset 1 nd zint)
  (scons (sfor (zirg1 G.range (zv 0)) (pg_name (i := 2) nd rfl (by first | exact .inl rfl | exact .inr rfl)) (tg_name _ 2)
  (sone (saug 1 nd iop_mul m_mulI zint)) ownX)
  (sone (sret (zv 1)))))
set_option maxHeartbeats 4000000 in
theorem ok_ends_of (G : Gs K mg C cv) (D_power_of : Def P w K mg base C cv 1 "power_of" 1 m_power_of) (f : Addr) (fd : FuncData) (F : Fun K "ends_of" "ends_of" s_ends_of f fd) : FnOk P w K mg base (L2.CX P w) 2 f fd ["span", "digits"] (spM K C cv 2 m_ends_of) :=
  have nd := sc_ends_of.nd
  zdef (mb := b_ends_of) rfl rfl F sc_ends_of fun cdv A outer s H E g hr =>
  (scons (sunp (zv 0) (pg_tup (n := 4) rfl (gcons 2 nd (gcons 3 nd (gcons 4 nd (gcons 5 nd gnil))))) (tg_tup _ [2, 3, 4, 5]))
  (scons (sset 6 nd (zcall D_power_of hr pasX (zacons (zv 1) zanil) (hal := (al_cons al_nil))))
  (scons (sset 7 nd (zun un_neg m_neg (zop op_fdivW m_fdiv (zop h_mul m_mul (zun un_neg m_neg (zix ix_seq m_ix (zv 2) zint)) (zv 6)) (zix ix_seq m_ix (zv 2) zint))))
  (scons (sif (PW.pt (ztand (ztcmp (op_eqD (units64 hr)) m_eq (zop h_mul m_mul (zv 7) (zix ix_seq m_ix (zv 2) zint)) (zop h_mul m_mul (zix ix_seq m_ix (zv 2) zint) (zv 6)) (nomark _)) (ztand1 (ztnot (ztv (zv 3))))))
  (sone (saug 7 nd iop_add m_addI zint))
  snil)
  (scons (sset 8 nd (zop op_fdivW m_fdiv (zop h_mul m_mul (zix ix_seq m_ix (zv 4) zint) (zv 6)) (zix ix_seq m_ix (zv 4) zint)))
  (scons (sif (PW.pt (ztand (ztcmp (op_eqD (units64 hr)) m_eq (zop h_mul m_mul (zv 8) (zix ix_seq m_ix (zv 4) zint)) (zop h_mul m_mul (zix ix_seq m_ix (zv 4) zint) (zv 6)) (nomark _)) (ztand1 (ztnot (ztv (zv 5))))))
  (sone (saug 8 nd iop_sub m_sub zint))
  snil)
  (sone (sret (ztup (zacons (zv 7) (zacons (zv 8) zanil)))))))))))
set_option maxHeartbeats 4000000 in
theorem ok_least_of (G : Gs K mg C cv) (D_ends_of : Def P w K mg base C cv 2 "ends_of" 2 m_ends_of) (f : Addr) (fd : FuncData) (F : Fun K "least_of" "least_of" s_least_of f fd) : FnOk P w K mg base (L2.CX P w) 3 f fd ["span"] (spM K C cv 1 m_least_of) :=
  have nd := sc_least_of.nd
  zdef (mb := b_least_of) rfl rfl F sc_least_of fun cdv A outer s H E g hr =>
  (scons (sfor (zirg1 G.range (zop h_add z_addI (zgint G.MOST_DIGITS) zint)) (pg_name (i := 1) nd rfl (by first | exact .inl rfl | exact .inr rfl)) (tg_name _ 1)
  (scons (sunp (zcall D_ends_of hr pasX (zacons (zv 0) (zacons (zv 1) zanil)) (hal := (al_cons (al_cons al_nil)))) (pg_tup (n := 2) rfl (gcons 2 nd (gcons 3 nd gnil))) (tg_tup _ [2, 3]))
  (sone (sif (ztcmp op_le m_le (zv 2) (zv 3) (nomark _))
  (sone (sret (zv 1)))
  snil))) ownX)
  (sone (sret znon)))
set_option maxHeartbeats 4000000 in
theorem ok_least_digits (G : Gs K mg C cv) (D_check_range : Def P w K mg base C cv 5 "check_range" 1 m_check_range) (D_least_of : Def P w K mg base C cv 3 "least_of" 1 m_least_of) (f : Addr) (fd : FuncData) (F : Fun K "least_digits" "least_digits" s_least_digits f fd) : FnOk P w K mg base (L2.CX P w) 6 f fd ["span"] (spM K C cv 1 m_least_digits) :=
  have nd := sc_least_digits.nd
  zdef (mb := b_least_digits) rfl rfl F sc_least_digits fun cdv A outer s H E g hr =>
  (scons (sexpr (zcall D_check_range hr pasX (zacons (zv 0) zanil) (hal := (al_cons al_nil))))
  (scons (sset 1 nd (zcall D_least_of hr pasX (zacons (zv 0) zanil) (hal := (al_cons al_nil))))
  (scons (sif (ztcmp h_is m_is (zv 1) znon (nomark _))
  (sone (zraise G.x_NotFound takX))
  snil)
  (sone (sret (zv 1))))))
set_option maxHeartbeats 4000000 in
theorem ok_shortest (G : Gs K mg C cv) (D_check_range : Def P w K mg base C cv 5 "check_range" 1 m_check_range) (D_least_of : Def P w K mg base C cv 3 "least_of" 1 m_least_of) (D_ends_of : Def P w K mg base C cv 2 "ends_of" 2 m_ends_of) (f : Addr) (fd : FuncData) (F : Fun K "shortest" "shortest" s_shortest f fd) : FnOk P w K mg base (L2.CX P w) 6 f fd ["span"] (spM K C cv 1 m_shortest) :=
  have nd := sc_shortest.nd
  zdef (mb := b_shortest) rfl rfl F sc_shortest fun cdv A outer s H E g hr =>
  (scons (sexpr (zcall D_check_range hr pasX (zacons (zv 0) zanil) (hal := (al_cons al_nil))))
  (scons (sset 1 nd (zcall D_least_of hr pasX (zacons (zv 0) zanil) (hal := (al_cons al_nil))))
  (scons (sif (ztcmp h_is m_is (zv 1) znon (nomark _))
  (sone (zraise G.x_NotFound takX))
  snil)
  (scons (sunp (zcall D_ends_of hr pasX (zacons (zv 0) (zacons (zv 1) zanil)) (hal := (al_cons (al_cons al_nil)))) (pg_tup (n := 2) rfl (gcons 2 nd (gcons 3 nd gnil))) (tg_tup _ [2, 3]))
  (sone (sret (ztup (zacons (zlrg2 G.list G.range (zv 2) (zop h_add z_addI (zv 3) zint)) (zacons (zv 1) zanil)))))))))
set_option maxHeartbeats 4000000 in
theorem ok_tops_in (G : Gs K mg C cv) (f : Addr) (fd : FuncData) (F : Fun K "tops_in" "tops_in" s_tops_in f fd) : FnOk P w K mg base (L2.CX P w) 1 f fd ["span", "under"] (spM K C cv 2 m_tops_in) :=
  have nd := sc_tops_in.nd
  zdef (mb := b_tops_in) rfl rfl F sc_tops_in fun cdv A outer s H E g hr =>
  (scons (sunp (zv 0) (pg_tup (n := 4) rfl (gcons 2 nd (gcons 3 nd (gcons 4 nd (gcons 5 nd gnil))))) (tg_tup _ [2, 3, 4, 5]))
  (scons (sset 6 nd (zun un_neg m_neg (zop op_fdivW m_fdiv (zop h_mul m_mul (zun un_neg m_neg (zix ix_seq m_ix (zv 2) zint)) (zv 1)) (zix ix_seq m_ix (zv 2) zint))))
  (scons (sif (PW.pt (ztand (ztcmp (op_eqD (units64 hr)) m_eq (zop h_mul m_mul (zv 6) (zix ix_seq m_ix (zv 2) zint)) (zop h_mul m_mul (zix ix_seq m_ix (zv 2) zint) (zv 1)) (nomark _)) (ztand1 (ztnot (ztv (zv 3))))))
  (sone (saug 6 nd iop_add m_addI zint))
  snil)
  (scons (sset 7 nd (zop op_fdivW m_fdiv (zop h_mul m_mul (zix ix_seq m_ix (zv 4) zint) (zv 1)) (zix ix_seq m_ix (zv 4) zint)))
  (scons (sif (PW.pt (ztand (ztcmp (op_eqD (units64 hr)) m_eq (zop h_mul m_mul (zv 7) (zix ix_seq m_ix (zv 4) zint)) (zop h_mul m_mul (zix ix_seq m_ix (zv 4) zint) (zv 1)) (nomark _)) (ztand1 (ztnot (ztv (zv 5))))))
  (sone (saug 7 nd iop_sub m_sub zint))
  snil)
  (sone (sret (ztup (zacons (zv 6) (zacons (zv 7) zanil))))))))))
set_option maxHeartbeats 4000000 in
theorem ok_simplest_of (G : Gs K mg C cv) (D_tops_in : Def P w K mg base C cv 1 "tops_in" 2 m_tops_in) (f : Addr) (fd : FuncData) (F : Fun K "simplest_of" "simplest_of" s_simplest_of f fd) : FnOk P w K mg base (L2.CX P w) 2 f fd ["span"] (spM K C cv 1 m_simplest_of) :=
  have nd := sc_simplest_of.nd
  zdef (mb := b_simplest_of) rfl rfl F sc_simplest_of fun cdv A outer s H E g hr =>
  (scons (sfor (zirg2 G.range zint (zop h_add z_addI (zgint G.MOST_TRIED) zint)) (pg_name (i := 1) nd rfl (by first | exact .inl rfl | exact .inr rfl)) (tg_name _ 1)
  (scons (sunp (zcall D_tops_in hr pasX (zacons (zv 0) (zacons (zv 1) zanil)) (hal := (al_cons (al_cons al_nil)))) (pg_tup (n := 2) rfl (gcons 2 nd (gcons 3 nd gnil))) (tg_tup _ [2, 3]))
  (sone (sif (ztcmp op_le m_le (zv 2) (zv 3) (nomark _))
  (sone (sret (ztup (zacons (zv 2) (zacons (zv 1) zanil)))))
  snil))) ownX)
  (sone (sret znon)))
set_option maxHeartbeats 4000000 in
theorem ok_lowest (G : Gs K mg C cv) (D_common : Def P w K mg base C cv 1 "common" 2 m_common) (f : Addr) (fd : FuncData) (F : Fun K "lowest" "lowest" s_lowest f fd) : FnOk P w K mg base (L2.CX P w) 2 f fd ["top", "below"] (spM K C cv 2 m_lowest) :=
  have nd := sc_lowest.nd
  zdef (mb := b_lowest) rfl rfl F sc_lowest fun cdv A outer s H E g hr =>
  (scons (sset 2 nd (zcall D_common hr pasX (zacons (zv 0) (zacons (zv 1) zanil)) (hal := (al_cons (al_cons al_nil)))))
  (sone (sret (ztup (zacons (zop op_fdivW m_fdiv (zv 0) (zv 2)) (zacons (zop op_fdivW m_fdiv (zv 1) (zv 2)) zanil))))))
set_option maxHeartbeats 4000000 in
theorem ok_simplest (G : Gs K mg C cv) (D_check_range : Def P w K mg base C cv 5 "check_range" 1 m_check_range) (D_simplest_of : Def P w K mg base C cv 2 "simplest_of" 1 m_simplest_of) (D_lowest : Def P w K mg base C cv 2 "lowest" 2 m_lowest) (f : Addr) (fd : FuncData) (F : Fun K "simplest" "simplest" s_simplest f fd) : FnOk P w K mg base (L2.CX P w) 6 f fd ["span"] (spM K C cv 1 m_simplest) :=
  have nd := sc_simplest.nd
  zdef (mb := b_simplest) rfl rfl F sc_simplest fun cdv A outer s H E g hr =>
  (scons (sexpr (zcall D_check_range hr pasX (zacons (zv 0) zanil) (hal := (al_cons al_nil))))
  (scons (sset 1 nd (zcall D_simplest_of hr pasX (zacons (zv 0) zanil) (hal := (al_cons al_nil))))
  (scons (sif (ztcmp h_is m_is (zv 1) znon (nomark _))
  (sone (zraise G.x_NotFound takX))
  snil)
  (sone (sret (zcall D_lowest hr pasX (zacons (zix ix_seq m_ix (zv 1) zint) (zacons (zix ix_seq m_ix (zv 1) zint) zanil)) (hal := (al_cons (al_cons al_nil)))))))))
set_option maxHeartbeats 4000000 in
theorem ok_simplest_all (G : Gs K mg C cv) (D_check_range : Def P w K mg base C cv 5 "check_range" 1 m_check_range) (D_simplest_of : Def P w K mg base C cv 2 "simplest_of" 1 m_simplest_of) (D_tops_in : Def P w K mg base C cv 1 "tops_in" 2 m_tops_in) (f : Addr) (fd : FuncData) (F : Fun K "simplest_all" "simplest_all" s_simplest_all f fd) : FnOk P w K mg base (L2.CX P w) 6 f fd ["span"] (spM K C cv 1 m_simplest_all) :=
  have nd := sc_simplest_all.nd
  zdef (mb := b_simplest_all) rfl rfl F sc_simplest_all fun cdv A outer s H E g hr =>
  (scons (sexpr (zcall D_check_range hr pasX (zacons (zv 0) zanil) (hal := (al_cons al_nil))))
  (scons (sset 1 nd (zcall D_simplest_of hr pasX (zacons (zv 0) zanil) (hal := (al_cons al_nil))))
  (scons (sif (ztcmp h_is m_is (zv 1) znon (nomark _))
  (sone (zraise G.x_NotFound takX))
  snil)
  (scons (sunp (zcall D_tops_in hr pasX (zacons (zv 0) (zacons (zix ix_seq m_ix (zv 1) zint) zanil)) (hal := (al_cons (al_cons al_nil)))) (pg_tup (n := 2) rfl (gcons 2 nd (gcons 3 nd gnil))) (tg_tup _ [2, 3]))
  (sone (sret (zcomp (own := [("top", 4)]) nd (zirg2 G.range (zv 2) (zop h_add z_addI (zv 3) zint)) (tg_name _ 4) (blkOk_by (N := N_simplest_all) (sc := defScope s_simplest_all) (by decide +kernel)) (fun _ _ _ _ _ => (pg_name (i := 4) nd rfl (by first | exact .inl rfl | exact .inr rfl))) (fun _ _ _ _ _ _ _ => tsnil) (fun _ _ _ _ _ _ _ => (ztup (zacons (zv 4) (zacons (zix ix_seq m_ix (zv 1) zint) zanil)))))))))))
set_option maxHeartbeats 4000000 in
theorem ok_minus (G : Gs K mg C cv) (D_lowest : Def P w K mg base C cv 2 "lowest" 2 m_lowest) (f : Addr) (fd : FuncData) (F : Fun K "minus" "minus" s_minus f fd) : FnOk P w K mg base (L2.CX P w) 3 f fd ["one", "other"] (spM K C cv 2 m_minus) :=
  have nd := sc_minus.nd
  zdef (mb := b_minus) rfl rfl F sc_minus fun cdv A outer s H E g hr =>
  (sone (sret (zcall D_lowest hr pasX (zacons (zop op_sub m_sub (zop h_mul m_mul (zix ix_seq m_ix (zv 0) zint) (zix ix_seq m_ix (zv 1) zint)) (zop h_mul m_mul (zix ix_seq m_ix (zv 1) zint) (zix ix_seq m_ix (zv 0) zint))) (zacons (zop h_mul m_mul (zix ix_seq m_ix (zv 0) zint) (zix ix_seq m_ix (zv 1) zint)) zanil)) (hal := (al_cons (al_cons al_nil))))))
set_option maxHeartbeats 4000000 in
theorem ok_width (G : Gs K mg C cv) (D_check_range : Def P w K mg base C cv 5 "check_range" 1 m_check_range) (D_minus : Def P w K mg base C cv 3 "minus" 2 m_minus) (f : Addr) (fd : FuncData) (F : Fun K "width" "width" s_width f fd) : FnOk P w K mg base (L2.CX P w) 6 f fd ["span"] (spM K C cv 1 m_width) :=
  have nd := sc_width.nd
  zdef (mb := b_width) rfl rfl F sc_width fun cdv A outer s H E g hr =>
  (scons (sexpr (zcall D_check_range hr pasX (zacons (zv 0) zanil) (hal := (al_cons al_nil))))
  (sone (sret (zcall D_minus hr pasX (zacons (zix ix_seq m_ix (zv 0) zint) (zacons (zix ix_seq m_ix (zv 0) zint) zanil)) (hal := (al_cons (al_cons al_nil)))))))
set_option maxHeartbeats 4000000 in
theorem ok_Reader___init__ (G : Gs K mg C cv) (D_check_range : Def P w K mg base C cv 5 "check_range" 1 m_check_range) (f : Addr) (fd : FuncData) (F : Fun K "__init__" "Reader.__init__" s_Reader___init__ f fd) : FnOk P w K mg base (L2.CX P w) 6 f fd ["self", "span"] (spM K C cv 2 m_Reader___init__) :=
  have nd := sc_Reader___init__.nd
  zdef (mb := b_Reader___init__) rfl rfl F sc_Reader___init__ fun cdv A outer s H E g hr =>
  (scons (sexpr (zcall D_check_range hr pasX (zacons (zv 1) zanil) (hal := (al_cons al_nil))))
  (scons (sflds G.rd.cl G.rd.nNow (zv 0) (zv 1))
  (sone (sflds G.rd.cl G.rd.nPast (zv 0) (znewS zanil)))))
set_option maxHeartbeats 4000000 in
theorem ok_is_int (G : Gs K mg C cv) (f : Addr) (fd : FuncData) (F : Fun K "is_int" "is_int" s_is_int f fd) : FnOk P w K mg base (L2.CX P w) 1 f fd ["value", "low", "high"] (spM K C cv 3 m_is_int) :=
  have nd := sc_is_int.nd
  zdef (mb := b_is_int) rfl rfl F sc_is_int fun cdv A outer s H E g hr =>
  (sone (sret (zand (zisi (T := "int") (zv 0) G.isinstance G.int (by decide +kernel)) (zand (znot (zisi (T := "bool") (zv 0) G.isinstance G.bool (by decide +kernel))) (zone (zchain op_le m_le op_le m_le (zv 1) (zv 0) (zv 2)))))))
set_option maxHeartbeats 4000000 in
theorem ok_is_fraction (G : Gs K mg C cv) (D_is_int : Def P w K mg base C cv 1 "is_int" 3 m_is_int) (D_common : Def P w K mg base C cv 1 "common" 2 m_common) (f : Addr) (fd : FuncData) (F : Fun K "is_fraction" "is_fraction" s_is_fraction f fd) : FnOk P w K mg base (L2.CX P w) 2 f fd ["value"] (spM K C cv 1 m_is_fraction) :=
  have nd := sc_is_fraction.nd
  zdef (mb := b_is_fraction) rfl rfl F sc_is_fraction fun cdv A outer s H E g hr =>
  (scons (sif (PW.pt (ztor (ztnot (ztv (zisi (T := "tuple") (zv 0) G.isinstance G.tuple (by decide +kernel)))) (ztor1 (ztcmp (op_neD (units64 hr)) m_ne (zcallB call_len m_len G.len (zacons (zv 0) zanil)) zint (nomark _)))))
  (sone (sret zbl))
  snil)
  (scons (sif (PW.pt (ztor (ztnot (ztv (zcall D_is_int hr pasX (zacons (zix ix_seq m_ix (zv 0) zint) (zacons zint (zacons (zgint G.MOST_UNDER) zanil))) (hal := (al_cons (al_cons (al_cons al_nil))))))) (ztor1 (ztnot (ztv (zcall D_is_int hr pasX (zacons (zix ix_seq m_ix (zv 0) zint) (zacons (zop h_mul m_mul (zun un_neg m_neg zint) (zix ix_seq m_ix (zv 0) zint)) (zacons (zop h_mul m_mul zint (zix ix_seq m_ix (zv 0) zint)) zanil))) (hal := (al_cons (al_cons (al_cons al_nil))))))))))
  (sone (sret zbl))
  snil)
  (sone (sret (zcmp (op_eqD (units64 hr)) m_eq (zcall D_common hr pasX (zacons (zix ix_seq m_ix (zv 0) zint) (zacons (zix ix_seq m_ix (zv 0) zint) zanil)) (hal := (al_cons (al_cons al_nil)))) zint (nomark _))))))
set_option maxHeartbeats 4000000 in
theorem ok_check_fraction (G : Gs K mg C cv) (D_is_fraction : Def P w K mg base C cv 2 "is_fraction" 1 m_is_fraction) (f : Addr) (fd : FuncData) (F : Fun K "check_fraction" "check_fraction" s_check_fraction f fd) : FnOk P w K mg base (L2.CX P w) 3 f fd ["value"] (spM K C cv 1 m_check_fraction) :=
  have nd := sc_check_fraction.nd
  zdef (mb := b_check_fraction) rfl rfl F sc_check_fraction fun cdv A outer s H E g hr =>
  (sone (sif (ztnot (ztv (zcall D_is_fraction hr pasX (zacons (zv 0) zanil) (hal := (al_cons al_nil)))))
  (sone (zraise G.x_BadFraction takX))
  snil))
set_option maxHeartbeats 4000000 in
theorem ok_within (G : Gs K mg C cv) (D_less : Def P w K mg base C cv 1 "less" 2 m_less) (f : Addr) (fd : FuncData) (F : Fun K "within" "within" s_within f fd) : FnOk P w K mg base (L2.CX P w) 2 f fd ["span", "value"] (spM K C cv 2 m_within) :=
  have nd := sc_within.nd
  zdef (mb := b_within) rfl rfl F sc_within fun cdv A outer s H E g hr =>
  (scons (sunp (zv 0) (pg_tup (n := 4) rfl (gcons 2 nd (gcons 3 nd (gcons 4 nd (gcons 5 nd gnil))))) (tg_tup _ [2, 3, 4, 5]))
  (scons (sif (PW.pt (ztor (ztv (zcall D_less hr pasX (zacons (zv 1) (zacons (zv 2) zanil)) (hal := (al_cons (al_cons al_nil))))) (ztor1 (ztv (zcall D_less hr pasX (zacons (zv 4) (zacons (zv 1) zanil)) (hal := (al_cons (al_cons al_nil))))))))
  (sone (sret zbl))
  snil)
  (scons (sif (PW.pt (ztor (PW.pt (ztand (ztcmp (op_eqD (units64 hr)) m_eq (zv 1) (zv 2) (nomark _)) (ztand1 (ztnot (ztv (zv 3)))))) (ztor1 (PW.pt (ztand (ztcmp (op_eqD (units64 hr)) m_eq (zv 1) (zv 4) (nomark _)) (ztand1 (ztnot (ztv (zv 5)))))))))
  (sone (sret zbl))
  snil)
  (sone (sret zbl)))))
set_option maxHeartbeats 4000000 in
theorem ok_contains (G : Gs K mg C cv) (D_check_range : Def P w K mg base C cv 5 "check_range" 1 m_check_range) (D_check_fraction : Def P w K mg base C cv 3 "check_fraction" 1 m_check_fraction) (D_within : Def P w K mg base C cv 2 "within" 2 m_within) (f : Addr) (fd : FuncData) (F : Fun K "contains" "contains" s_contains f fd) : FnOk P w K mg base (L2.CX P w) 6 f fd ["span", "value"] (spM K C cv 2 m_contains) :=
  have nd := sc_contains.nd
  zdef (mb := b_contains) rfl rfl F sc_contains fun cdv A outer s H E g hr =>
  (scons (sexpr (zcall D_check_range hr pasX (zacons (zv 0) zanil) (hal := (al_cons al_nil))))
  (scons (sexpr (zcall D_check_fraction hr pasX (zacons (zv 1) zanil) (hal := (al_cons al_nil))))
  (sone (sret (zcall D_within hr pasX (zacons (zv 0) (zacons (zv 1) zanil)) (hal := (al_cons (al_cons al_nil))))))))
set_option maxHeartbeats 4000000 in
theorem ok_nearest (G : Gs K mg C cv) (D_check_range : Def P w K mg base C cv 5 "check_range" 1 m_check_range) (D_check_fraction : Def P w K mg base C cv 3 "check_fraction" 1 m_check_fraction) (D_least_of : Def P w K mg base C cv 3 "least_of" 1 m_least_of) (D_ends_of : Def P w K mg base C cv 2 "ends_of" 2 m_ends_of) (D_power_of : Def P w K mg base C cv 1 "power_of" 1 m_power_of) (D_minus : Def P w K mg base C cv 3 "minus" 2 m_minus) (D_lowest : Def P w K mg base C cv 2 "lowest" 2 m_lowest) (D_less : Def P w K mg base C cv 1 "less" 2 m_less) (f : Addr) (fd : FuncData) (F : Fun K "nearest" "nearest" s_nearest f fd) : FnOk P w K mg base (L2.CX P w) 6 f fd ["span", "value"] (spM K C cv 2 m_nearest) :=
  have nd := sc_nearest.nd
  zdef (mb := b_nearest) rfl rfl F sc_nearest fun cdv A outer s H E g hr =>
  (scons (sexpr (zcall D_check_range hr pasX (zacons (zv 0) zanil) (hal := (al_cons al_nil))))
  (scons (sexpr (zcall D_check_fraction hr pasX (zacons (zv 1) zanil) (hal := (al_cons al_nil))))
  (scons (sset 2 nd (zcall D_least_of hr pasX (zacons (zv 0) zanil) (hal := (al_cons al_nil))))
  (scons (sif (ztcmp h_is m_is (zv 2) znon (nomark _))
  (sone (zraise G.x_NotFound takX))
  snil)
  (scons (sunp (zcall D_ends_of hr pasX (zacons (zv 0) (zacons (zv 2) zanil)) (hal := (al_cons (al_cons al_nil)))) (pg_tup (n := 2) rfl (gcons 3 nd (gcons 4 nd gnil))) (tg_tup _ [3, 4]))
  (scons (sset 5 nd (zcall D_power_of hr pasX (zacons (zv 2) zanil) (hal := (al_cons al_nil))))
  (scons (sset 6 nd znon)
  (scons (sfor (zirg2 G.range (zv 3) (zop h_add z_addI (zv 4) zint)) (pg_name (i := 7) nd rfl (by first | exact .inl rfl | exact .inr rfl)) (tg_name _ 7)
  (scons (sset 8 nd (zcall D_minus hr pasX (zacons (zcall D_lowest hr pasX (zacons (zv 7) (zacons (zv 5) zanil)) (hal := (al_cons (al_cons al_nil)))) (zacons (zv 1) zanil)) (hal := (al_cons (al_cons al_nil)))))
  (scons (sset 9 nd (ztup (zacons (zcallB call_abs m_abs G.abs (zacons (zix ix_seq m_ix (zv 8) zint) zanil)) (zacons (zix ix_seq m_ix (zv 8) zint) zanil))))
  (sone (sif (PW.pt (ztor (ztcmp h_is m_is (zv 6) znon (nomark _)) (ztor1 (ztv (zcall D_less hr pasX (zacons (zv 9) (zacons (zix ix_seq m_ix (zv 6) zint) zanil)) (hal := (al_cons (al_cons al_nil))))))))
  (sone (sset 6 nd (ztup (zacons (zv 9) (zacons (zv 7) zanil)))))
  snil)))) ownX)
  (sone (sret (ztup (zacons (zix ix_seq m_ix (zv 6) zint) (zacons (zv 2) zanil)))))))))))))
set_option maxHeartbeats 4000000 in
theorem ok_check_digits (G : Gs K mg C cv) (D_is_int : Def P w K mg base C cv 1 "is_int" 3 m_is_int) (f : Addr) (fd : FuncData) (F : Fun K "check_digits" "check_digits" s_check_digits f fd) : FnOk P w K mg base (L2.CX P w) 2 f fd ["value"] (spM K C cv 1 m_check_digits) :=
  have nd := sc_check_digits.nd
  zdef (mb := b_check_digits) rfl rfl F sc_check_digits fun cdv A outer s H E g hr =>
  (sone (sif (ztnot (ztv (zcall D_is_int hr pasX (zacons (zv 0) (zacons zint (zacons (zgint G.MOST_DIGITS) zanil))) (hal := (al_cons (al_cons (al_cons al_nil)))))))
  (sone (zraise G.x_BadNumber takX))
  snil))
set_option maxHeartbeats 4000000 in
theorem ok_count_decimals (G : Gs K mg C cv) (D_check_range : Def P w K mg base C cv 5 "check_range" 1 m_check_range) (D_check_digits : Def P w K mg base C cv 2 "check_digits" 1 m_check_digits) (D_ends_of : Def P w K mg base C cv 2 "ends_of" 2 m_ends_of) (f : Addr) (fd : FuncData) (F : Fun K "count_decimals" "count_decimals" s_count_decimals f fd) : FnOk P w K mg base (L2.CX P w) 6 f fd ["span", "digits"] (spM K C cv 2 m_count_decimals) :=
  have nd := sc_count_decimals.nd
  zdef (mb := b_count_decimals) rfl rfl F sc_count_decimals fun cdv A outer s H E g hr =>
  (scons (sexpr (zcall D_check_range hr pasX (zacons (zv 0) zanil) (hal := (al_cons al_nil))))
  (scons (sexpr (zcall D_check_digits hr pasX (zacons (zv 1) zanil) (hal := (al_cons al_nil))))
  (scons (sunp (zcall D_ends_of hr pasX (zacons (zv 0) (zacons (zv 1) zanil)) (hal := (al_cons (al_cons al_nil)))) (pg_tup (n := 2) rfl (gcons 2 nd (gcons 3 nd gnil))) (tg_tup _ [2, 3]))
  (sone (sret (zcallB (call_max2 rfl) m_max2 G.max (zacons zint (zacons (zop h_add z_addI (zop op_sub m_sub (zv 3) (zv 2)) zint) zanil))))))))
set_option maxHeartbeats 4000000 in
theorem ok_decimals_in (G : Gs K mg C cv) (D_check_range : Def P w K mg base C cv 5 "check_range" 1 m_check_range) (D_check_digits : Def P w K mg base C cv 2 "check_digits" 1 m_check_digits) (D_ends_of : Def P w K mg base C cv 2 "ends_of" 2 m_ends_of) (f : Addr) (fd : FuncData) (F : Fun K "decimals_in" "decimals_in" s_decimals_in f fd) : FnOk P w K mg base (L2.CX P w) 6 f fd ["span", "digits"] (spM K C cv 2 m_decimals_in) :=
  have nd := sc_decimals_in.nd
  zdef (mb := b_decimals_in) rfl rfl F sc_decimals_in fun cdv A outer s H E g hr =>
  (scons (sexpr (zcall D_check_range hr pasX (zacons (zv 0) zanil) (hal := (al_cons al_nil))))
  (scons (sexpr (zcall D_check_digits hr pasX (zacons (zv 1) zanil) (hal := (al_cons al_nil))))
  (scons (sunp (zcall D_ends_of hr pasX (zacons (zv 0) (zacons (zv 1) zanil)) (hal := (al_cons (al_cons al_nil)))) (pg_tup (n := 2) rfl (gcons 2 nd (gcons 3 nd gnil))) (tg_tup _ [2, 3]))
  (scons (sif (ztcmp op_ge m_ge (zop op_sub m_sub (zv 3) (zv 2)) zint (nomark _))
  (sone (zraise G.x_BadNumber takX))
  snil)
  (sone (sret (zlrg2 G.list G.range (zv 2) (zop h_add z_addI (zv 3) zint))))))))
set_option maxHeartbeats 4000000 in
theorem ok__law_span_call (G : Gs K mg C cv) (D_least_digits : Def P w K mg base C cv 6 "least_digits" 1 m_least_digits) (D_shortest : Def P w K mg base C cv 6 "shortest" 1 m_shortest) (D_simplest : Def P w K mg base C cv 6 "simplest" 1 m_simplest) (D_simplest_all : Def P w K mg base C cv 6 "simplest_all" 1 m_simplest_all) (D_width : Def P w K mg base C cv 6 "width" 1 m_width) (D_Reader___init__ : IDef P w K mg base C cv 6 2 m_Reader___init__) (D_contains : Def P w K mg base C cv 6 "contains" 2 m_contains) (D_nearest : Def P w K mg base C cv 6 "nearest" 2 m_nearest) (D_count_decimals : Def P w K mg base C cv 6 "count_decimals" 2 m_count_decimals) (D_decimals_in : Def P w K mg base C cv 6 "decimals_in" 2 m_decimals_in) (f : Addr) (fd : FuncData) (F : Fun K "_law_span_call" "_law_span_call" s__law_span_call f fd) : FnOk P w K mg base (L2.CX P w) 8 f fd ["_law_kind", "_law_span"] (spM K C cv 2 m__law_span_call) :=
  have nd := sc__law_span_call.nd
  zdef (mb := b__law_span_call) rfl rfl F sc__law_span_call fun cdv A outer s H E g hr =>
  (scons (sif (ztcmp (op_eqD (units64 hr)) m_eq (zv 0) zint (nomark _))
  (sone (sret (zcall D_least_digits hr pasX (zacons (zv 1) zanil) (hal := (al_cons al_nil)))))
  snil)
  (scons (sif (ztcmp (op_eqD (units64 hr)) m_eq (zv 0) zint (nomark _))
  (sone (sret (zcall D_shortest hr pasX (zacons (zv 1) zanil) (hal := (al_cons al_nil)))))
  snil)
  (scons (sif (ztcmp (op_eqD (units64 hr)) m_eq (zv 0) zint (nomark _))
  (sone (sret (zcall D_simplest hr pasX (zacons (zv 1) zanil) (hal := (al_cons al_nil)))))
  snil)
  (scons (sif (ztcmp (op_eqD (units64 hr)) m_eq (zv 0) zint (nomark _))
  (sone (sret (zcall D_simplest_all hr pasX (zacons (zv 1) zanil) (hal := (al_cons al_nil)))))
  snil)
  (scons (sif (ztcmp (op_eqD (units64 hr)) m_eq (zv 0) zint (nomark _))
  (sone (sret (zcall D_width hr pasX (zacons (zv 1) zanil) (hal := (al_cons al_nil)))))
  snil)
  (scons (sif (ztcmp (op_eqD (units64 hr)) m_eq (zv 0) zint (nomark _))
  (sone (sret (zmake D_Reader___init__ G.rd.mgC hr pasX (zacons (zv 1) zanil) (hal := (fun env S ws S' h => congrArg (· + 1) ((al_cons al_nil) env S ws S' h))))))
  snil)
  (scons (sif (ztcmp (op_eqD (units64 hr)) m_eq (zv 0) zint (nomark _))
  (sone (sret (zcall D_contains hr pasX (zacons (zv 1) (zacons (ztup (zacons zint (zacons zint zanil))) zanil)) (hal := (al_cons (al_cons al_nil))))))
  snil)
  (scons (sif (ztcmp (op_eqD (units64 hr)) m_eq (zv 0) zint (nomark _))
  (sone (sret (zcall D_nearest hr pasX (zacons (zv 1) (zacons (ztup (zacons zint (zacons zint zanil))) zanil)) (hal := (al_cons (al_cons al_nil))))))
  snil)
  (sone (sret (zif (ztcmp (op_eqD (units64 hr)) m_eq (zv 0) zint (nomark _)) (zcall D_count_decimals hr pasX (zacons (zv 1) (zacons zint zanil)) (hal := (al_cons (al_cons al_nil)))) (zcall D_decimals_in hr pasX (zacons (zv 1) (zacons zint zanil)) (hal := (al_cons (al_cons al_nil)))))))))))))))
set_option maxHeartbeats 4000000 in
theorem ok_check_whole (G : Gs K mg C cv) (D_is_int : Def P w K mg base C cv 1 "is_int" 3 m_is_int) (D_power_of : Def P w K mg base C cv 1 "power_of" 1 m_power_of) (f : Addr) (fd : FuncData) (F : Fun K "check_whole" "check_whole" s_check_whole f fd) : FnOk P w K mg base (L2.CX P w) 2 f fd ["value", "digits"] (spM K C cv 2 m_check_whole) :=
  have nd := sc_check_whole.nd
  zdef (mb := b_check_whole) rfl rfl F sc_check_whole fun cdv A outer s H E g hr =>
  (sone (sif (ztnot (ztv (zcall D_is_int hr pasX (zacons (zv 0) (zacons (zop h_mul m_mul (zun un_neg m_neg zint) (zcall D_power_of hr pasX (zacons (zv 1) zanil) (hal := (al_cons al_nil)))) (zacons (zop h_mul m_mul zint (zcall D_power_of hr pasX (zacons (zv 1) zanil) (hal := (al_cons al_nil)))) zanil))) (hal := (al_cons (al_cons (al_cons al_nil)))))))
  (sone (zraise G.x_BadNumber takX))
  snil))
set_option maxHeartbeats 4000000 in
theorem ok_check_rule (G : Gs K mg C cv) (f : Addr) (fd : FuncData) (F : Fun K "check_rule" "check_rule" s_check_rule f fd) : FnOk P w K mg base (L2.CX P w) 1 f fd ["value"] (spM K C cv 1 m_check_rule) :=
  have nd := sc_check_rule.nd
  zdef (mb := b_check_rule) rfl rfl F sc_check_rule fun cdv A outer s H E g hr =>
  (sone (sif (PW.pt (ztor (ztnot (ztv (zisi (T := "str") (zv 0) G.isinstance G.str (by decide +kernel)))) (ztor1 (ztcmp (h_nin (units65 hr)) m_nin (zv 0) (zgtup G.RULES) (by rfl)))))
  (sone (zraise G.x_BadRule takX))
  snil))
set_option maxHeartbeats 4000000 in
theorem ok_span_of (G : Gs K mg C cv) (D_power_of : Def P w K mg base C cv 1 "power_of" 1 m_power_of) (D_lowest : Def P w K mg base C cv 2 "lowest" 2 m_lowest) (f : Addr) (fd : FuncData) (F : Fun K "span_of" "span_of" s_span_of f fd) : FnOk P w K mg base (L2.CX P w) 3 f fd ["units", "digits", "rule"] (spM K C cv 3 m_span_of) :=
  have nd := sc_span_of.nd
  zdef (mb := b_span_of) rfl rfl F sc_span_of fun cdv A outer s H E g hr =>
  (scons (sset 3 nd (zcall D_power_of hr pasX (zacons (zv 1) zanil) (hal := (al_cons al_nil))))
  (scons (sif (PW.pt (ztor (ztcmp (op_eqD (units64 hr)) m_eq (zv 2) zstr (nomark _)) (ztor1 (PW.pt (ztand (ztcmp (op_eqD (units64 hr)) m_eq (zv 2) zstr (nomark _)) (ztand1 (ztcmp op_gt m_gt (zv 0) zint (nomark _))))))))
  (sone (sret (ztup (zacons (zcall D_lowest hr pasX (zacons (zv 0) (zacons (zv 3) zanil)) (hal := (al_cons (al_cons al_nil)))) (zacons zbl (zacons (zcall D_lowest hr pasX (zacons (zop h_add z_addI (zv 0) zint) (zacons (zv 3) zanil)) (hal := (al_cons (al_cons al_nil)))) (zacons zbl zanil)))))))
  snil)
  (scons (sif (PW.pt (ztor (ztcmp (op_eqD (units64 hr)) m_eq (zv 2) zstr (nomark _)) (ztor1 (PW.pt (ztand (ztcmp (op_eqD (units64 hr)) m_eq (zv 2) zstr (nomark _)) (ztand1 (ztcmp op_lt m_lt (zv 0) zint (nomark _))))))))
  (sone (sret (ztup (zacons (zcall D_lowest hr pasX (zacons (zop op_sub m_sub (zv 0) zint) (zacons (zv 3) zanil)) (hal := (al_cons (al_cons al_nil)))) (zacons zbl (zacons (zcall D_lowest hr pasX (zacons (zv 0) (zacons (zv 3) zanil)) (hal := (al_cons (al_cons al_nil)))) (zacons zbl zanil)))))))
  snil)
  (scons (sif (ztcmp (op_eqD (units64 hr)) m_eq (zv 2) zstr (nomark _))
  (sone (sret (ztup (zacons (zcall D_lowest hr pasX (zacons (zun un_neg m_neg zint) (zacons (zv 3) zanil)) (hal := (al_cons (al_cons al_nil)))) (zacons zbl (zacons (zcall D_lowest hr pasX (zacons zint (zacons (zv 3) zanil)) (hal := (al_cons (al_cons al_nil)))) (zacons zbl zanil)))))))
  snil)
  (scons (spar2 4 5 nd (zacons (zcall D_lowest hr pasX (zacons (zop op_sub m_sub (zop h_mul m_mul zint (zv 0)) zint) (zacons (zop h_mul m_mul zint (zv 3)) zanil)) (hal := (al_cons (al_cons al_nil)))) (zacons (zcall D_lowest hr pasX (zacons (zop h_add z_addI (zop h_mul m_mul zint (zv 0)) zint) (zacons (zop h_mul m_mul zint (zv 3)) zanil)) (hal := (al_cons (al_cons al_nil)))) zanil)))
  (scons (sif (ztcmp (op_eqD (units64 hr)) m_eq (zv 2) zstr (nomark _))
  (sone (sret (ztup (zacons (zv 4) (zacons zbl (zacons (zv 5) (zacons zbl zanil)))))))
  snil)
  (scons (sif (ztcmp (op_eqD (units64 hr)) m_eq (zv 2) zstr (nomark _))
  (sone (sret (ztup (zacons (zv 4) (zacons (zcmp op_le m_le (zv 0) zint (nomark _)) (zacons (zv 5) (zacons (zcmp op_ge m_ge (zv 0) zint (nomark _)) zanil)))))))
  snil)
  (scons (sif (ztcmp (op_eqD (units64 hr)) m_eq (zv 2) zstr (nomark _))
  (sone (sret (ztup (zacons (zv 4) (zacons (zcmp op_gt m_gt (zv 0) zint (nomark _)) (zacons (zv 5) (zacons (zcmp op_lt m_lt (zv 0) zint (nomark _)) zanil)))))))
  snil)
  (sone (sret (ztup (zacons (zv 4) (zacons (zcmp (op_eqD (units64 hr)) m_eq (zop op_mod m_mod (zv 0) zint) zint (nomark _)) (zacons (zv 5) (zacons (zcmp (op_eqD (units64 hr)) m_eq (zop op_mod m_mod (zv 0) zint) zint (nomark _)) zanil)))))))))))))))
set_option maxHeartbeats 4000000 in
theorem ok_range_of (G : Gs K mg C cv) (D_check_digits : Def P w K mg base C cv 2 "check_digits" 1 m_check_digits) (D_check_whole : Def P w K mg base C cv 2 "check_whole" 2 m_check_whole) (D_check_rule : Def P w K mg base C cv 1 "check_rule" 1 m_check_rule) (D_span_of : Def P w K mg base C cv 3 "span_of" 3 m_span_of) (f : Addr) (fd : FuncData) (F : Fun K "range_of" "range_of" s_range_of f fd) : FnOk P w K mg base (L2.CX P w) 4 f fd ["units", "digits", "rule"] (spM K C cv 3 m_range_of) :=
  have nd := sc_range_of.nd
  zdef (mb := b_range_of) rfl rfl F sc_range_of fun cdv A outer s H E g hr =>
  (scons (sexpr (zcall D_check_digits hr pasX (zacons (zv 1) zanil) (hal := (al_cons al_nil))))
  (scons (sexpr (zcall D_check_whole hr pasX (zacons (zv 0) (zacons (zv 1) zanil)) (hal := (al_cons (al_cons al_nil)))))
  (scons (sexpr (zcall D_check_rule hr pasX (zacons (zv 2) zanil) (hal := (al_cons al_nil))))
  (sone (sret (zcall D_span_of hr pasX (zacons (zv 0) (zacons (zv 1) (zacons (zv 2) zanil))) (hal := (al_cons (al_cons (al_cons al_nil))))))))))
set_option maxHeartbeats 4000000 in
theorem ok_units_of (G : Gs K mg C cv) (D_power_of : Def P w K mg base C cv 1 "power_of" 1 m_power_of) (f : Addr) (fd : FuncData) (F : Fun K "units_of" "units_of" s_units_of f fd) : FnOk P w K mg base (L2.CX P w) 2 f fd ["value", "digits", "rule"] (spM K C cv 3 m_units_of) :=
  have nd := sc_units_of.nd
  zdef (mb := b_units_of) rfl rfl F sc_units_of fun cdv A outer s H E g hr =>
  (scons (spar2 3 4 nd (zacons (zop h_mul m_mul (zix ix_seq m_ix (zv 0) zint) (zcall D_power_of hr pasX (zacons (zv 1) zanil) (hal := (al_cons al_nil)))) (zacons (zix ix_seq m_ix (zv 0) zint) zanil)))
  (scons (spar2 5 6 nd (zacons (zop op_fdivW m_fdiv (zv 3) (zv 4)) (zacons (zop op_mod m_mod (zv 3) (zv 4)) zanil)))
  (scons (sif (PW.pt (ztor (ztcmp (op_eqD (units64 hr)) m_eq (zv 6) zint (nomark _)) (ztor1 (ztcmp (op_eqD (units64 hr)) m_eq (zv 2) zstr (nomark _)))))
  (sone (sret (zv 5)))
  snil)
  (scons (sif (ztcmp (op_eqD (units64 hr)) m_eq (zv 2) zstr (nomark _))
  (sone (sret (zop h_add z_addI (zv 5) zint)))
  snil)
  (scons (sif (ztcmp (op_eqD (units64 hr)) m_eq (zv 2) zstr (nomark _))
  (sone (sret (zif (ztcmp op_gt m_gt (zv 3) zint (nomark _)) (zv 5) (zop h_add z_addI (zv 5) zint))))
  snil)
  (scons (sif (ztcmp (op_neD (units64 hr)) m_ne (zop h_mul m_mul zint (zv 6)) (zv 4) (nomark _))
  (sone (sret (zif (ztcmp op_lt m_lt (zop h_mul m_mul zint (zv 6)) (zv 4) (nomark _)) (zv 5) (zop h_add z_addI (zv 5) zint))))
  snil)
  (scons (sif (ztcmp (op_eqD (units64 hr)) m_eq (zv 2) zstr (nomark _))
  (sone (sret (zop h_add z_addI (zv 5) zint)))
  snil)
  (scons (sif (ztcmp (op_eqD (units64 hr)) m_eq (zv 2) zstr (nomark _))
  (sone (sret (zif (ztcmp op_gt m_gt (zv 3) zint (nomark _)) (zv 5) (zop h_add z_addI (zv 5) zint))))
  snil)
  (scons (sif (ztcmp (op_eqD (units64 hr)) m_eq (zv 2) zstr (nomark _))
  (sone (sret (zif (ztcmp op_gt m_gt (zv 3) zint (nomark _)) (zop h_add z_addI (zv 5) zint) (zv 5))))
  snil)
  (sone (sret (zif (ztcmp (op_eqD (units64 hr)) m_eq (zop op_mod m_mod (zv 5) zint) zint (nomark _)) (zv 5) (zop h_add z_addI (zv 5) zint)))))))))))))
set_option maxHeartbeats 4000000 in
theorem ok_reads_as (G : Gs K mg C cv) (D_check_fraction : Def P w K mg base C cv 3 "check_fraction" 1 m_check_fraction) (D_check_digits : Def P w K mg base C cv 2 "check_digits" 1 m_check_digits) (D_check_whole : Def P w K mg base C cv 2 "check_whole" 2 m_check_whole) (D_check_rule : Def P w K mg base C cv 1 "check_rule" 1 m_check_rule) (D_units_of : Def P w K mg base C cv 2 "units_of" 3 m_units_of) (f : Addr) (fd : FuncData) (F : Fun K "reads_as" "reads_as" s_reads_as f fd) : FnOk P w K mg base (L2.CX P w) 4 f fd ["value", "units", "digits", "rule"] (spM K C cv 4 m_reads_as) :=
  have nd := sc_reads_as.nd
  zdef (mb := b_reads_as) rfl rfl F sc_reads_as fun cdv A outer s H E g hr =>
  (scons (sexpr (zcall D_check_fraction hr pasX (zacons (zv 0) zanil) (hal := (al_cons al_nil))))
  (scons (sexpr (zcall D_check_digits hr pasX (zacons (zv 2) zanil) (hal := (al_cons al_nil))))
  (scons (sexpr (zcall D_check_whole hr pasX (zacons (zv 1) (zacons (zv 2) zanil)) (hal := (al_cons (al_cons al_nil)))))
  (scons (sexpr (zcall D_check_rule hr pasX (zacons (zv 3) zanil) (hal := (al_cons al_nil))))
  (sone (sret (zcmp (op_eqD (units64 hr)) m_eq (zcall D_units_of hr pasX (zacons (zv 0) (zacons (zv 2) (zacons (zv 3) zanil))) (hal := (al_cons (al_cons (al_cons al_nil))))) (zv 1) (nomark _))))))))
set_option maxHeartbeats 4000000 in
theorem ok_reading_of (G : Gs K mg C cv) (D_span_of : Def P w K mg base C cv 3 "span_of" 3 m_span_of) (D_common : Def P w K mg base C cv 1 "common" 2 m_common) (D_within : Def P w K mg base C cv 2 "within" 2 m_within) (f : Addr) (fd : FuncData) (F : Fun K "reading_of" "reading_of" s_reading_of f fd) : FnOk P w K mg base (L2.CX P w) 4 f fd ["units", "digits", "rule", "most"] (spM K C cv 4 m_reading_of) :=
  have nd := sc_reading_of.nd
  zdef (mb := b_reading_of) rfl rfl F sc_reading_of fun cdv A outer s H E g hr =>
  (scons (sset 4 nd (zcall D_span_of hr pasX (zacons (zv 0) (zacons (zv 1) (zacons (zv 2) zanil))) (hal := (al_cons (al_cons (al_cons al_nil))))))
  (scons (sown 5 nd zanil)
  (scons (sfor (zirg2 G.range zint (zop h_add z_addI (zv 3) zint)) (pg_name (i := 6) nd rfl (by first | exact .inl rfl | exact .inr rfl)) (tg_name _ 6)
  (scons (sset 7 nd (zop op_fdivW m_fdiv (zop h_mul m_mul (zix ix_seq m_ix (zix ix_seq m_ix (zv 4) zint) zint) (zv 6)) (zix ix_seq m_ix (zix ix_seq m_ix (zv 4) zint) zint)))
  (scons (sset 8 nd (zop h_add z_addI (zop op_fdivW m_fdiv (zop h_mul m_mul (zix ix_seq m_ix (zix ix_seq m_ix (zv 4) zint) zint) (zv 6)) (zix ix_seq m_ix (zix ix_seq m_ix (zv 4) zint) zint)) zint))
  (sone (sfor (zirg2 G.range (zv 7) (zop h_add z_addI (zv 8) zint)) (pg_name (i := 9) nd rfl (by first | exact .inl rfl | exact .inr rfl)) (tg_name _ 9)
  (sone (sif (PW.pt (ztand (ztcmp (op_eqD (units64 hr)) m_eq (zcall D_common hr pasX (zacons (zv 9) (zacons (zv 6) zanil)) (hal := (al_cons (al_cons al_nil)))) zint (nomark _)) (ztand (ztcmp op_le m_le (zcallB call_abs m_abs G.abs (zacons (zv 9) zanil)) (zop h_mul m_mul zint (zv 6)) (nomark _)) (ztand1 (ztv (zcall D_within hr pasX (zacons (zv 4) (zacons (ztup (zacons (zv 9) (zacons (zv 6) zanil))) zanil)) (hal := (al_cons (al_cons al_nil)))))))))
  (sone (sapp 5 (ztup (zacons (zv 9) (zacons (zv 6) zanil)))))
  snil)) ownX)))) ownX)
  (sfrz 5 (sone (sret (zv 5)))))))
set_option maxHeartbeats 4000000 in
theorem ok_fractions_reading (G : Gs K mg C cv) (D_check_digits : Def P w K mg base C cv 2 "check_digits" 1 m_check_digits) (D_check_whole : Def P w K mg base C cv 2 "check_whole" 2 m_check_whole) (D_check_rule : Def P w K mg base C cv 1 "check_rule" 1 m_check_rule) (D_is_int : Def P w K mg base C cv 1 "is_int" 3 m_is_int) (D_reading_of : Def P w K mg base C cv 4 "reading_of" 4 m_reading_of) (f : Addr) (fd : FuncData) (F : Fun K "fractions_reading" "fractions_reading" s_fractions_reading f fd) : FnOk P w K mg base (L2.CX P w) 5 f fd ["units", "digits", "rule", "most"] (spM K C cv 4 m_fractions_reading) :=
  have nd := sc_fractions_reading.nd
  zdef (mb := b_fractions_reading) rfl rfl F sc_fractions_reading fun cdv A outer s H E g hr =>
  (scons (sexpr (zcall D_check_digits hr pasX (zacons (zv 1) zanil) (hal := (al_cons al_nil))))
  (scons (sexpr (zcall D_check_whole hr pasX (zacons (zv 0) (zacons (zv 1) zanil)) (hal := (al_cons (al_cons al_nil)))))
  (scons (sexpr (zcall D_check_rule hr pasX (zacons (zv 2) zanil) (hal := (al_cons al_nil))))
  (scons (sif (ztnot (ztv (zcall D_is_int hr pasX (zacons (zv 3) (zacons zint (zacons zint zanil))) (hal := (al_cons (al_cons (al_cons al_nil)))))))
  (sone (zraise G.x_BadNumber takX))
  snil)
  (sone (sret (zcall D_reading_of hr pasX (zacons (zv 0) (zacons (zv 1) (zacons (zv 2) (zacons (zv 3) zanil)))) (hal := (al_cons (al_cons (al_cons (al_cons al_nil))))))))))))
set_option maxHeartbeats 4000000 in
theorem ok_count_reading (G : Gs K mg C cv) (D_check_digits : Def P w K mg base C cv 2 "check_digits" 1 m_check_digits) (D_check_whole : Def P w K mg base C cv 2 "check_whole" 2 m_check_whole) (D_check_rule : Def P w K mg base C cv 1 "check_rule" 1 m_check_rule) (D_is_int : Def P w K mg base C cv 1 "is_int" 3 m_is_int) (D_reading_of : Def P w K mg base C cv 4 "reading_of" 4 m_reading_of) (f : Addr) (fd : FuncData) (F : Fun K "count_reading" "count_reading" s_count_reading f fd) : FnOk P w K mg base (L2.CX P w) 5 f fd ["units", "digits", "rule", "most"] (spM K C cv 4 m_count_reading) :=
  have nd := sc_count_reading.nd
  zdef (mb := b_count_reading) rfl rfl F sc_count_reading fun cdv A outer s H E g hr =>
  (scons (sexpr (zcall D_check_digits hr pasX (zacons (zv 1) zanil) (hal := (al_cons al_nil))))
  (scons (sexpr (zcall D_check_whole hr pasX (zacons (zv 0) (zacons (zv 1) zanil)) (hal := (al_cons (al_cons al_nil)))))
  (scons (sexpr (zcall D_check_rule hr pasX (zacons (zv 2) zanil) (hal := (al_cons al_nil))))
  (scons (sif (ztnot (ztv (zcall D_is_int hr pasX (zacons (zv 3) (zacons zint (zacons zint zanil))) (hal := (al_cons (al_cons (al_cons al_nil)))))))
  (sone (zraise G.x_BadNumber takX))
  snil)
  (sone (sret (zcallB call_len m_len G.len (zacons (zcall D_reading_of hr pasX (zacons (zv 0) (zacons (zv 1) (zacons (zv 2) (zacons (zv 3) zanil)))) (hal := (al_cons (al_cons (al_cons (al_cons al_nil)))))) zanil))))))))
set_option maxHeartbeats 4000000 in
theorem ok_written (G : Gs K mg C cv) (D_power_of : Def P w K mg base C cv 1 "power_of" 1 m_power_of) (f : Addr) (fd : FuncData) (F : Fun K "written" "written" s_written f fd) : FnOk P w K mg base (L2.CX P w) 2 f fd ["units", "digits"] (spM K C cv 2 m_written) :=
  have nd := sc_written.nd
  zdef (mb := b_written) rfl rfl F sc_written fun cdv A outer s H E g hr =>
  (scons (sset 2 nd (zcall D_power_of hr pasX (zacons (zv 1) zanil) (hal := (al_cons al_nil))))
  (scons (spar2 3 4 nd (zacons (zop op_fdivW m_fdiv (zcallB call_abs m_abs G.abs (zacons (zv 0) zanil)) (zv 2)) (zacons (zop op_mod m_mod (zcallB call_abs m_abs G.abs (zacons (zv 0) zanil)) (zv 2)) zanil)))
  (scons (sset 5 nd (zif (ztcmp op_lt m_lt (zv 0) zint (nomark _)) zstr zstr))
  (scons (sif (ztcmp (op_eqD (units64 hr)) m_eq (zv 1) zint (nomark _))
  (sone (sret (zjoin (ZJ.cons (zfmt (zv 5)) (ZJ.cons (zfmt (zv 3)) ZJ.nil)))))
  snil)
  (scons (sset 6 nd (zcallTy call_str_int m_str G.str (zacons (zv 4) zanil)))
  (sone (sret (zop h_add z_addI (zop h_add z_addI (zjoin (ZJ.cons (zfmt (zv 5)) (ZJ.cons (zfmt (zv 3)) (ZJ.cons zstr ZJ.nil)))) (zop h_mul m_mul zstr (zop op_sub m_sub (zv 1) (zcallB call_len m_len G.len (zacons (zv 6) zanil))))) (zv 6)))))))))
set_option maxHeartbeats 4000000 in
theorem ok_format_decimal (G : Gs K mg C cv) (D_check_digits : Def P w K mg base C cv 2 "check_digits" 1 m_check_digits) (D_check_whole : Def P w K mg base C cv 2 "check_whole" 2 m_check_whole) (D_written : Def P w K mg base C cv 2 "written" 2 m_written) (f : Addr) (fd : FuncData) (F : Fun K "format_decimal" "format_decimal" s_format_decimal f fd) : FnOk P w K mg base (L2.CX P w) 3 f fd ["units", "digits"] (spM K C cv 2 m_format_decimal) :=
  have nd := sc_format_decimal.nd
  zdef (mb := b_format_decimal) rfl rfl F sc_format_decimal fun cdv A outer s H E g hr =>
  (scons (sexpr (zcall D_check_digits hr pasX (zacons (zv 1) zanil) (hal := (al_cons al_nil))))
  (scons (sexpr (zcall D_check_whole hr pasX (zacons (zv 0) (zacons (zv 1) zanil)) (hal := (al_cons (al_cons al_nil)))))
  (sone (sret (zcall D_written hr pasX (zacons (zv 0) (zacons (zv 1) zanil)) (hal := (al_cons (al_cons al_nil))))))))
set_option maxHeartbeats 4000000 in
theorem ok_digits_to_tell (G : Gs K mg C cv) (D_is_int : Def P w K mg base C cv 1 "is_int" 3 m_is_int) (D_check_rule : Def P w K mg base C cv 1 "check_rule" 1 m_check_rule) (D_common : Def P w K mg base C cv 1 "common" 2 m_common) (D_units_of : Def P w K mg base C cv 2 "units_of" 3 m_units_of) (f : Addr) (fd : FuncData) (F : Fun K "digits_to_tell" "digits_to_tell" s_digits_to_tell f fd) : FnOk P w K mg base (L2.CX P w) 3 f fd ["most", "rule"] (spM K C cv 2 m_digits_to_tell) :=
  have nd := sc_digits_to_tell.nd
  zdef (mb := b_digits_to_tell) rfl rfl F sc_digits_to_tell fun cdv A outer s H E g hr =>
  (scons (sif (ztnot (ztv (zcall D_is_int hr pasX (zacons (zv 0) (zacons zint (zacons zint zanil))) (hal := (al_cons (al_cons (al_cons al_nil)))))))
  (sone (zraise G.x_BadNumber takX))
  snil)
  (scons (sexpr (zcall D_check_rule hr pasX (zacons (zv 1) zanil) (hal := (al_cons al_nil))))
  (scons (sown 2 nd zanil)
  (scons (sfor (zirg2 G.range zint (zop h_add z_addI (zv 0) zint)) (pg_name (i := 3) nd rfl (by first | exact .inl rfl | exact .inr rfl)) (tg_name _ 3)
  (sone (soext 2 nd (zcomp (own := [("top", 5)]) nd (zirg1 G.range (zop h_add z_addI (zv 3) zint)) (tg_name _ 5) (blkOk_by (N := N_digits_to_tell) (sc := defScope s_digits_to_tell) (by decide +kernel)) (fun _ _ _ _ _ => (pg_name (i := 5) nd rfl (by first | exact .inl rfl | exact .inr rfl))) (fun _ _ _ _ _ _ _ => (tsone (ztcmp (op_eqD (units64 hr)) m_eq (zcall D_common hr pas0 (zacons (zv 5) (zacons (zv 3) zanil)) (hal := (al_cons (al_cons al_nil)))) zint (nomark _)))) (fun _ _ _ _ _ _ _ => (ztup (zacons (zv 5) (zacons (zv 3) zanil))))))) ownX)
  (sfrz 2 (scons (sset 4 nd zint)
  (scons (swhile fuelN (ztcmp op_lt m_lt (zlenset G.len G.set (zcomp (own := [("value", 6)]) nd (zilst (zv 2)) (tg_name _ 6) (blkOk_by (N := N_digits_to_tell) (sc := defScope s_digits_to_tell) (by decide +kernel)) (fun _ _ _ _ _ => (pg_name (i := 6) nd rfl (by first | exact .inl rfl | exact .inr rfl))) (fun _ _ _ _ _ _ _ => tsnil) (fun _ _ _ _ _ _ _ => (zcall D_units_of hr pas0 (zacons (zv 6) (zacons (zv 4) (zacons (zv 1) zanil))) (hal := (al_cons (al_cons (al_cons al_nil)))))))) (zcallB call_len m_len G.len (zacons (zv 2) zanil)) (nomark _))
  (sone (saug 4 nd iop_add m_addI zint)) ownX)
  (sone (sret (zv 4))))))))))
set_option maxHeartbeats 4000000 in
theorem ok_digits_of (G : Gs K mg C cv) (D_check_fraction : Def P w K mg base C cv 3 "check_fraction" 1 m_check_fraction) (D_is_int : Def P w K mg base C cv 1 "is_int" 3 m_is_int) (f : Addr) (fd : FuncData) (F : Fun K "digits_of" "digits_of" s_digits_of f fd) : FnOk P w K mg base (L2.CX P w) 4 f fd ["value", "many"] (spM K C cv 2 m_digits_of) :=
  have nd := sc_digits_of.nd
  zdef (mb := b_digits_of) rfl rfl F sc_digits_of fun cdv A outer s H E g hr =>
  (scons (sexpr (zcall D_check_fraction hr pasX (zacons (zv 0) zanil) (hal := (al_cons al_nil))))
  (scons (sif (ztnot (ztv (zcall D_is_int hr pasX (zacons (zv 1) (zacons zint (zacons zint zanil))) (hal := (al_cons (al_cons (al_cons al_nil)))))))
  (sone (zraise G.x_BadNumber takX))
  snil)
  (scons (sset 2 nd (zop op_mod m_mod (zcallB call_abs m_abs G.abs (zacons (zix ix_seq m_ix (zv 0) zint) zanil)) (zix ix_seq m_ix (zv 0) zint)))
  (scons (sown 3 nd zanil)
  (scons (sfor (zirg1 G.range (zv 1)) (pg_name (i := 4) nd rfl (by first | exact .inl rfl | exact .inr rfl)) (tg_name _ 4)
  (scons (sapp 3 (zop op_fdivW m_fdiv (zop h_mul m_mul (zv 2) zint) (zix ix_seq m_ix (zv 0) zint)))
  (sone (sset 2 nd (zop op_mod m_mod (zop h_mul m_mul (zv 2) zint) (zix ix_seq m_ix (zv 0) zint))))) ownX)
  (sfrz 3 (sone (sret (zv 3)))))))))
set_option maxHeartbeats 4000000 in
theorem ok_parts_of (G : Gs K mg C cv) (f : Addr) (fd : FuncData) (F : Fun K "parts_of" "parts_of" s_parts_of f fd) : FnOk P w K mg base (L2.CX P w) 1 f fd ["under"] (spM K C cv 1 m_parts_of) :=
  have nd := sc_parts_of.nd
  zdef (mb := b_parts_of) rfl rfl F sc_parts_of fun cdv A outer s H E g hr =>
  (scons (spar3 1 2 3 nd (zacons zint (zacons zint (zacons (zv 0) zanil))))
  (scons (swhile fuelN (ztcmp (op_eqD (units64 hr)) m_eq (zop op_mod m_mod (zv 3) zint) zint (nomark _))
  (scons (saug 3 nd iop_fdivW m_fdiv zint)
  (sone (saug 1 nd iop_add m_addI zint))) ownX)
  (scons (swhile fuelN (ztcmp (op_eqD (units64 hr)) m_eq (zop op_mod m_mod (zv 3) zint) zint (nomark _))
  (scons (saug 3 nd iop_fdivW m_fdiv zint)
  (sone (saug 2 nd iop_add m_addI zint))) ownX)
  (sone (sret (ztup (zacons (zcallB (call_max2 rfl) m_max2 G.max (zacons (zv 1) (zacons (zv 2) zanil))) (zacons (zv 3) zanil))))))))
set_option maxHeartbeats 4000000 in
theorem ok_period (G : Gs K mg C cv) (D_check_fraction : Def P w K mg base C cv 3 "check_fraction" 1 m_check_fraction) (D_parts_of : Def P w K mg base C cv 1 "parts_of" 1 m_parts_of) (f : Addr) (fd : FuncData) (F : Fun K "period" "period" s_period f fd) : FnOk P w K mg base (L2.CX P w) 4 f fd ["value"] (spM K C cv 1 m_period) :=
  have nd := sc_period.nd
  zdef (mb := b_period) rfl rfl F sc_period fun cdv A outer s H E g hr =>
  (scons (sexpr (zcall D_check_fraction hr pasX (zacons (zv 0) zanil) (hal := (al_cons al_nil))))
  (scons (sunp (zcall D_parts_of hr pasX (zacons (zix ix_seq m_ix (zv 0) zint) zanil) (hal := (al_cons al_nil))) (pg_tup (n := 2) rfl (gcons 1 nd (gcons 2 nd gnil))) (tg_tup _ [1, 2]))
  (scons (sif (ztcmp (op_eqD (units64 hr)) m_eq (zv 2) zint (nomark _))
  (sone (sret (ztup (zacons (zv 1) (zacons zint zanil)))))
  snil)
  (scons (spar2 3 4 nd (zacons zint (zacons (zop op_mod m_mod zint (zv 2)) zanil)))
  (scons (swhile fuelN (ztcmp (op_neD (units64 hr)) m_ne (zv 4) zint (nomark _))
  (scons (sset 4 nd (zop op_mod m_mod (zop h_mul m_mul (zv 4) zint) (zv 2)))
  (sone (saug 3 nd iop_add m_addI zint))) ownX)
  (sone (sret (ztup (zacons (zv 1) (zacons (zv 3) zanil))))))))))
set_option maxHeartbeats 4000000 in
theorem ok_digit_at (G : Gs K mg C cv) (D_check_fraction : Def P w K mg base C cv 3 "check_fraction" 1 m_check_fraction) (D_is_int : Def P w K mg base C cv 1 "is_int" 3 m_is_int) (D_period : Def P w K mg base C cv 4 "period" 1 m_period) (D_digits_of : Def P w K mg base C cv 4 "digits_of" 2 m_digits_of) (f : Addr) (fd : FuncData) (F : Fun K "digit_at" "digit_at" s_digit_at f fd) : FnOk P w K mg base (L2.CX P w) 5 f fd ["value", "place"] (spM K C cv 2 m_digit_at) :=
  have nd := sc_digit_at.nd
  zdef (mb := b_digit_at) rfl rfl F sc_digit_at fun cdv A outer s H E g hr =>
  (scons (sexpr (zcall D_check_fraction hr pasX (zacons (zv 0) zanil) (hal := (al_cons al_nil))))
  (scons (sif (ztnot (ztv (zcall D_is_int hr pasX (zacons (zv 1) (zacons zint (zacons zint zanil))) (hal := (al_cons (al_cons (al_cons al_nil)))))))
  (sone (zraise G.x_BadNumber takX))
  snil)
  (scons (sunp (zcall D_period hr pasX (zacons (zv 0) zanil) (hal := (al_cons al_nil))) (pg_tup (n := 2) rfl (gcons 2 nd (gcons 3 nd gnil))) (tg_tup _ [2, 3]))
  (scons (sif (ztcmp op_ge m_ge (zv 1) (zop h_add z_addI (zv 2) (zv 3)) (nomark _))
  (sone (sset 1 nd (zif (ztcmp op_gt m_gt (zv 3) zint (nomark _)) (zop h_add z_addI (zv 2) (zop op_mod m_mod (zop op_sub m_sub (zv 1) (zv 2)) (zv 3))) (zv 1))))
  snil)
  (scons (sif (PW.pt (ztand (ztcmp (op_eqD (units64 hr)) m_eq (zv 3) zint (nomark _)) (ztand1 (ztcmp op_ge m_ge (zv 1) (zv 2) (nomark _)))))
  (sone (sret zint))
  snil)
  (sone (sret (zix ix_seq m_ix (zcall D_digits_of hr pasX (zacons (zv 0) (zacons (zop h_add z_addI (zv 1) zint) zanil)) (hal := (al_cons (al_cons al_nil)))) (zv 1)))))))))
set_option maxHeartbeats 4000000 in
theorem ok_digit_sum (G : Gs K mg C cv) (D_check_fraction : Def P w K mg base C cv 3 "check_fraction" 1 m_check_fraction) (D_is_int : Def P w K mg base C cv 1 "is_int" 3 m_is_int) (D_period : Def P w K mg base C cv 4 "period" 1 m_period) (D_digits_of : Def P w K mg base C cv 4 "digits_of" 2 m_digits_of) (f : Addr) (fd : FuncData) (F : Fun K "digit_sum" "digit_sum" s_digit_sum f fd) : FnOk P w K mg base (L2.CX P w) 5 f fd ["value", "many"] (spM K C cv 2 m_digit_sum) :=
  have nd := sc_digit_sum.nd
  zdef (mb := b_digit_sum) rfl rfl F sc_digit_sum fun cdv A outer s H E g hr =>
  (scons (sexpr (zcall D_check_fraction hr pasX (zacons (zv 0) zanil) (hal := (al_cons al_nil))))
  (scons (sif (ztnot (ztv (zcall D_is_int hr pasX (zacons (zv 1) (zacons zint (zacons zint zanil))) (hal := (al_cons (al_cons (al_cons al_nil)))))))
  (sone (zraise G.x_BadNumber takX))
  snil)
  (scons (sunp (zcall D_period hr pasX (zacons (zv 0) zanil) (hal := (al_cons al_nil))) (pg_tup (n := 2) rfl (gcons 2 nd (gcons 3 nd gnil))) (tg_tup _ [2, 3]))
  (scons (sif (ztcmp op_le m_le (zv 1) (zop h_add z_addI (zv 2) (zv 3)) (nomark _))
  (sone (sret (zcallB (cr_sum rfl) m_sum G.sum (zacons (zcall D_digits_of hr pasX (zacons (zv 0) (zacons (zv 1) zanil)) (hal := (al_cons (al_cons al_nil)))) zanil))))
  snil)
  (scons (sset 4 nd (zcall D_digits_of hr pasX (zacons (zv 0) (zacons (zop h_add z_addI (zv 2) (zv 3)) zanil)) (hal := (al_cons (al_cons al_nil)))))
  (scons (sif (ztcmp (op_eqD (units64 hr)) m_eq (zv 3) zint (nomark _))
  (sone (sret (zcallB (cr_sum rfl) m_sum G.sum (zacons (zv 4) zanil))))
  snil)
  (scons (spar2 5 6 nd (zacons (zop op_fdivW m_fdiv (zop op_sub m_sub (zv 1) (zv 2)) (zv 3)) (zacons (zop op_mod m_mod (zop op_sub m_sub (zv 1) (zv 2)) (zv 3)) zanil)))
  (sone (sret (zop h_add z_addI (zop h_add z_addI (zcallB (cr_sum rfl) m_sum G.sum (zacons (zsl (zv 4) zonone (zosome (zv 2))) zanil)) (zop h_mul m_mul (zv 5) (zcallB (cr_sum rfl) m_sum G.sum (zacons (zsl (zv 4) (zosome (zv 2)) zonone) zanil)))) (zcallB (cr_sum rfl) m_sum G.sum (zacons (zsl (zv 4) (zosome (zv 2)) (zosome (zop h_add z_addI (zv 2) (zv 6)))) zanil))))))))))))
set_option maxHeartbeats 4000000 in
theorem ok_check_steps (G : Gs K mg C cv) (D_check_digits : Def P w K mg base C cv 2 "check_digits" 1 m_check_digits) (D_is_int : Def P w K mg base C cv 1 "is_int" 3 m_is_int) (f : Addr) (fd : FuncData) (F : Fun K "check_steps" "check_steps" s_check_steps f fd) : FnOk P w K mg base (L2.CX P w) 3 f fd ["first", "then"] (spM K C cv 2 m_check_steps) :=
  have nd := sc_check_steps.nd
  zdef (mb := b_check_steps) rfl rfl F sc_check_steps fun cdv A outer s H E g hr =>
  (scons (sexpr (zcall D_check_digits hr pasX (zacons (zv 0) zanil) (hal := (al_cons al_nil))))
  (sone (sif (ztnot (ztv (zcall D_is_int hr pasX (zacons (zv 1) (zacons zint (zacons (zv 0) zanil))) (hal := (al_cons (al_cons (al_cons al_nil)))))))
  (sone (zraise G.x_BadNumber takX))
  snil)))
set_option maxHeartbeats 4000000 in
theorem ok_twice_of (G : Gs K mg C cv) (D_lowest : Def P w K mg base C cv 2 "lowest" 2 m_lowest) (D_power_of : Def P w K mg base C cv 1 "power_of" 1 m_power_of) (D_units_of : Def P w K mg base C cv 2 "units_of" 3 m_units_of) (f : Addr) (fd : FuncData) (F : Fun K "twice_of" "twice_of" s_twice_of f fd) : FnOk P w K mg base (L2.CX P w) 3 f fd ["value", "first", "then", "rule"] (spM K C cv 4 m_twice_of) :=
  have nd := sc_twice_of.nd
  zdef (mb := b_twice_of) rfl rfl F sc_twice_of fun cdv A outer s H E g hr =>
  (scons (sset 4 nd (zcall D_lowest hr pasX (zacons (zcall D_units_of hr pasX (zacons (zv 0) (zacons (zv 1) (zacons (zv 3) zanil))) (hal := (al_cons (al_cons (al_cons al_nil))))) (zacons (zcall D_power_of hr pasX (zacons (zv 1) zanil) (hal := (al_cons al_nil))) zanil)) (hal := (al_cons (al_cons al_nil)))))
  (sone (sret (zcall D_units_of hr pasX (zacons (zv 4) (zacons (zv 2) (zacons (zv 3) zanil))) (hal := (al_cons (al_cons (al_cons al_nil))))))))
set_option maxHeartbeats 4000000 in
theorem ok_traps_under (G : Gs K mg C cv) (D_is_int : Def P w K mg base C cv 1 "is_int" 3 m_is_int) (D_check_steps : Def P w K mg base C cv 3 "check_steps" 2 m_check_steps) (D_check_rule : Def P w K mg base C cv 1 "check_rule" 1 m_check_rule) (D_lowest : Def P w K mg base C cv 2 "lowest" 2 m_lowest) (D_twice_of : Def P w K mg base C cv 3 "twice_of" 4 m_twice_of) (D_units_of : Def P w K mg base C cv 2 "units_of" 3 m_units_of) (f : Addr) (fd : FuncData) (F : Fun K "traps_under" "traps_under" s_traps_under f fd) : FnOk P w K mg base (L2.CX P w) 4 f fd ["under", "first", "then", "rule"] (spM K C cv 4 m_traps_under) :=
  have nd := sc_traps_under.nd
  zdef (mb := b_traps_under) rfl rfl F sc_traps_under fun cdv A outer s H E g hr =>
  (scons (sif (ztnot (ztv (zcall D_is_int hr pasX (zacons (zv 0) (zacons zint (zacons zint zanil))) (hal := (al_cons (al_cons (al_cons al_nil)))))))
  (sone (zraise G.x_BadNumber takX))
  snil)
  (scons (sexpr (zcall D_check_steps hr pasX (zacons (zv 1) (zacons (zv 2) zanil)) (hal := (al_cons (al_cons al_nil)))))
  (scons (sexpr (zcall D_check_rule hr pasX (zacons (zv 3) zanil) (hal := (al_cons al_nil))))
  (scons (sset 4 nd zint)
  (scons (sfor (zirg1 G.range (zop h_add z_addI (zv 0) zint)) (pg_name (i := 5) nd rfl (by first | exact .inl rfl | exact .inr rfl)) (tg_name _ 5)
  (scons (sset 6 nd (zcall D_lowest hr pasX (zacons (zv 5) (zacons (zv 0) zanil)) (hal := (al_cons (al_cons al_nil)))))
  (sone (sif (PW.pt (ztand (ztcmp (op_eqD (units64 hr)) m_eq (zix ix_seq m_ix (zv 6) zint) (zv 0) (nomark _)) (ztand1 (ztcmp (op_neD (units64 hr)) m_ne (zcall D_twice_of hr pasX (zacons (zv 6) (zacons (zv 1) (zacons (zv 2) (zacons (zv 3) zanil)))) (hal := (al_cons (al_cons (al_cons (al_cons al_nil)))))) (zcall D_units_of hr pasX (zacons (zv 6) (zacons (zv 2) (zacons (zv 3) zanil))) (hal := (al_cons (al_cons (al_cons al_nil))))) (nomark _)))))
  (sone (saug 4 nd iop_add m_addI zint))
  snil))) ownX)
  (sone (sret (zv 4))))))))
set_option maxHeartbeats 4000000 in
theorem ok_twice (G : Gs K mg C cv) (D_check_fraction : Def P w K mg base C cv 3 "check_fraction" 1 m_check_fraction) (D_check_steps : Def P w K mg base C cv 3 "check_steps" 2 m_check_steps) (D_check_rule : Def P w K mg base C cv 1 "check_rule" 1 m_check_rule) (D_twice_of : Def P w K mg base C cv 3 "twice_of" 4 m_twice_of) (f : Addr) (fd : FuncData) (F : Fun K "twice" "twice" s_twice f fd) : FnOk P w K mg base (L2.CX P w) 4 f fd ["value", "first", "then", "rule"] (spM K C cv 4 m_twice) :=
  have nd := sc_twice.nd
  zdef (mb := b_twice) rfl rfl F sc_twice fun cdv A outer s H E g hr =>
  (scons (sexpr (zcall D_check_fraction hr pasX (zacons (zv 0) zanil) (hal := (al_cons al_nil))))
  (scons (sexpr (zcall D_check_steps hr pasX (zacons (zv 1) (zacons (zv 2) zanil)) (hal := (al_cons (al_cons al_nil)))))
  (scons (sexpr (zcall D_check_rule hr pasX (zacons (zv 3) zanil) (hal := (al_cons al_nil))))
  (sone (sret (zcall D_twice_of hr pasX (zacons (zv 0) (zacons (zv 1) (zacons (zv 2) (zacons (zv 3) zanil)))) (hal := (al_cons (al_cons (al_cons (al_cons al_nil)))))))))))
set_option maxHeartbeats 4000000 in
theorem ok_met (G : Gs K mg C cv) (D_less : Def P w K mg base C cv 1 "less" 2 m_less) (f : Addr) (fd : FuncData) (F : Fun K "met" "met" s_met f fd) : FnOk P w K mg base (L2.CX P w) 2 f fd ["one", "other"] (spM K C cv 2 m_met) :=
  have nd := sc_met.nd
  zdef (mb := b_met) rfl rfl F sc_met fun cdv A outer s H E g hr =>
  (scons (spar2 2 3 nd (zacons (zix ix_seq m_ix (zv 0) zint) (zacons (zix ix_seq m_ix (zv 0) zint) zanil)))
  (scons (sif (ztv (zcall D_less hr pasX (zacons (zv 2) (zacons (zix ix_seq m_ix (zv 1) zint) zanil)) (hal := (al_cons (al_cons al_nil)))))
  (sone (spar2 2 3 nd (zacons (zix ix_seq m_ix (zv 1) zint) (zacons (zix ix_seq m_ix (zv 1) zint) zanil))))
  (sone (sif (ztcmp (op_eqD (units64 hr)) m_eq (zv 2) (zix ix_seq m_ix (zv 1) zint) (nomark _))
  (sone (sset 3 nd (zand (zv 3) (zone (zix ix_seq m_ix (zv 1) zint)))))
  snil)))
  (scons (spar2 4 5 nd (zacons (zix ix_seq m_ix (zv 0) zint) (zacons (zix ix_seq m_ix (zv 0) zint) zanil)))
  (scons (sif (ztv (zcall D_less hr pasX (zacons (zix ix_seq m_ix (zv 1) zint) (zacons (zv 4) zanil)) (hal := (al_cons (al_cons al_nil)))))
  (sone (spar2 4 5 nd (zacons (zix ix_seq m_ix (zv 1) zint) (zacons (zix ix_seq m_ix (zv 1) zint) zanil))))
  (sone (sif (ztcmp (op_eqD (units64 hr)) m_eq (zv 4) (zix ix_seq m_ix (zv 1) zint) (nomark _))
  (sone (sset 5 nd (zand (zv 5) (zone (zix ix_seq m_ix (zv 1) zint)))))
  snil)))
  (sone (sret (ztup (zacons (zv 2) (zacons (zv 3) (zacons (zv 4) (zacons (zv 5) zanil)))))))))))
set_option maxHeartbeats 4000000 in
theorem ok_Reader_tell (G : Gs K mg C cv) (D_check_digits : Def P w K mg base C cv 2 "check_digits" 1 m_check_digits) (D_check_whole : Def P w K mg base C cv 2 "check_whole" 2 m_check_whole) (D_check_rule : Def P w K mg base C cv 1 "check_rule" 1 m_check_rule) (D_met : Def P w K mg base C cv 2 "met" 2 m_met) (D_span_of : Def P w K mg base C cv 3 "span_of" 3 m_span_of) (D_is_span : Def P w K mg base C cv 3 "is_span" 1 m_is_span) (f : Addr) (fd : FuncData) (F : Fun K "tell" "Reader.tell" s_Reader_tell f fd) : FnOk P w K mg base (L2.CX P w) 4 f fd ["self", "units", "digits", "rule"] (spM K C cv 4 m_Reader_tell) :=
  have nd := sc_Reader_tell.nd
  zdef (mb := b_Reader_tell) rfl rfl F sc_Reader_tell fun cdv A outer s H E g hr =>
  (scons (sexpr (zcall D_check_digits hr pasX (zacons (zv 2) zanil) (hal := (al_cons al_nil))))
  (scons (sexpr (zcall D_check_whole hr pasX (zacons (zv 1) (zacons (zv 2) zanil)) (hal := (al_cons (al_cons al_nil)))))
  (scons (sexpr (zcall D_check_rule hr pasX (zacons (zv 3) zanil) (hal := (al_cons al_nil))))
  (scons (sset 4 nd (zcall D_met hr pasX (zacons (zfld G.rd.cl G.rd.nNow (zv 0)) (zacons (zcall D_span_of hr pasX (zacons (zv 1) (zacons (zv 2) (zacons (zv 3) zanil))) (hal := (al_cons (al_cons (al_cons al_nil))))) zanil)) (hal := (al_cons (al_cons al_nil)))))
  (scons (sif (ztnot (ztv (zcall D_is_span hr pasX (zacons (zv 4) zanil) (hal := (al_cons al_nil)))))
  (sone (zraise G.x_NotFound takX))
  snil)
  (scons (sexpr (zappO (zfld G.rd.cl G.rd.nPast (zv 0)) (zfld G.rd.cl G.rd.nNow (zv 0))))
  (scons (sflds G.rd.cl G.rd.nNow (zv 0) (zv 4))
  (sone (sret (zv 4))))))))))
set_option maxHeartbeats 4000000 in
theorem ok__law_call (G : Gs K mg C cv) (D_range_of : Def P w K mg base C cv 4 "range_of" 3 m_range_of) (D_reads_as : Def P w K mg base C cv 4 "reads_as" 4 m_reads_as) (D_fractions_reading : Def P w K mg base C cv 5 "fractions_reading" 4 m_fractions_reading) (D_count_reading : Def P w K mg base C cv 5 "count_reading" 4 m_count_reading) (D_format_decimal : Def P w K mg base C cv 3 "format_decimal" 2 m_format_decimal) (D_digits_to_tell : Def P w K mg base C cv 3 "digits_to_tell" 2 m_digits_to_tell) (D_digits_of : Def P w K mg base C cv 4 "digits_of" 2 m_digits_of) (D_digit_at : Def P w K mg base C cv 5 "digit_at" 2 m_digit_at) (D_digit_sum : Def P w K mg base C cv 5 "digit_sum" 2 m_digit_sum) (D_traps_under : Def P w K mg base C cv 4 "traps_under" 4 m_traps_under) (D_twice : Def P w K mg base C cv 4 "twice" 4 m_twice) (D_count_decimals : Def P w K mg base C cv 6 "count_decimals" 2 m_count_decimals) (D_decimals_in : Def P w K mg base C cv 6 "decimals_in" 2 m_decimals_in) (D_Reader_tell : MDef P w K mg base C cv 4 "tell" 4 m_Reader_tell) (f : Addr) (fd : FuncData) (F : Fun K "_law_call" "_law_call" s__law_call f fd) : FnOk P w K mg base (L2.CX P w) 7 f fd ["_law_kind", "_law_one", "_law_two", "_law_three"] (spM K C cv 4 m__law_call) :=
  have nd := sc__law_call.nd
  zdef (mb := b__law_call) rfl rfl F sc__law_call fun cdv A outer s H E g hr =>
  (scons (sif (ztcmp (op_eqD (units64 hr)) m_eq (zv 0) zint (nomark _))
  (sone (sret (zcall D_range_of hr pasX (zacons (zv 1) (zacons (zv 2) (zacons zstr zanil))) (hal := (al_cons (al_cons (al_cons al_nil)))))))
  snil)
  (scons (sif (ztcmp (op_eqD (units64 hr)) m_eq (zv 0) zint (nomark _))
  (sone (sret (zcall D_reads_as hr pasX (zacons (ztup (zacons zint (zacons zint zanil))) (zacons (zv 1) (zacons (zv 2) (zacons zstr zanil)))) (hal := (al_cons (al_cons (al_cons (al_cons al_nil))))))))
  snil)
  (scons (sif (ztcmp (op_eqD (units64 hr)) m_eq (zv 0) zint (nomark _))
  (sone (sret (zcall D_fractions_reading hr pasX (zacons (zv 1) (zacons (zv 2) (zacons zstr (zacons zint zanil)))) (hal := (al_cons (al_cons (al_cons (al_cons al_nil))))))))
  snil)
  (scons (sif (ztcmp (op_eqD (units64 hr)) m_eq (zv 0) zint (nomark _))
  (sone (sret (zcall D_count_reading hr pasX (zacons (zv 1) (zacons (zv 2) (zacons zstr (zacons zint zanil)))) (hal := (al_cons (al_cons (al_cons (al_cons al_nil))))))))
  snil)
  (scons (sif (ztcmp (op_eqD (units64 hr)) m_eq (zv 0) zint (nomark _))
  (sone (sret (zcall D_format_decimal hr pasX (zacons (zv 1) (zacons (zv 2) zanil)) (hal := (al_cons (al_cons al_nil))))))
  snil)
  (scons (sif (ztcmp (op_eqD (units64 hr)) m_eq (zv 0) zint (nomark _))
  (sone (sret (zcall D_fractions_reading hr pasX (zacons zint (zacons zint (zacons zstr (zacons (zv 1) zanil)))) (hal := (al_cons (al_cons (al_cons (al_cons al_nil))))))))
  snil)
  (scons (sif (ztcmp (op_eqD (units64 hr)) m_eq (zv 0) zint (nomark _))
  (sone (sret (zcall D_count_reading hr pasX (zacons zint (zacons zint (zacons zstr (zacons (zv 1) zanil)))) (hal := (al_cons (al_cons (al_cons (al_cons al_nil))))))))
  snil)
  (scons (sif (ztcmp (op_eqD (units64 hr)) m_eq (zv 0) zint (nomark _))
  (sone (sret (zcall D_digits_to_tell hr pasX (zacons (zv 1) (zacons zstr zanil)) (hal := (al_cons (al_cons al_nil))))))
  snil)
  (scons (sif (ztcmp (op_eqD (units64 hr)) m_eq (zv 0) zint (nomark _))
  (sone (sret (zcall D_digits_of hr pasX (zacons (ztup (zacons zint (zacons zint zanil))) (zacons (zv 1) zanil)) (hal := (al_cons (al_cons al_nil))))))
  snil)
  (scons (sif (ztcmp (op_eqD (units64 hr)) m_eq (zv 0) zint (nomark _))
  (sone (sret (zcall D_digit_at hr pasX (zacons (ztup (zacons zint (zacons zint zanil))) (zacons (zv 1) zanil)) (hal := (al_cons (al_cons al_nil))))))
  snil)
  (scons (sif (ztcmp (op_eqD (units64 hr)) m_eq (zv 0) zint (nomark _))
  (sone (sret (zcall D_digit_sum hr pasX (zacons (ztup (zacons zint (zacons zint zanil))) (zacons (zv 1) zanil)) (hal := (al_cons (al_cons al_nil))))))
  snil)
  (scons (sif (ztcmp (op_eqD (units64 hr)) m_eq (zv 0) zint (nomark _))
  (sone (sret (zcall D_traps_under hr pasX (zacons (zv 1) (zacons (zv 2) (zacons (zv 3) (zacons zstr zanil)))) (hal := (al_cons (al_cons (al_cons (al_cons al_nil))))))))
  snil)
  (scons (sif (ztcmp (op_eqD (units64 hr)) m_eq (zv 0) zint (nomark _))
  (sone (sret (zcall D_twice hr pasX (zacons (ztup (zacons zint (zacons zint zanil))) (zacons (zv 1) (zacons (zv 2) (zacons zstr zanil)))) (hal := (al_cons (al_cons (al_cons (al_cons al_nil))))))))
  snil)
  (scons (sif (ztcmp (op_eqD (units64 hr)) m_eq (zv 0) zint (nomark _))
  (sone (sret (zcall D_count_decimals hr pasX (zacons (zv 1) (zacons (zv 2) zanil)) (hal := (al_cons (al_cons al_nil))))))
  snil)
  (scons (sif (ztcmp (op_eqD (units64 hr)) m_eq (zv 0) zint (nomark _))
  (sone (sret (zcall D_decimals_in hr pasX (zacons (zv 1) (zacons (zv 2) zanil)) (hal := (al_cons (al_cons al_nil))))))
  snil)
  (sone (sret (zif (ztcmp (op_eqD (units64 hr)) m_eq (zv 0) zint (nomark _)) (zmeth D_Reader_tell G.rd.cl hr pasX (zv 1) (zacons (zv 2) (zacons (zv 3) (zacons zstr zanil))) (hal := (fun env S ws S' h => congrArg (· + 1) ((al_cons (al_cons (al_cons al_nil))) env S ws S' h)))) (zmeth D_Reader_tell G.rd.cl hr pasX (zv 1) (zacons zint (zacons zint (zacons (zv 2) zanil))) (hal := (fun env S ws S' h => congrArg (· + 1) ((al_cons (al_cons (al_cons al_nil))) env S ws S' h))))))))))))))))))))))
set_option maxHeartbeats 4000000 in
theorem ok__law_error (G : Gs K mg C cv) (f : Addr) (fd : FuncData) (F : Fun K "_law_error" "_law_error" s__law_error f fd) : FnOk P w K mg base (L2.CX P w) 1 f fd ["_law_caught"] (spM K C cv 1 m__law_error) :=
  have nd := sc__law_error.nd
  zdef (mb := b__law_error) rfl rfl F sc__law_error fun cdv A outer s H E g hr =>
  (scons (sset 1 nd (zlst (zacons (zise G.exF G.kit0 G.cvE G.x_BadFraction (zv 0) G.isinstance) (zacons (zise G.exF G.kit1 G.cvE G.x_BadRange (zv 0) G.isinstance) (zacons (zise G.exF G.kit2 G.cvE G.x_BadRule (zv 0) G.isinstance) zanil)))))
  (scons (sset 1 nd (zop h_add z_addI (zv 1) (zlst (zacons (zise G.exF G.kit3 G.cvE G.x_BadNumber (zv 0) G.isinstance) (zacons (zise G.exF G.kit4 G.cvE G.x_BadText (zv 0) G.isinstance) (zacons (zise G.exF G.kit5 G.cvE G.x_NotFound (zv 0) G.isinstance) zanil))))))
  (scons (sif (PW.pt (ztor (ztcmp (op_neD (units64 hr)) m_ne (zcnt (zv 1) zbl) zint (nomark _)) (ztor (ztnot (ztv (zise G.exF G.kit6 G.cvE G.x_DecimalError (zv 0) G.isinstance))) (ztor1 (ztnot (ztv (zisV G.exF G.kitV (zv 0) G.isinstance G.ValueError (by decide +kernel))))))))
  (sone (sret zstr))
  snil)
  (sone (sret (zix ix_seq m_ix (zlst (zacons zstr (zacons zstr (zacons zstr (zacons zstr (zacons zstr (zacons zstr zanil))))))) (zidx (zv 1) zbl)))))))
set_option maxHeartbeats 4000000 in
theorem ok__law_asked (G : Gs K mg C cv) (D__law_span_call : Def P w K mg base C cv 8 "_law_span_call" 2 m__law_span_call) (D__law_call : Def P w K mg base C cv 7 "_law_call" 4 m__law_call) (D__law_error : Def P w K mg base C cv 1 "_law_error" 1 m__law_error) (f : Addr) (fd : FuncData) (F : Fun K "_law_asked" "_law_asked" s__law_asked f fd) : FnOk P w K mg base (L2.CX P w) 9 f fd ["_law_group", "_law_kind", "_law_one", "_law_two", "_law_three"] (spM K C cv 5 m__law_asked) :=
  have nd := sc__law_asked.nd
  zdef (mb := b__law_asked) rfl rfl F sc__law_asked fun cdv A outer s H E g hr =>
  (scons (sset 5 nd znon)
  (scons (ztry (i := 6) (k := 6) G.cvE G.exm6 G.x_DecimalError takX nd rfl rfl rfl (fun W pn xe tk po =>
  (sone (sif (ztcmp (op_eqD (units64 hr)) m_eq (zv 0) zint (nomark _))
  (sone (sexpr (zcall D__law_span_call hr (passAt tk) (zacons (zv 1) (zacons (zv 2) zanil)) (hal := (al_cons (al_cons al_nil))))))
  (sone (sexpr (zcall D__law_call hr (passAt tk) (zacons (zv 1) (zacons (zv 2) (zacons (zv 3) (zacons (zv 4) zanil)))) (hal := (al_cons (al_cons (al_cons (al_cons al_nil)))))))))))
  (fun a pn => (sone (sset 5 nd (zv 6)))))
  (sone (sret (zif (ztcmp h_is m_is (zv 5) znon (nomark _)) zstr (zcall D__law_error hr pasX (zacons (zv 5) zanil) (hal := (al_cons al_nil))))))))
set_option maxHeartbeats 4000000 in
theorem ok__law_draw (G : Gs K mg C cv) (f : Addr) (fd : FuncData) (F : Fun K "_law_draw" "_law_draw" s__law_draw f fd) : FnOk P w K mg base (L2.CX P w) 1 f fd ["_law_draws", "_law_limit"] (spM K C cv 2 m__law_draw) :=
  have nd := sc__law_draw.nd
  zdef (mb := b__law_draw) rfl rfl F sc__law_draw fun cdv A outer s H E g hr =>
  (scons (sset 2 nd (zix ix_seq m_ix (zv 0) zint))
  (scons (ssto (zop h_add z_addI (zix ix_seq m_ix (zv 0) zint) zint) (zv 0) zint)
  (scons (sset 3 nd (zop op_mod m_mod (zix ix_seq m_ix (zv 0) zint) (zcallB call_len m_len G.len (zacons (zv 2) zanil))))
  (scons (sset 4 nd (zix ix_seq m_ix (zv 2) (zv 3)))
  (scons (sif (ztcmp op_ge m_ge (zv 4) zint (nomark _))
  (scons (ssto (zop op_fdivW m_fdiv (zv 4) (zv 1)) (zv 2) (zv 3))
  (sone (sret (zop op_mod m_mod (zv 4) (zv 1)))))
  snil)
  (scons (sset 5 nd (zop op_mod m_mod (zop h_add z_addI (zv 4) (zop h_mul m_mul zint (zix ix_seq m_ix (zv 0) zint))) zint))
  (scons (sset 5 nd (zop op_mod m_mod (zop op_pow m_pow (zv 5) zint) zint))
  (sone (sret (zop op_mod m_mod (zop op_fdivW m_fdiv (zop op_mod m_mod (zop h_add z_addI (zop h_mul m_mul (zop op_fdivW m_fdiv (zv 5) zint) zint) (zv 5)) zint) zint) (zv 1)))))))))))
set_option maxHeartbeats 4000000 in
theorem ok__law_steps (G : Gs K mg C cv) (D__law_asked : Def P w K mg base C cv 9 "_law_asked" 5 m__law_asked) (f : Addr) (fd : FuncData) (F : Fun K "_law_steps" "_law_steps" s__law_steps f fd) : FnOk P w K mg base (L2.CX P w) 10 f fd ["_law_span"] (spM K C cv 1 m__law_steps) :=
  have nd := sc__law_steps.nd
  zdef (mb := b__law_steps) rfl rfl F sc__law_steps fun cdv A outer s H E g hr =>
  (scons (sif (ztcmp (op_neD (units64 hr)) m_ne (zcomp (own := [("_law_under", 1)]) nd (zitup (ztup (zacons znon (zacons zint (zacons zint (zacons zbl (zacons zstr (zacons zint (zacons zint zanil))))))))) (tg_name _ 1) (blkOk_by (N := N__law_steps) (sc := defScope s__law_steps) (by decide +kernel)) (fun _ _ _ _ _ => (pg_name (i := 1) nd rfl (by first | exact .inl rfl | exact .inr rfl))) (fun _ _ _ _ _ _ _ => tsnil) (fun _ _ _ _ _ _ _ => (zcall D__law_asked hr pas0 (zacons zint (zacons zint (zacons (zv 1) (zacons zint (zacons zint zanil))))) (hal := (al_cons (al_cons (al_cons (al_cons (al_cons al_nil))))))))) (zop h_add z_addI (zop h_mul m_mul (zlst (zacons zstr zanil)) zint) (zop h_mul m_mul (zlst (zacons zstr zanil)) zint)) (nomark _))
  (sone (sret zbl))
  snil)
  (scons (sfor (zilst (zlst (zacons (ztup (zacons zint (zacons zint zanil))) (zacons (ztup (zacons zint (zacons zint zanil))) zanil)))) (pg_tup (n := 2) rfl (gcons 2 nd (gcons 3 nd gnil))) (tg_tup _ [2, 3])
  (scons (sset 4 nd (zlst (zacons (ztup (zacons zint (zacons zint (zacons zint zanil)))) (zacons (ztup (zacons zint (zacons zint (zacons (zop op_sub m_sub zint zint) zanil)))) (zacons (ztup (zacons zint (zacons zint (zacons znon zanil)))) (zacons (ztup (zacons zint (zacons zint (zacons zbl zanil)))) (zacons (ztup (zacons zint (zacons zint (zacons zint zanil)))) (zacons (ztup (zacons zint (zacons znon (zacons zint zanil)))) (zacons (ztup (zacons zint (zacons zint (zacons zint zanil)))) (zacons (ztup (zacons zint (zacons zint (zacons zint zanil)))) zanil))))))))))
  (scons (sown 5 nd zanil)
  (scons (sfor (zilst (zv 4)) (pg_tup (n := 3) rfl (gcons 1 nd (gcons 6 nd (gcons 7 nd gnil)))) (tg_tup _ [1, 6, 7])
  (sone (sapp 5 (zif (ztcmp (op_eqD (units64 hr)) m_eq (zv 2) zint (nomark _)) (zcall D__law_asked hr pasX (zacons zint (zacons (zv 2) (zacons (zv 1) (zacons (zv 6) (zacons (zv 7) zanil))))) (hal := (al_cons (al_cons (al_cons (al_cons (al_cons al_nil))))))) (zcall D__law_asked hr pasX (zacons zint (zacons (zv 2) (zacons (zv 6) (zacons (zv 7) (zacons zint zanil))))) (hal := (al_cons (al_cons (al_cons (al_cons (al_cons al_nil)))))))))) ownX)
  (sfrz 5 (sone (sif (ztcmp (op_neD (units64 hr)) m_ne (zv 5) (zop h_add z_addI (zop h_mul m_mul (zlst (zacons zstr zanil)) zint) (zop h_mul m_mul (zlst (zacons zstr zanil)) zint)) (nomark _))
  (sone (sret zbl))
  snil)))))) ownX)
  (scons (sset 8 nd (ztup (zacons (ztup (zacons zint (zacons zint zanil))) (zacons zbl (zacons (ztup (zacons zint (zacons zint zanil))) (zacons zbl zanil))))))
  (sone (sret (zcmp (op_eqD (units64 hr)) m_eq (zcomp (own := [("_law_one", 6), ("_law_digits", 9)]) nd (zitup (ztup (zacons (ztup (zacons (zv 8) (zacons zint zanil))) (zacons (ztup (zacons (zv 8) (zacons zint zanil))) (zacons (ztup (zacons (ztup (zacons (ztup (zacons zint (zacons zint zanil))) (zacons zbl (zacons (ztup (zacons zint (zacons zint zanil))) (zacons zbl zanil))))) (zacons zint zanil))) (zacons (ztup (zacons (zv 0) (zacons zint zanil))) zanil)))))) (tg_tup _ [6, 9]) (blkOk_by (N := N__law_steps) (sc := defScope s__law_steps) (by decide +kernel)) (fun _ _ _ _ _ => (pg_tup (n := 2) rfl (gcons 6 nd (gcons 9 nd gnil)))) (fun _ _ _ _ _ _ _ => tsnil) (fun _ _ _ _ _ _ _ => (zcall D__law_asked hr pas0 (zacons zint (zacons zint (zacons (zv 6) (zacons (zv 9) (zacons zint zanil))))) (hal := (al_cons (al_cons (al_cons (al_cons (al_cons al_nil))))))))) (zlst (zacons zstr (zacons zstr (zacons zstr (zacons zstr zanil))))) (nomark _)))))))
set_option maxHeartbeats 4000000 in
theorem ok_Reader_undo (G : Gs K mg C cv) (f : Addr) (fd : FuncData) (F : Fun K "undo" "Reader.undo" s_Reader_undo f fd) : FnOk P w K mg base (L2.CX P w) 1 f fd ["self"] (spM K C cv 1 m_Reader_undo) :=
  have nd := sc_Reader_undo.nd
  zdef (mb := b_Reader_undo) rfl rfl F sc_Reader_undo fun cdv A outer s H E g hr =>
  (scons (sif (ztcmp (op_eqD (units64 hr)) m_eqO (zfld G.rd.cl G.rd.nPast (zv 0)) (zlst zanil) (nomark _))
  (sone (zraise G.x_NotFound takX))
  snil)
  (scons (sflds G.rd.cl G.rd.nNow (zv 0) (zpopO (zfld G.rd.cl G.rd.nPast (zv 0))))
  (sone (sret (zfld G.rd.cl G.rd.nNow (zv 0))))))
set_option maxHeartbeats 4000000 in
theorem ok_Reader_span (G : Gs K mg C cv) (f : Addr) (fd : FuncData) (F : Fun K "span" "Reader.span" s_Reader_span f fd) : FnOk P w K mg base (L2.CX P w) 1 f fd ["self"] (spM K C cv 1 m_Reader_span) :=
  have nd := sc_Reader_span.nd
  zdef (mb := b_Reader_span) rfl rfl F sc_Reader_span fun cdv A outer s H E g hr =>
  (sone (sret (zfld G.rd.cl G.rd.nNow (zv 0))))
set_option maxHeartbeats 4000000 in
theorem ok_Reader___len__ (G : Gs K mg C cv) (f : Addr) (fd : FuncData) (F : Fun K "__len__" "Reader.__len__" s_Reader___len__ f fd) : FnOk P w K mg base (L2.CX P w) 1 f fd ["self"] (spM K C cv 1 m_Reader___len__) :=
  have nd := sc_Reader___len__.nd
  zdef (mb := b_Reader___len__) rfl rfl F sc_Reader___len__ fun cdv A outer s H E g hr =>
  (sone (sret (zcallB call_len m_len G.len (zacons (zfld G.rd.cl G.rd.nPast (zv 0)) zanil))))
set_option maxHeartbeats 4000000 in
theorem ok_Reader_simplest (G : Gs K mg C cv) (D_simplest_of : Def P w K mg base C cv 2 "simplest_of" 1 m_simplest_of) (D_lowest : Def P w K mg base C cv 2 "lowest" 2 m_lowest) (f : Addr) (fd : FuncData) (F : Fun K "simplest" "Reader.simplest" s_Reader_simplest f fd) : FnOk P w K mg base (L2.CX P w) 3 f fd ["self"] (spM K C cv 1 m_Reader_simplest) :=
  have nd := sc_Reader_simplest.nd
  zdef (mb := b_Reader_simplest) rfl rfl F sc_Reader_simplest fun cdv A outer s H E g hr =>
  (scons (sset 1 nd (zcall D_simplest_of hr pasX (zacons (zfld G.rd.cl G.rd.nNow (zv 0)) zanil) (hal := (al_cons al_nil))))
  (sone (sret (zif (ztcmp h_isn m_isn (zv 1) znon (nomark _)) (zcall D_lowest hr pasX (zacons (zix ix_seq m_ix (zv 1) zint) (zacons (zix ix_seq m_ix (zv 1) zint) zanil)) (hal := (al_cons (al_cons al_nil)))) znon))))
set_option maxHeartbeats 4000000 in
theorem ok_Reader_shortest (G : Gs K mg C cv) (D_least_of : Def P w K mg base C cv 3 "least_of" 1 m_least_of) (D_ends_of : Def P w K mg base C cv 2 "ends_of" 2 m_ends_of) (f : Addr) (fd : FuncData) (F : Fun K "shortest" "Reader.shortest" s_Reader_shortest f fd) : FnOk P w K mg base (L2.CX P w) 4 f fd ["self"] (spM K C cv 1 m_Reader_shortest) :=
  have nd := sc_Reader_shortest.nd
  zdef (mb := b_Reader_shortest) rfl rfl F sc_Reader_shortest fun cdv A outer s H E g hr =>
  (scons (sset 1 nd (zcall D_least_of hr pasX (zacons (zfld G.rd.cl G.rd.nNow (zv 0)) zanil) (hal := (al_cons al_nil))))
  (sone (sret (zif (ztcmp h_isn m_isn (zv 1) znon (nomark _)) (ztup (zacons (zix ix_seq m_ix (zcall D_ends_of hr pasX (zacons (zfld G.rd.cl G.rd.nNow (zv 0)) (zacons (zv 1) zanil)) (hal := (al_cons (al_cons al_nil)))) zint) (zacons (zv 1) zanil))) znon))))
set_option maxHeartbeats 4000000 in
theorem ok__law_reader (G : Gs K mg C cv) (D_Reader___init__ : IDef P w K mg base C cv 6 2 m_Reader___init__) (D__law_asked : Def P w K mg base C cv 9 "_law_asked" 5 m__law_asked) (D_Reader_undo : MDef P w K mg base C cv 1 "undo" 1 m_Reader_undo) (D__law_error : Def P w K mg base C cv 1 "_law_error" 1 m__law_error) (D_Reader_span : MDef P w K mg base C cv 1 "span" 1 m_Reader_span) (D_Reader___len__ : MDef P w K mg base C cv 1 "__len__" 1 m_Reader___len__) (D_Reader_simplest : MDef P w K mg base C cv 3 "simplest" 1 m_Reader_simplest) (D_Reader_shortest : MDef P w K mg base C cv 4 "shortest" 1 m_Reader_shortest) (D_Reader_tell : MDef P w K mg base C cv 4 "tell" 4 m_Reader_tell) (D_shortest : Def P w K mg base C cv 6 "shortest" 1 m_shortest) (D_simplest : Def P w K mg base C cv 6 "simplest" 1 m_simplest) (f : Addr) (fd : FuncData) (F : Fun K "_law_reader" "_law_reader" s__law_reader f fd) : FnOk P w K mg base (L2.CX P w) 10 f fd [] (spM K C cv 0 m__law_reader) :=
  have nd := sc__law_reader.nd
  zdef (mb := b__law_reader) rfl rfl F sc__law_reader fun cdv A outer s H E g hr =>
  (scons (sset 0 nd (ztup (zacons (ztup (zacons zint (zacons zint zanil))) (zacons zbl (zacons (ztup (zacons zint (zacons zint zanil))) (zacons zbl zanil))))))
  (scons (sset 1 nd (zmake D_Reader___init__ G.rd.mgC hr pasX (zacons (zv 0) zanil) (hal := (fun env S ws S' h => congrArg (· + 1) ((al_cons al_nil) env S ws S' h)))))
  (scons (sif (ztcmp (op_neD (units64 hr)) m_ne (zcomp (own := [("_law_units", 6), ("_law_digits", 7)]) nd (zitup (ztup (zacons (ztup (zacons znon (zacons zint zanil))) (zacons (ztup (zacons zint (zacons zint zanil))) (zacons (ztup (zacons zint (zacons zint zanil))) (zacons (ztup (zacons zbl (zacons zint zanil))) (zacons (ztup (zacons zint (zacons znon zanil))) zanil))))))) (tg_tup _ [6, 7]) (blkOk_by (N := N__law_reader) (sc := defScope s__law_reader) (by decide +kernel)) (fun _ _ _ _ _ => (pg_tup (n := 2) rfl (gcons 6 nd (gcons 7 nd gnil)))) (fun _ _ _ _ _ _ _ => tsnil) (fun _ _ _ _ _ _ _ => (zcall D__law_asked hr pas0 (zacons zint (zacons zint (zacons (zv 1) (zacons (zv 6) (zacons (zv 7) zanil))))) (hal := (al_cons (al_cons (al_cons (al_cons (al_cons al_nil))))))))) (zop h_mul m_mul (zlst (zacons zstr zanil)) zint) (nomark _))
  (sone (sret zbl))
  snil)
  (scons (sif (PW.pt (ztor (ztcmp (op_neD (units64 hr)) m_ne (zcomp (own := [("_law_bad", 8)]) nd (zitup (ztup (zacons znon (zacons zstr zanil)))) (tg_name _ 8) (blkOk_by (N := N__law_reader) (sc := defScope s__law_reader) (by decide +kernel)) (fun _ _ _ _ _ => (pg_name (i := 8) nd rfl (by first | exact .inl rfl | exact .inr rfl))) (fun _ _ _ _ _ _ _ => tsnil) (fun _ _ _ _ _ _ _ => (zcall D__law_asked hr pas0 (zacons zint (zacons zint (zacons (zv 1) (zacons (zv 8) (zacons zint zanil))))) (hal := (al_cons (al_cons (al_cons (al_cons (al_cons al_nil))))))))) (zop h_mul m_mul (zlst (zacons zstr zanil)) zint) (nomark _)) (ztor1 (ztcmp (op_neD (units64 hr)) m_ne (zcall D__law_asked hr pasX (zacons zint (zacons zint (zacons (zv 1) (zacons zint (zacons zint zanil))))) (hal := (al_cons (al_cons (al_cons (al_cons (al_cons al_nil))))))) zstr (nomark _)))))
  (sone (sret zbl))
  snil)
  (scons (sset 2 nd znon)
  (scons (ztry (i := 3) (k := 6) G.cvE G.exm6 G.x_DecimalError takX nd rfl rfl rfl (fun W pn xe tk po =>
  (sone (sexpr (zmeth0 D_Reader_undo G.rd.cl hr (passAt tk) (zv 1)))))
  (fun a pn => (sone (sset 2 nd (zv 3)))))
  (scons (sif (PW.pt (ztor (ztcmp h_is m_is (zv 2) znon (nomark _)) (ztor (ztcmp (op_neD (units64 hr)) m_ne (zcall D__law_error hr pasX (zacons (zv 2) zanil) (hal := (al_cons al_nil))) zstr (nomark _)) (ztor (ztcmp (op_neD (units64 hr)) m_ne (zmeth0 D_Reader_span G.rd.cl hr pasX (zv 1)) (zv 0) (nomark _)) (ztor1 (ztcmp (op_neD (units64 hr)) m_ne (zlenO D_Reader___len__ hr G.len (zv 1)) zint (nomark _)))))))
  (sone (sret zbl))
  snil)
  (scons (sif (PW.pt (ztor (ztcmp (op_neD (units64 hr)) m_ne (zmeth0 D_Reader_simplest G.rd.cl hr pasX (zv 1)) (ztup (zacons zint (zacons zint zanil))) (nomark _)) (ztor (ztcmp (op_neD (units64 hr)) m_ne (zmeth0 D_Reader_shortest G.rd.cl hr pasX (zv 1)) (ztup (zacons zint (zacons zint zanil))) (nomark _)) (ztor1 (ztcmp (op_neD (units64 hr)) m_ne (zmeth D_Reader_tell G.rd.cl hr pasX (zv 1) (zacons zint (zacons zint (zacons zstr zanil))) (hal := (fun env S ws S' h => congrArg (· + 1) ((al_cons (al_cons (al_cons al_nil))) env S ws S' h)))) (ztup (zacons (ztup (zacons zint (zacons zint zanil))) (zacons zbl (zacons (ztup (zacons zint (zacons zint zanil))) (zacons zbl zanil))))) (nomark _))))))
  (sone (sret zbl))
  snil)
  (scons (sset 4 nd (ztup (zacons (ztup (zacons zint (zacons zint zanil))) (zacons zbl (zacons (ztup (zacons zint (zacons zint zanil))) (zacons zbl zanil))))))
  (scons (sif (PW.pt (ztor (ztcmp (op_neD (units64 hr)) m_ne (zcall D_shortest hr pasX (zacons (zv 4) zanil) (hal := (al_cons al_nil))) (ztup (zacons (zlst (zacons zint zanil)) (zacons zint zanil))) (nomark _)) (ztor1 (ztcmp (op_neD (units64 hr)) m_ne (zcall D__law_asked hr pasX (zacons zint (zacons zint (zacons (ztup (zacons (ztup (zacons zint (zacons zint zanil))) (zacons zbl (zacons (ztup (zacons zint (zacons zint zanil))) (zacons zbl zanil))))) (zacons zint (zacons zint zanil))))) (hal := (al_cons (al_cons (al_cons (al_cons (al_cons al_nil))))))) zstr (nomark _)))))
  (sone (sret zbl))
  snil)
  (scons (sif (ztcmp (op_neD (units64 hr)) m_ne (zcall D_simplest hr pasX (zacons (ztup (zacons (ztup (zacons zint (zacons zint zanil))) (zacons zbl (zacons (ztup (zacons zint (zacons zint zanil))) (zacons zbl zanil))))) zanil) (hal := (al_cons al_nil))) (ztup (zacons zint (zacons zint zanil))) (nomark _))
  (sone (sret zbl))
  snil)
  (scons (sset 5 nd (zmake D_Reader___init__ G.rd.mgC hr pasX (zacons (ztup (zacons (ztup (zacons zint (zacons zint zanil))) (zacons zbl (zacons (ztup (zacons zint (zacons zint zanil))) (zacons zbl zanil))))) zanil) (hal := (fun env S ws S' h => congrArg (· + 1) ((al_cons al_nil) env S ws S' h)))))
  (sone (sret (zand (zcmp h_is m_is (zmeth0 D_Reader_shortest G.rd.cl hr pasX (zv 5)) znon (nomark _)) (zand (zcmp (op_eqD (units64 hr)) m_eq (zmeth0 D_Reader_simplest G.rd.cl hr pasX (zv 5)) (ztup (zacons zint (zacons zint zanil))) (nomark _)) (zone (zcmp h_is m_is (zmeth0 D_Reader_simplest G.rd.cl hr pasX (zmake D_Reader___init__ G.rd.mgC hr pasX (zacons (ztup (zacons (ztup (zacons zint (zacons zint zanil))) (zacons zbl (zacons (ztup (zacons zint (zacons zint zanil))) (zacons zbl zanil))))) zanil) (hal := (fun env S ws S' h => congrArg (· + 1) ((al_cons al_nil) env S ws S' h))))) znon (nomark _)))))))))))))))))))
set_option maxHeartbeats 4000000 in
theorem ok__law_units_asked (G : Gs K mg C cv) (D__law_asked : Def P w K mg base C cv 9 "_law_asked" 5 m__law_asked) (D__law_steps : Def P w K mg base C cv 10 "_law_steps" 1 m__law_steps) (D__law_reader : Def P w K mg base C cv 10 "_law_reader" 0 m__law_reader) (f : Addr) (fd : FuncData) (F : Fun K "_law_units_asked" "_law_units_asked" s__law_units_asked f fd) : FnOk P w K mg base (L2.CX P w) 11 f fd ["_law_span"] (spM K C cv 1 m__law_units_asked) :=
  have nd := sc__law_units_asked.nd
  zdef (mb := b__law_units_asked) rfl rfl F sc__law_units_asked fun cdv A outer s H E g hr =>
  (scons (sfor (zilst (zlst (zacons znon (zacons zint (zacons (zop op_sub m_sub zint zint) (zacons zbl (zacons zstr zanil))))))) (pg_name (i := 1) nd rfl (by first | exact .inl rfl | exact .inr rfl)) (tg_name _ 1)
  (sone (sif (ztcmp (op_neD (units64 hr)) m_ne (zcomp (own := [("_law_k", 5)]) nd (zirg1 G.range zint) (tg_name _ 5) (blkOk_by (N := N__law_units_asked) (sc := defScope s__law_units_asked) (by decide +kernel)) (fun _ _ _ _ _ => (pg_name (i := 5) nd rfl (by first | exact .inl rfl | exact .inr rfl))) (fun _ _ _ _ _ _ _ => tsnil) (fun _ _ _ _ _ _ _ => (zcall D__law_asked hr pas0 (zacons zint (zacons (zv 5) (zacons (zv 1) (zacons zint (zacons zint zanil))))) (hal := (al_cons (al_cons (al_cons (al_cons (al_cons al_nil))))))))) (zop h_mul m_mul (zlst (zacons zstr zanil)) zint) (nomark _))
  (sone (sret zbl))
  snil)) ownX)
  (scons (sfor (zilst (zlst (zacons znon (zacons zint (zacons (zop op_sub m_sub zint zint) (zacons zbl (zacons zstr zanil))))))) (pg_name (i := 1) nd rfl (by first | exact .inl rfl | exact .inr rfl)) (tg_name _ 1)
  (sone (sif (PW.pt (ztor (ztcmp (op_neD (units64 hr)) m_ne (zcomp (own := [("_law_k", 5)]) nd (zirg1 G.range zint) (tg_name _ 5) (blkOk_by (N := N__law_units_asked) (sc := defScope s__law_units_asked) (by decide +kernel)) (fun _ _ _ _ _ => (pg_name (i := 5) nd rfl (by first | exact .inl rfl | exact .inr rfl))) (fun _ _ _ _ _ _ _ => tsnil) (fun _ _ _ _ _ _ _ => (zcall D__law_asked hr pas0 (zacons zint (zacons (zv 5) (zacons zint (zacons (zv 1) (zacons zint zanil))))) (hal := (al_cons (al_cons (al_cons (al_cons (al_cons al_nil))))))))) (zop h_mul m_mul (zlst (zacons zstr zanil)) zint) (nomark _)) (ztor1 (ztcmp (op_neD (units64 hr)) m_ne (zcomp (own := [("_law_k", 5)]) nd (zitup (ztup (zacons zint (zacons zint zanil)))) (tg_name _ 5) (blkOk_by (N := N__law_units_asked) (sc := defScope s__law_units_asked) (by decide +kernel)) (fun _ _ _ _ _ => (pg_name (i := 5) nd rfl (by first | exact .inl rfl | exact .inr rfl))) (fun _ _ _ _ _ _ _ => tsnil) (fun _ _ _ _ _ _ _ => (zcall D__law_asked hr pas0 (zacons zint (zacons (zv 5) (zacons (zv 0) (zacons (zv 1) (zacons zint zanil))))) (hal := (al_cons (al_cons (al_cons (al_cons (al_cons al_nil))))))))) (zop h_mul m_mul (zlst (zacons zstr zanil)) zint) (nomark _)))))
  (sone (sret zbl))
  snil)) ownX)
  (scons (sif (PW.pt (ztor (ztcmp (op_neD (units64 hr)) m_ne (zcomp (own := [("_law_k", 5)]) nd (zirg1 G.range zint) (tg_name _ 5) (blkOk_by (N := N__law_units_asked) (sc := defScope s__law_units_asked) (by decide +kernel)) (fun _ _ _ _ _ => (pg_name (i := 5) nd rfl (by first | exact .inl rfl | exact .inr rfl))) (fun _ _ _ _ _ _ _ => tsnil) (fun _ _ _ _ _ _ _ => (zcall D__law_asked hr pas0 (zacons zint (zacons (zv 5) (zacons zint (zacons zint (zacons zint zanil))))) (hal := (al_cons (al_cons (al_cons (al_cons (al_cons al_nil))))))))) (zop h_mul m_mul (zlst (zacons zstr zanil)) zint) (nomark _)) (ztor1 (ztcmp (op_neD (units64 hr)) m_ne (zcomp (own := [("_law_k", 5)]) nd (zirg1 G.range zint) (tg_name _ 5) (blkOk_by (N := N__law_units_asked) (sc := defScope s__law_units_asked) (by decide +kernel)) (fun _ _ _ _ _ => (pg_name (i := 5) nd rfl (by first | exact .inl rfl | exact .inr rfl))) (fun _ _ _ _ _ _ _ => tsnil) (fun _ _ _ _ _ _ _ => (zcall D__law_asked hr pas0 (zacons zint (zacons (zv 5) (zacons (zop op_sub m_sub zint zint) (zacons zint (zacons zint zanil))))) (hal := (al_cons (al_cons (al_cons (al_cons (al_cons al_nil))))))))) (zop h_mul m_mul (zlst (zacons zstr zanil)) zint) (nomark _)))))
  (sone (sret zbl))
  snil)
  (scons (sfor (zilst (zlst (zacons (ztup (zacons zint (zacons zint (zacons zint zanil)))) (zacons (ztup (zacons zint (zacons zint (zacons zint zanil)))) (zacons (ztup (zacons zint (zacons zint (zacons zint zanil)))) (zacons (ztup (zacons zint (zacons zint (zacons zint zanil)))) (zacons (ztup (zacons zint (zacons zint (zacons zint zanil)))) (zacons (ztup (zacons zint (zacons zint (zacons zint zanil)))) zanil)))))))) (pg_tup (n := 3) rfl (gcons 2 nd (gcons 3 nd (gcons 4 nd gnil)))) (tg_tup _ [2, 3, 4])
  (scons (sif (ztcmp (op_neD (units64 hr)) m_ne (zcomp (own := [("_law_bad", 1)]) nd (zitup (ztup (zacons znon (zacons (zop op_sub m_sub (zv 3) zint) (zacons (zop h_add z_addI (zv 4) zint) (zacons zbl (zacons (zcallTy call_str_int m_str G.str (zacons (zv 3) zanil)) zanil))))))) (tg_name _ 1) (blkOk_by (N := N__law_units_asked) (sc := defScope s__law_units_asked) (by decide +kernel)) (fun _ _ _ _ _ => (pg_name (i := 1) nd rfl (by first | exact .inl rfl | exact .inr rfl))) (fun _ _ _ _ _ _ _ => tsnil) (fun _ _ _ _ _ _ _ => (zcall D__law_asked hr pas0 (zacons zint (zacons (zv 2) (zacons (zv 1) (zacons zint (zacons zint zanil))))) (hal := (al_cons (al_cons (al_cons (al_cons (al_cons al_nil))))))))) (zop h_mul m_mul (zlst (zacons zstr zanil)) zint) (nomark _))
  (sone (sret zbl))
  snil)
  (sone (sif (ztcmp (op_neD (units64 hr)) m_ne (zcomp (own := [("_law_good", 6)]) nd (zitup (ztup (zacons (zv 3) (zacons (zv 4) zanil)))) (tg_name _ 6) (blkOk_by (N := N__law_units_asked) (sc := defScope s__law_units_asked) (by decide +kernel)) (fun _ _ _ _ _ => (pg_name (i := 6) nd rfl (by first | exact .inl rfl | exact .inr rfl))) (fun _ _ _ _ _ _ _ => tsnil) (fun _ _ _ _ _ _ _ => (zcall D__law_asked hr pas0 (zacons zint (zacons (zv 2) (zacons (zv 6) (zacons zint (zacons zint zanil))))) (hal := (al_cons (al_cons (al_cons (al_cons (al_cons al_nil))))))))) (zop h_mul m_mul (zlst (zacons zstr zanil)) zint) (nomark _))
  (sone (sret zbl))
  snil))) ownX)
  (sone (sret (zand (zcall D__law_steps hr pasX (zacons (zv 0) zanil) (hal := (al_cons al_nil))) (zone (zcall0 D__law_reader hr pasX)))))))))
set_option maxHeartbeats 4000000 in
theorem ok_law (G : Gs K mg C cv) (D__law_start : Def P w K mg base C cv 1 "_law_start" 1 m__law_start) (D_is_range : Def P w K mg base C cv 4 "is_range" 1 m_is_range) (D__law_asked : Def P w K mg base C cv 9 "_law_asked" 5 m__law_asked) (D__law_draw : Def P w K mg base C cv 1 "_law_draw" 2 m__law_draw) (D__law_units_asked : Def P w K mg base C cv 11 "_law_units_asked" 1 m__law_units_asked) (f : Addr) (fd : FuncData) (F : Fun K "law" "law" s_law f fd) : FnOk P w K mg base (L2.CX P w) 12 f fd ["_law_script"] (spM K C cv 1 m_law) :=
  have nd := sc_law.nd
  zdef (mb := b_law) rfl rfl F sc_law fun cdv A outer s H E g hr =>
  (scons (sset 1 nd (zcall D__law_start hr pasX (zacons (zv 0) zanil) (hal := (al_cons al_nil))))
  (scons (sunp (ztup (zacons (ztup (zacons zint (zacons zint zanil))) (zacons (ztup (zacons zint (zacons zint zanil))) zanil))) (pg_tup (n := 2) rfl (gcons 2 nd (gcons 3 nd gnil))) (tg_tup _ [2, 3]))
  (scons (sset 4 nd (zlst (zacons znon (zacons zint (zacons (ztup zanil) (zacons (ztup (zacons (zv 2) (zacons zbl (zacons (zv 3) zanil)))) (zacons (zlst (zacons (zv 2) (zacons zbl (zacons (zv 3) (zacons zbl zanil))))) (zacons (ztup (zacons (zv 3) (zacons zbl (zacons (zv 2) (zacons zbl zanil))))) (zacons (ztup (zacons (zv 2) (zacons zbl (zacons (zv 2) (zacons zbl zanil))))) (zacons (ztup (zacons (zv 2) (zacons zbl (zacons (zv 2) (zacons zbl zanil))))) (zacons (ztup (zacons (zv 2) (zacons zint (zacons (zv 3) (zacons zbl zanil))))) (zacons (ztup (zacons (zv 2) (zacons zbl (zacons (zv 3) (zacons znon zanil))))) (zacons (ztup (zacons (ztup (zacons zint (zacons zint zanil))) (zacons zbl (zacons (zv 3) (zacons zbl zanil))))) (zacons (ztup (zacons (zv 2) (zacons zbl (zacons (ztup (zacons zint (zacons zint zanil))) (zacons zbl zanil))))) (zacons (ztup (zacons (ztup (zacons (zop op_sub m_sub zint zint) (zacons zint zanil))) (zacons zbl (zacons (zv 3) (zacons zbl zanil))))) (zacons (ztup (zacons (zv 2) (zacons zbl (zacons (ztup (zacons zint (zacons zint zanil))) (zacons zbl zanil))))) (zacons (ztup (zacons (zv 2) (zacons zbl (zacons (ztup (zacons zint (zacons zint zanil))) (zacons zbl zanil))))) (zacons (ztup (zacons (ztup (zacons zbl (zacons zint zanil))) (zacons zbl (zacons (zv 3) (zacons zbl zanil))))) (zacons (ztup (zacons zint (zacons zbl (zacons (zv 3) (zacons zbl zanil))))) zanil)))))))))))))))))))
  (scons (sfor (zilst (zv 4)) (pg_name (i := 5) nd rfl (by first | exact .inl rfl | exact .inr rfl)) (tg_name _ 5)
  (sone (sif (PW.pt (ztor (ztcmp h_isn m_isn (zcall D_is_range hr pasX (zacons (zv 5) zanil) (hal := (al_cons al_nil))) zbl (nomark _)) (ztor1 (ztcmp (op_neD (units64 hr)) m_ne (zcomp (own := [("_law_k", 8)]) nd (zirg1 G.range zint) (tg_name _ 8) (blkOk_by (N := N_law) (sc := defScope s_law) (by decide +kernel)) (fun _ _ _ _ _ => (pg_name (i := 8) nd rfl (by first | exact .inl rfl | exact .inr rfl))) (fun _ _ _ _ _ _ _ => tsnil) (fun _ _ _ _ _ _ _ => (zcall D__law_asked hr pas0 (zacons zint (zacons (zv 8) (zacons (zv 5) (zacons zint (zacons zint zanil))))) (hal := (al_cons (al_cons (al_cons (al_cons (al_cons al_nil))))))))) (zop h_mul m_mul (zlst (zacons zstr zanil)) zint) (nomark _)))))
  (sone (sret zbl))
  snil)) ownX)
  (scons (sset 6 nd (ztup (zacons (zv 2) (zacons zbl (zacons (zv 3) (zacons (zcmp (op_eqD (units64 hr)) m_eq (zcall D__law_draw hr pasX (zacons (zv 1) (zacons zint zanil)) (hal := (al_cons (al_cons al_nil)))) zint (nomark _)) zanil))))))
  (scons (sif (PW.pt (ztor (ztcmp h_isn m_isn (zcall D_is_range hr pasX (zacons (zv 6) zanil) (hal := (al_cons al_nil))) zbl (nomark _)) (ztor (ztcmp (op_neD (units64 hr)) m_ne (zcomp (own := [("_law_k", 8)]) nd (zirg1 G.range zint) (tg_name _ 8) (blkOk_by (N := N_law) (sc := defScope s_law) (by decide +kernel)) (fun _ _ _ _ _ => (pg_name (i := 8) nd rfl (by first | exact .inl rfl | exact .inr rfl))) (fun _ _ _ _ _ _ _ => tsnil) (fun _ _ _ _ _ _ _ => (zcall D__law_asked hr pas0 (zacons zint (zacons (zv 8) (zacons (zv 6) (zacons zint (zacons zint zanil))))) (hal := (al_cons (al_cons (al_cons (al_cons (al_cons al_nil))))))))) (zop h_mul m_mul (zlst (zacons zstr zanil)) zint) (nomark _)) (ztor1 (ztcmp h_isn m_isn (zcall D_is_range hr pasX (zacons (ztup (zacons (ztup (zacons zint (zacons zint zanil))) (zacons zbl (zacons (ztup (zacons zint (zacons zint zanil))) (zacons zbl zanil))))) zanil) (hal := (al_cons al_nil))) zbl (nomark _))))))
  (sone (sret zbl))
  snil)
  (scons (sset 7 nd (ztup (zacons (ztup (zacons zint (zacons zint zanil))) (zacons zbl (zacons (ztup (zacons zint (zacons zint zanil))) (zacons zbl zanil))))))
  (scons (sif (ztcmp (op_neD (units64 hr)) m_ne (zcomp (own := [("_law_k", 8)]) nd (zirg1 G.range zint) (tg_name _ 8) (blkOk_by (N := N_law) (sc := defScope s_law) (by decide +kernel)) (fun _ _ _ _ _ => (pg_name (i := 8) nd rfl (by first | exact .inl rfl | exact .inr rfl))) (fun _ _ _ _ _ _ _ => tsnil) (fun _ _ _ _ _ _ _ => (zcall D__law_asked hr pas0 (zacons zint (zacons (zv 8) (zacons (zv 7) (zacons zint (zacons zint zanil))))) (hal := (al_cons (al_cons (al_cons (al_cons (al_cons al_nil))))))))) (zop h_add z_addI (zop h_add z_addI (zop h_add z_addI (zop h_mul m_mul (zlst (zacons zstr zanil)) zint) (zop h_mul m_mul (zlst (zacons zstr zanil)) zint)) (zlst (zacons zstr zanil))) (zop h_mul m_mul (zlst (zacons zstr zanil)) zint)) (nomark _))
  (sone (sret zbl))
  snil)
  (scons (sif (ztcmp (op_neD (units64 hr)) m_ne (zcomp (own := [("_law_k", 8)]) nd (zitup (ztup (zacons zint (zacons zint zanil)))) (tg_name _ 8) (blkOk_by (N := N_law) (sc := defScope s_law) (by decide +kernel)) (fun _ _ _ _ _ => (pg_name (i := 8) nd rfl (by first | exact .inl rfl | exact .inr rfl))) (fun _ _ _ _ _ _ _ => tsnil) (fun _ _ _ _ _ _ _ => (zcall D__law_asked hr pas0 (zacons zint (zacons (zv 8) (zacons (ztup (zacons (ztup (zacons zint (zacons zint zanil))) (zacons zbl (zacons (ztup (zacons zint (zacons zint zanil))) (zacons zbl zanil))))) (zacons zint (zacons zint zanil))))) (hal := (al_cons (al_cons (al_cons (al_cons (al_cons al_nil))))))))) (zop h_mul m_mul (zlst (zacons zstr zanil)) zint) (nomark _))
  (sone (sret zbl))
  snil)
  (sone (sret (zcall D__law_units_asked hr pasX (zacons (zv 6) zanil) (hal := (al_cons al_nil))))))))))))))
end
set_option maxHeartbeats 4000000 in
theorem all_mk {P : Program} {w : World} {K : PySem.W.Frag} {mg : Str → Option Value} {C : Addr} {cv : Nat → Value} {h : Heap} {fa : Addr} (X : K.In h) (Gn : h.Ns mainGlobals mg) (hfa : mg "law" = some (.ref fa)) (G : Gs K mg C cv)
    (f__law_start : FF K "_law_start" "_law_start" s__law_start)
    (f_common : FF K "common" "common" s_common)
    (f_is_any : FF K "is_any" "is_any" s_is_any)
    (f_less : FF K "less" "less" s_less)
    (f_is_span : FF K "is_span" "is_span" s_is_span)
    (f_is_range : FF K "is_range" "is_range" s_is_range)
    (f_check_range : FF K "check_range" "check_range" s_check_range)
    (f_power_of : FF K "power_of" "power_of" s_power_of)
    (f_ends_of : FF K "ends_of" "ends_of" s_ends_of)
    (f_least_of : FF K "least_of" "least_of" s_least_of)
    (f_least_digits : FF K "least_digits" "least_digits" s_least_digits)
    (f_shortest : FF K "shortest" "shortest" s_shortest)
    (f_tops_in : FF K "tops_in" "tops_in" s_tops_in)
    (f_simplest_of : FF K "simplest_of" "simplest_of" s_simplest_of)
    (f_lowest : FF K "lowest" "lowest" s_lowest)
    (f_simplest : FF K "simplest" "simplest" s_simplest)
    (f_simplest_all : FF K "simplest_all" "simplest_all" s_simplest_all)
    (f_minus : FF K "minus" "minus" s_minus)
    (f_width : FF K "width" "width" s_width)
    (f_Reader___init__ : MF K C "__init__" "Reader.__init__" s_Reader___init__)
    (f_is_int : FF K "is_int" "is_int" s_is_int)
    (f_is_fraction : FF K "is_fraction" "is_fraction" s_is_fraction)
    (f_check_fraction : FF K "check_fraction" "check_fraction" s_check_fraction)
    (f_within : FF K "within" "within" s_within)
    (f_contains : FF K "contains" "contains" s_contains)
    (f_nearest : FF K "nearest" "nearest" s_nearest)
    (f_check_digits : FF K "check_digits" "check_digits" s_check_digits)
    (f_count_decimals : FF K "count_decimals" "count_decimals" s_count_decimals)
    (f_decimals_in : FF K "decimals_in" "decimals_in" s_decimals_in)
    (f__law_span_call : FF K "_law_span_call" "_law_span_call" s__law_span_call)
    (f_check_whole : FF K "check_whole" "check_whole" s_check_whole)
    (f_check_rule : FF K "check_rule" "check_rule" s_check_rule)
    (f_span_of : FF K "span_of" "span_of" s_span_of)
    (f_range_of : FF K "range_of" "range_of" s_range_of)
    (f_units_of : FF K "units_of" "units_of" s_units_of)
    (f_reads_as : FF K "reads_as" "reads_as" s_reads_as)
    (f_reading_of : FF K "reading_of" "reading_of" s_reading_of)
    (f_fractions_reading : FF K "fractions_reading" "fractions_reading" s_fractions_reading)
    (f_count_reading : FF K "count_reading" "count_reading" s_count_reading)
    (f_written : FF K "written" "written" s_written)
    (f_format_decimal : FF K "format_decimal" "format_decimal" s_format_decimal)
    (f_digits_to_tell : FF K "digits_to_tell" "digits_to_tell" s_digits_to_tell)
    (f_digits_of : FF K "digits_of" "digits_of" s_digits_of)
    (f_parts_of : FF K "parts_of" "parts_of" s_parts_of)
    (f_period : FF K "period" "period" s_period)
    (f_digit_at : FF K "digit_at" "digit_at" s_digit_at)
    (f_digit_sum : FF K "digit_sum" "digit_sum" s_digit_sum)
    (f_check_steps : FF K "check_steps" "check_steps" s_check_steps)
    (f_twice_of : FF K "twice_of" "twice_of" s_twice_of)
    (f_traps_under : FF K "traps_under" "traps_under" s_traps_under)
    (f_twice : FF K "twice" "twice" s_twice)
    (f_met : FF K "met" "met" s_met)
    (f_Reader_tell : MF K C "tell" "Reader.tell" s_Reader_tell)
    (f__law_call : FF K "_law_call" "_law_call" s__law_call)
    (f__law_error : FF K "_law_error" "_law_error" s__law_error)
    (f__law_asked : FF K "_law_asked" "_law_asked" s__law_asked)
    (f__law_draw : FF K "_law_draw" "_law_draw" s__law_draw)
    (f__law_steps : FF K "_law_steps" "_law_steps" s__law_steps)
    (f_Reader_undo : MF K C "undo" "Reader.undo" s_Reader_undo)
    (f_Reader_span : MF K C "span" "Reader.span" s_Reader_span)
    (f_Reader___len__ : MF K C "__len__" "Reader.__len__" s_Reader___len__)
    (f_Reader_simplest : MF K C "simplest" "Reader.simplest" s_Reader_simplest)
    (f_Reader_shortest : MF K C "shortest" "Reader.shortest" s_Reader_shortest)
    (f__law_reader : FF K "_law_reader" "_law_reader" s__law_reader)
    (f__law_units_asked : FF K "_law_units_asked" "_law_units_asked" s__law_units_asked)
    (f_law : FF K "law" "law" s_law)
    : ∃ fd : FuncData, (∀ (s : Shared) (v : Value), BindsTo s fd ⟨[v], []⟩ [("_law_script", v)]) ∧ ∀ base : Heap, K.In base → base.Ns mainGlobals mg → FnOk P w K mg base (L2.CX P w) 12 fa fd ["_law_script"] (spM K C cv 1 m_law) := by
  refine law_mk f_law X Gn hfa (fun base _ _ => ?_) (fun _ _ _ _ _ _ v => rfl)
  have D__law_start : Def P w K mg base C cv 1 "_law_start" 1 m__law_start := def_mk f__law_start X Gn (ok__law_start G) (fun _ _ _ _ _ _ us hl => match us, hl with | [_], _ => rfl)
  have D_common : Def P w K mg base C cv 1 "common" 2 m_common := def_mk f_common X Gn (ok_common G) (fun _ _ _ _ _ _ us hl => match us, hl with | [_, _], _ => rfl)
  have D_is_any : Def P w K mg base C cv 2 "is_any" 1 m_is_any := def_mk f_is_any X Gn (ok_is_any G D_common) (fun _ _ _ _ _ _ us hl => match us, hl with | [_], _ => rfl)
  have D_less : Def P w K mg base C cv 1 "less" 2 m_less := def_mk f_less X Gn (ok_less G) (fun _ _ _ _ _ _ us hl => match us, hl with | [_, _], _ => rfl)
  have D_is_span : Def P w K mg base C cv 3 "is_span" 1 m_is_span := def_mk f_is_span X Gn (ok_is_span G D_is_any D_less) (fun _ _ _ _ _ _ us hl => match us, hl with | [_], _ => rfl)
  have D_is_range : Def P w K mg base C cv 4 "is_range" 1 m_is_range := def_mk f_is_range X Gn (ok_is_range G D_is_span D_less) (fun _ _ _ _ _ _ us hl => match us, hl with | [_], _ => rfl)
  have D_check_range : Def P w K mg base C cv 5 "check_range" 1 m_check_range := def_mk f_check_range X Gn (ok_check_range G D_is_range) (fun _ _ _ _ _ _ us hl => match us, hl with | [_], _ => rfl)
  have D_power_of : Def P w K mg base C cv 1 "power_of" 1 m_power_of := def_mk f_power_of X Gn (ok_power_of G) (fun _ _ _ _ _ _ us hl => match us, hl with | [_], _ => rfl)
  have D_ends_of : Def P w K mg base C cv 2 "ends_of" 2 m_ends_of := def_mk f_ends_of X Gn (ok_ends_of G D_power_of) (fun _ _ _ _ _ _ us hl => match us, hl with | [_, _], _ => rfl)
  have D_least_of : Def P w K mg base C cv 3 "least_of" 1 m_least_of := def_mk f_least_of X Gn (ok_least_of G D_ends_of) (fun _ _ _ _ _ _ us hl => match us, hl with | [_], _ => rfl)
  have D_least_digits : Def P w K mg base C cv 6 "least_digits" 1 m_least_digits := def_mk f_least_digits X Gn (ok_least_digits G D_check_range D_least_of) (fun _ _ _ _ _ _ us hl => match us, hl with | [_], _ => rfl)
  have D_shortest : Def P w K mg base C cv 6 "shortest" 1 m_shortest := def_mk f_shortest X Gn (ok_shortest G D_check_range D_least_of D_ends_of) (fun _ _ _ _ _ _ us hl => match us, hl with | [_], _ => rfl)
  have D_tops_in : Def P w K mg base C cv 1 "tops_in" 2 m_tops_in := def_mk f_tops_in X Gn (ok_tops_in G) (fun _ _ _ _ _ _ us hl => match us, hl with | [_, _], _ => rfl)
  have D_simplest_of : Def P w K mg base C cv 2 "simplest_of" 1 m_simplest_of := def_mk f_simplest_of X Gn (ok_simplest_of G D_tops_in) (fun _ _ _ _ _ _ us hl => match us, hl with | [_], _ => rfl)
  have D_lowest : Def P w K mg base C cv 2 "lowest" 2 m_lowest := def_mk f_lowest X Gn (ok_lowest G D_common) (fun _ _ _ _ _ _ us hl => match us, hl with | [_, _], _ => rfl)
  have D_simplest : Def P w K mg base C cv 6 "simplest" 1 m_simplest := def_mk f_simplest X Gn (ok_simplest G D_check_range D_simplest_of D_lowest) (fun _ _ _ _ _ _ us hl => match us, hl with | [_], _ => rfl)
  have D_simplest_all : Def P w K mg base C cv 6 "simplest_all" 1 m_simplest_all := def_mk f_simplest_all X Gn (ok_simplest_all G D_check_range D_simplest_of D_tops_in) (fun _ _ _ _ _ _ us hl => match us, hl with | [_], _ => rfl)
  have D_minus : Def P w K mg base C cv 3 "minus" 2 m_minus := def_mk f_minus X Gn (ok_minus G D_lowest) (fun _ _ _ _ _ _ us hl => match us, hl with | [_, _], _ => rfl)
  have D_width : Def P w K mg base C cv 6 "width" 1 m_width := def_mk f_width X Gn (ok_width G D_check_range D_minus) (fun _ _ _ _ _ _ us hl => match us, hl with | [_], _ => rfl)
  have D_Reader___init__ : IDef P w K mg base C cv 6 2 m_Reader___init__ := idef_mk G.rd f_Reader___init__ (ok_Reader___init__ G D_check_range) (fun _ _ _ _ _ _ us hl => match us, hl with | [_, _], _ => rfl)
  have D_is_int : Def P w K mg base C cv 1 "is_int" 3 m_is_int := def_mk f_is_int X Gn (ok_is_int G) (fun _ _ _ _ _ _ us hl => match us, hl with | [_, _, _], _ => rfl)
  have D_is_fraction : Def P w K mg base C cv 2 "is_fraction" 1 m_is_fraction := def_mk f_is_fraction X Gn (ok_is_fraction G D_is_int D_common) (fun _ _ _ _ _ _ us hl => match us, hl with | [_], _ => rfl)
  have D_check_fraction : Def P w K mg base C cv 3 "check_fraction" 1 m_check_fraction := def_mk f_check_fraction X Gn (ok_check_fraction G D_is_fraction) (fun _ _ _ _ _ _ us hl => match us, hl with | [_], _ => rfl)
  have D_within : Def P w K mg base C cv 2 "within" 2 m_within := def_mk f_within X Gn (ok_within G D_less) (fun _ _ _ _ _ _ us hl => match us, hl with | [_, _], _ => rfl)
  have D_contains : Def P w K mg base C cv 6 "contains" 2 m_contains := def_mk f_contains X Gn (ok_contains G D_check_range D_check_fraction D_within) (fun _ _ _ _ _ _ us hl => match us, hl with | [_, _], _ => rfl)
  have D_nearest : Def P w K mg base C cv 6 "nearest" 2 m_nearest := def_mk f_nearest X Gn (ok_nearest G D_check_range D_check_fraction D_least_of D_ends_of D_power_of D_minus D_lowest D_less) (fun _ _ _ _ _ _ us hl => match us, hl with | [_, _], _ => rfl)
  have D_check_digits : Def P w K mg base C cv 2 "check_digits" 1 m_check_digits := def_mk f_check_digits X Gn (ok_check_digits G D_is_int) (fun _ _ _ _ _ _ us hl => match us, hl with | [_], _ => rfl)
  have D_count_decimals : Def P w K mg base C cv 6 "count_decimals" 2 m_count_decimals := def_mk f_count_decimals X Gn (ok_count_decimals G D_check_range D_check_digits D_ends_of) (fun _ _ _ _ _ _ us hl => match us, hl with | [_, _], _ => rfl)
  have D_decimals_in : Def P w K mg base C cv 6 "decimals_in" 2 m_decimals_in := def_mk f_decimals_in X Gn (ok_decimals_in G D_check_range D_check_digits D_ends_of) (fun _ _ _ _ _ _ us hl => match us, hl with | [_, _], _ => rfl)
  have D__law_span_call : Def P w K mg base C cv 8 "_law_span_call" 2 m__law_span_call := def_mk f__law_span_call X Gn (ok__law_span_call G D_least_digits D_shortest D_simplest D_simplest_all D_width D_Reader___init__ D_contains D_nearest D_count_decimals D_decimals_in) (fun _ _ _ _ _ _ us hl => match us, hl with | [_, _], _ => rfl)
  have D_check_whole : Def P w K mg base C cv 2 "check_whole" 2 m_check_whole := def_mk f_check_whole X Gn (ok_check_whole G D_is_int D_power_of) (fun _ _ _ _ _ _ us hl => match us, hl with | [_, _], _ => rfl)
  have D_check_rule : Def P w K mg base C cv 1 "check_rule" 1 m_check_rule := def_mk f_check_rule X Gn (ok_check_rule G) (fun _ _ _ _ _ _ us hl => match us, hl with | [_], _ => rfl)
  have D_span_of : Def P w K mg base C cv 3 "span_of" 3 m_span_of := def_mk f_span_of X Gn (ok_span_of G D_power_of D_lowest) (fun _ _ _ _ _ _ us hl => match us, hl with | [_, _, _], _ => rfl)
  have D_range_of : Def P w K mg base C cv 4 "range_of" 3 m_range_of := def_mk f_range_of X Gn (ok_range_of G D_check_digits D_check_whole D_check_rule D_span_of) (fun _ _ _ _ _ _ us hl => match us, hl with | [_, _, _], _ => rfl)
  have D_units_of : Def P w K mg base C cv 2 "units_of" 3 m_units_of := def_mk f_units_of X Gn (ok_units_of G D_power_of) (fun _ _ _ _ _ _ us hl => match us, hl with | [_, _, _], _ => rfl)
  have D_reads_as : Def P w K mg base C cv 4 "reads_as" 4 m_reads_as := def_mk f_reads_as X Gn (ok_reads_as G D_check_fraction D_check_digits D_check_whole D_check_rule D_units_of) (fun _ _ _ _ _ _ us hl => match us, hl with | [_, _, _, _], _ => rfl)
  have D_reading_of : Def P w K mg base C cv 4 "reading_of" 4 m_reading_of := def_mk f_reading_of X Gn (ok_reading_of G D_span_of D_common D_within) (fun _ _ _ _ _ _ us hl => match us, hl with | [_, _, _, _], _ => rfl)
  have D_fractions_reading : Def P w K mg base C cv 5 "fractions_reading" 4 m_fractions_reading := def_mk f_fractions_reading X Gn (ok_fractions_reading G D_check_digits D_check_whole D_check_rule D_is_int D_reading_of) (fun _ _ _ _ _ _ us hl => match us, hl with | [_, _, _, _], _ => rfl)
  have D_count_reading : Def P w K mg base C cv 5 "count_reading" 4 m_count_reading := def_mk f_count_reading X Gn (ok_count_reading G D_check_digits D_check_whole D_check_rule D_is_int D_reading_of) (fun _ _ _ _ _ _ us hl => match us, hl with | [_, _, _, _], _ => rfl)
  have D_written : Def P w K mg base C cv 2 "written" 2 m_written := def_mk f_written X Gn (ok_written G D_power_of) (fun _ _ _ _ _ _ us hl => match us, hl with | [_, _], _ => rfl)
  have D_format_decimal : Def P w K mg base C cv 3 "format_decimal" 2 m_format_decimal := def_mk f_format_decimal X Gn (ok_format_decimal G D_check_digits D_check_whole D_written) (fun _ _ _ _ _ _ us hl => match us, hl with | [_, _], _ => rfl)
  have D_digits_to_tell : Def P w K mg base C cv 3 "digits_to_tell" 2 m_digits_to_tell := def_mk f_digits_to_tell X Gn (ok_digits_to_tell G D_is_int D_check_rule D_common D_units_of) (fun _ _ _ _ _ _ us hl => match us, hl with | [_, _], _ => rfl)
  have D_digits_of : Def P w K mg base C cv 4 "digits_of" 2 m_digits_of := def_mk f_digits_of X Gn (ok_digits_of G D_check_fraction D_is_int) (fun _ _ _ _ _ _ us hl => match us, hl with | [_, _], _ => rfl)
  have D_parts_of : Def P w K mg base C cv 1 "parts_of" 1 m_parts_of := def_mk f_parts_of X Gn (ok_parts_of G) (fun _ _ _ _ _ _ us hl => match us, hl with | [_], _ => rfl)
  have D_period : Def P w K mg base C cv 4 "period" 1 m_period := def_mk f_period X Gn (ok_period G D_check_fraction D_parts_of) (fun _ _ _ _ _ _ us hl => match us, hl with | [_], _ => rfl)
  have D_digit_at : Def P w K mg base C cv 5 "digit_at" 2 m_digit_at := def_mk f_digit_at X Gn (ok_digit_at G D_check_fraction D_is_int D_period D_digits_of) (fun _ _ _ _ _ _ us hl => match us, hl with | [_, _], _ => rfl)
  have D_digit_sum : Def P w K mg base C cv 5 "digit_sum" 2 m_digit_sum := def_mk f_digit_sum X Gn (ok_digit_sum G D_check_fraction D_is_int D_period D_digits_of) (fun _ _ _ _ _ _ us hl => match us, hl with | [_, _], _ => rfl)
  have D_check_steps : Def P w K mg base C cv 3 "check_steps" 2 m_check_steps := def_mk f_check_steps X Gn (ok_check_steps G D_check_digits D_is_int) (fun _ _ _ _ _ _ us hl => match us, hl with | [_, _], _ => rfl)
  have D_twice_of : Def P w K mg base C cv 3 "twice_of" 4 m_twice_of := def_mk f_twice_of X Gn (ok_twice_of G D_lowest D_power_of D_units_of) (fun _ _ _ _ _ _ us hl => match us, hl with | [_, _, _, _], _ => rfl)
  have D_traps_under : Def P w K mg base C cv 4 "traps_under" 4 m_traps_under := def_mk f_traps_under X Gn (ok_traps_under G D_is_int D_check_steps D_check_rule D_lowest D_twice_of D_units_of) (fun _ _ _ _ _ _ us hl => match us, hl with | [_, _, _, _], _ => rfl)
  have D_twice : Def P w K mg base C cv 4 "twice" 4 m_twice := def_mk f_twice X Gn (ok_twice G D_check_fraction D_check_steps D_check_rule D_twice_of) (fun _ _ _ _ _ _ us hl => match us, hl with | [_, _, _, _], _ => rfl)
  have D_met : Def P w K mg base C cv 2 "met" 2 m_met := def_mk f_met X Gn (ok_met G D_less) (fun _ _ _ _ _ _ us hl => match us, hl with | [_, _], _ => rfl)
  have D_Reader_tell : MDef P w K mg base C cv 4 "tell" 4 m_Reader_tell := mdef_mk f_Reader_tell (ok_Reader_tell G D_check_digits D_check_whole D_check_rule D_met D_span_of D_is_span) (fun _ _ _ _ _ _ us hl => match us, hl with | [_, _, _, _], _ => rfl)
  have D__law_call : Def P w K mg base C cv 7 "_law_call" 4 m__law_call := def_mk f__law_call X Gn (ok__law_call G D_range_of D_reads_as D_fractions_reading D_count_reading D_format_decimal D_digits_to_tell D_digits_of D_digit_at D_digit_sum D_traps_under D_twice D_count_decimals D_decimals_in D_Reader_tell) (fun _ _ _ _ _ _ us hl => match us, hl with | [_, _, _, _], _ => rfl)
  have D__law_error : Def P w K mg base C cv 1 "_law_error" 1 m__law_error := def_mk f__law_error X Gn (ok__law_error G) (fun _ _ _ _ _ _ us hl => match us, hl with | [_], _ => rfl)
  have D__law_asked : Def P w K mg base C cv 9 "_law_asked" 5 m__law_asked := def_mk f__law_asked X Gn (ok__law_asked G D__law_span_call D__law_call D__law_error) (fun _ _ _ _ _ _ us hl => match us, hl with | [_, _, _, _, _], _ => rfl)
  have D__law_draw : Def P w K mg base C cv 1 "_law_draw" 2 m__law_draw := def_mk f__law_draw X Gn (ok__law_draw G) (fun _ _ _ _ _ _ us hl => match us, hl with | [_, _], _ => rfl)
  have D__law_steps : Def P w K mg base C cv 10 "_law_steps" 1 m__law_steps := def_mk f__law_steps X Gn (ok__law_steps G D__law_asked) (fun _ _ _ _ _ _ us hl => match us, hl with | [_], _ => rfl)
  have D_Reader_undo : MDef P w K mg base C cv 1 "undo" 1 m_Reader_undo := mdef_mk f_Reader_undo (ok_Reader_undo G) (fun _ _ _ _ _ _ us hl => match us, hl with | [_], _ => rfl)
  have D_Reader_span : MDef P w K mg base C cv 1 "span" 1 m_Reader_span := mdef_mk f_Reader_span (ok_Reader_span G) (fun _ _ _ _ _ _ us hl => match us, hl with | [_], _ => rfl)
  have D_Reader___len__ : MDef P w K mg base C cv 1 "__len__" 1 m_Reader___len__ := mdef_mk f_Reader___len__ (ok_Reader___len__ G) (fun _ _ _ _ _ _ us hl => match us, hl with | [_], _ => rfl)
  have D_Reader_simplest : MDef P w K mg base C cv 3 "simplest" 1 m_Reader_simplest := mdef_mk f_Reader_simplest (ok_Reader_simplest G D_simplest_of D_lowest) (fun _ _ _ _ _ _ us hl => match us, hl with | [_], _ => rfl)
  have D_Reader_shortest : MDef P w K mg base C cv 4 "shortest" 1 m_Reader_shortest := mdef_mk f_Reader_shortest (ok_Reader_shortest G D_least_of D_ends_of) (fun _ _ _ _ _ _ us hl => match us, hl with | [_], _ => rfl)
  have D__law_reader : Def P w K mg base C cv 10 "_law_reader" 0 m__law_reader := def_mk f__law_reader X Gn (ok__law_reader G D_Reader___init__ D__law_asked D_Reader_undo D__law_error D_Reader_span D_Reader___len__ D_Reader_simplest D_Reader_shortest D_Reader_tell D_shortest D_simplest) (fun _ _ _ _ _ _ us hl => match us, hl with | [], _ => rfl)
  have D__law_units_asked : Def P w K mg base C cv 11 "_law_units_asked" 1 m__law_units_asked := def_mk f__law_units_asked X Gn (ok__law_units_asked G D__law_asked D__law_steps D__law_reader) (fun _ _ _ _ _ _ us hl => match us, hl with | [_], _ => rfl)
  exact ok_law G D__law_start D_is_range D__law_asked D__law_draw D__law_units_asked
end K14
end
section
namespace Pu
open PySem Zz Mir
section
variable {α β : Type} {env : En} {S S' : Sto} {a b c : EM} {t u : En → M Bool} {am : AM} {sa sb : SM}
theorem p_bind_ok {f : α → M β} {x : M α} {v : α} (h : x S = .ok v S') : M.bind x f S = f v S' := by unfold M.bind; rw [h]
def bnR (r : R α) (f : α → M β) : R β := match r with | .ok a S' => f a S' | .exn c S' => .exn c S' | .bad => .bad
theorem p_bind (x : M α) (f : α → M β) : M.bind x f S = bnR (x S) f := rfl
theorem b_ok (a : α) (f : α → M β) : bnR (.ok a S) f = f a S := rfl
theorem b_exn (c : Nat) (f : α → M β) : bnR (.exn c S) f = .exn c S := rfl
theorem b_bad (f : α → M β) : bnR .bad f = .bad := rfl
theorem b_ite (p : Prop) [Decidable p] (x y : R α) (f : α → M β) : bnR (if p then x else y) f = if p then bnR x f else bnR y f := by split <;> rfl
def sbn (r : R α) (k : α → SM) (env : En) : SR := match r with | .ok a S' => k a env S' | .exn c S' => .exn c env S' | .bad => .bad
theorem s_ok (a : α) (k : α → SM) : sbn (.ok a S) k env = k a env S := rfl
theorem s_exn (c : Nat) (k : α → SM) : sbn (.exn c S) k env = .exn c env S := rfl
theorem s_bad (k : α → SM) : sbn .bad k env = .bad := rfl
theorem s_ite (p : Prop) [Decidable p] (x y : R α) (k : α → SM) : sbn (if p then x else y) k env = if p then sbn x k env else sbn y k env := by split <;> rfl
def sqr (r : SR) (b : SM) : SR := match r with | .nx e S' => b e S' | .rt w S' => .rt w S' | .bk e S' => .bk e S' | .ct e S' => .ct e S' | .exn c e S' => .exn c e S' | .bad => .bad
theorem q_nx (b : SM) : sqr (.nx env S) b = b env S := rfl
theorem q_rt (w : W) (b : SM) : sqr (.rt w S) b = .rt w S := rfl
theorem q_exn (c : Nat) (b : SM) : sqr (.exn c env S) b = .exn c env S := rfl
theorem q_bad (b : SM) : sqr .bad b = .bad := rfl
theorem q_ite (p : Prop) [Decidable p] (x y : SR) (b : SM) : sqr (if p then x else y) b = if p then sqr x b else sqr y b := by split <;> rfl
def fin (r : SR) : R W := match r with | .nx _ S' => .ok .non S' | .rt w S' => .ok w S' | .exn c _ S' => .exn c S' | _ => .bad
theorem f_nx : fin (.nx env S) = .ok .non S := rfl
theorem f_rt (w : W) : fin (.rt w S) = .ok w S := rfl
theorem f_exn (c : Nat) : fin (.exn c env S) = .exn c S := rfl
theorem f_bad : fin .bad = .bad := rfl
theorem f_ite (p : Prop) [Decidable p] (x y : SR) : fin (if p then x else y) = if p then fin x else fin y := by split <;> rfl
theorem i_ok (p : Prop) [Decidable p] (a b : α) : (if p then R.ok a S else R.ok b S) = R.ok (if p then a else b) S := by split <;> rfl
theorem i_rt (p : Prop) [Decidable p] (a b : W) : (if p then SR.rt a S else SR.rt b S) = SR.rt (if p then a else b) S := by split <;> rfl
theorem i_int (p : Prop) [Decidable p] (a b : Int) : (if p then W.int a else W.int b) = W.int (if p then a else b) := by split <;> rfl
theorem i_bl (p : Prop) [Decidable p] (a b : Bool) : (if p then W.bl a else W.bl b) = W.bl (if p then a else b) := by split <;> rfl
theorem i_tt (c d : Bool) : (if c = true then true else d) = (c || d) := by cases c <;> rfl
theorem i_ff (c d : Bool) : (if c = true then d else false) = (c && d) := by cases c <;> rfl
theorem p_ret (x : α) : M.ret x S = .ok x S := rfl
theorem p_eC (w : W) : eC w env S = .ok w S := rfl
theorem p_eVar (i : Nat) : eVar i env S = (match env[i]? with | some (.val w) => .ok w S | _ => .bad) := rfl
theorem p_eOp (f : W → W → M W) : eOp f a b env S = M.bind (a env) (fun x => M.bind (b env) fun y => f x y) S := rfl
theorem p_eUn (f : W → M W) : eUn f a env S = M.bind (a env) f S := rfl
theorem p_aNil : aNil env S = .ok [] S := rfl
theorem p_aCons : aCons a am env S = M.bind (a env) (fun x => M.bind (am env) fun xs => M.ret (x :: xs)) S := rfl
theorem p_eCall (f : List W → M W) : eCall f am env S = M.bind (am env) f S := rfl
theorem p_isB (x : Bool) : isB (.bl x) S = .ok x S := rfl
theorem p_tV : tV a env S = M.bind (a env) isB S := rfl
theorem p_tNot : Zz.tNot t env S = bnR (t env S) (fun b S => .ok (!b) S) := rfl
theorem p_tAnd : Zz.tAnd t u env S = bnR (t env S) (fun c S => if c = true then u env S else .ok false S) := by
  show M.bind (t env) _ S = _
  rw [p_bind]
  cases t env S with
  | ok c S1 => cases c <;> rfl
  | _ => rfl
theorem p_tOr : Zz.tOr t u env S = bnR (t env S) (fun c S => if c = true then .ok true S else u env S) := by
  show M.bind (t env) _ S = _
  rw [p_bind]
  cases t env S with
  | ok c S1 => cases c <;> rfl
  | _ => rfl
theorem p_eAnd : eAnd a b env S = bnR (a env S) (fun x S => bnR (isB x S) fun c S => if c = true then b env S else .ok (.bl false) S) := by
  show M.bind (a env) _ S = _
  rw [p_bind]
  cases a env S with
  | ok x S1 => cases x with
    | bl c => cases c <;> rfl
    | _ => rfl
  | _ => rfl
theorem p_eOr : eOr a b env S = bnR (a env S) (fun x S => bnR (isB x S) fun c S => if c = true then .ok (.bl true) S else b env S) := by
  show M.bind (a env) _ S = _
  rw [p_bind]
  cases a env S with
  | ok x S1 => cases x with
    | bl c => cases c <;> rfl
    | _ => rfl
  | _ => rfl
theorem p_eNot : eNot a env S = bnR (a env S) (fun x S => bnR (isB x S) fun c S => .ok (.bl (!c)) S) := rfl
theorem p_eIf : eIf t a b env S = bnR (t env S) (fun c S => if c = true then a env S else b env S) := by
  show M.bind (t env) _ S = _
  rw [p_bind]
  cases t env S with
  | ok c S1 => cases c <;> rfl
  | _ => rfl
theorem p_eTup : eTup am env S = M.bind (am env) (fun xs S => if xs.length ≤ 1000 then .ok (.tup xs) S else .bad) S := rfl
theorem p_eLst : eLst am env S = M.bind (am env) (fun xs S => if xs.length ≤ 1000 then .ok (.lst xs) S else .bad) S := rfl
theorem p_eChain (f f' : W → W → M W) : eChain f f' a b c env S = bnR (a env S) (fun x S => bnR (b env S) fun y S => bnR (f x y S) fun z S => bnR (isB z S) fun k S => if k = true then bnR (c env S) (fun u S => f' y u S) else .ok (.bl false) S) := by
  show M.bind (a env) _ S = _
  rw [p_bind]
  cases a env S with
  | ok x S1 =>
    show M.bind (b env) _ S1 = bnR (b env S1) _
    rw [p_bind]
    cases b env S1 with
    | ok y S2 =>
      show M.bind (f x y) _ S2 = bnR (f x y S2) _
      rw [p_bind]
      cases f x y S2 with
      | ok z S3 => cases z with
        | bl k => cases k <;> rfl
        | _ => rfl
      | _ => rfl
    | _ => rfl
  | _ => rfl
theorem p_sBind (m : En → M α) (k : α → SM) : sBind m k env S = sbn (m env S) k env := rfl
theorem p_sSeq : sSeq sa sb env S = sqr (sa env S) sb := by
  unfold sSeq sqr
  cases sa env S <;> rfl
theorem p_sPass : sPass env S = .nx env S := rfl
theorem p_sRet : sRet a env S = sBind a (fun w _ S => .rt w S) env S := rfl
theorem p_sRetN : sRetN env S = .rt .non S := rfl
theorem p_sDrop : sDrop a env S = sBind a (fun _ env S => .nx env S) env S := rfl
theorem p_sSet (i : Nat) : sSet i a env S = sBind a (fun w env S => .nx (env.set i (.val w)) S) env S := rfl
theorem p_sIf : sIf t sa sb env S = sBind t (fun c env S => if c = true then sa env S else sb env S) env S := rfl
theorem p_sRaise (n : Nat) : sRaise n env S = .exn n env S := rfl
theorem p_sAug (i : Nat) (f : W → W → M W) : sAug i f a env S = sBind (eVar i) (fun x => sBind a fun y => sBind (fun _ => f x y) fun z env S => .nx (env.set i (.val z)) S) env S := rfl
theorem p_sUnp (is : List Nat) : sUnp is a env S = sBind a (fun w env S => match bdT is w env with | some e1 => .nx e1 S | none => .bad) env S := rfl
theorem p_sPar (is : List Nat) : sPar is am env S = sBind am (fun ws env S => if ws.length = is.length then .nx ((is.zip ws).foldl (fun e p => e.set p.1 (.val p.2)) env) S else .bad) env S := rfl
theorem p_sFor (bd : Bd) : sFor am bd sb env S = sBind am (fun ws => loopL bd sb ws) env S := rfl
theorem p_loop0 (bd : Bd) : loopL bd sb [] env S = .nx env S := rfl
theorem p_loop1 (bd : Bd) (w : W) (r : List W) : loopL bd sb (w :: r) env S = (match bd w env with
    | none => .bad
    | some env1 => match sb env1 S with
      | .nx e S' => loopL bd sb r e S'
      | .ct e S' => loopL bd sb r e S'
      | .bk e S' => .nx e S'
      | .rt w S' => .rt w S'
      | .exn c e S' => .exn c e S'
      | .bad => .bad) := rfl
def lpR (r : SR) (bd : Bd) (sb : SM) (ws : List W) : SR := match r with
  | .nx e S' => loopL bd sb ws e S'
  | .ct e S' => loopL bd sb ws e S'
  | .bk e S' => .nx e S'
  | .rt w S' => .rt w S'
  | .exn c e S' => .exn c e S'
  | .bad => .bad
theorem l_nx (bd : Bd) (r : List W) : lpR (.nx env S) bd sb r = loopL bd sb r env S := rfl
theorem l_rt (bd : Bd) (r : List W) (w : W) : lpR (.rt w S) bd sb r = .rt w S := rfl
theorem l_ite (p : Prop) [Decidable p] (x y : SR) (bd : Bd) (r : List W) : lpR (if p then x else y) bd sb r = if p then lpR x bd sb r else lpR y bd sb r := by split <;> rfl
theorem p_loopN (i : Nat) (w : W) (r : List W) : loopL (bdN i) sb (w :: r) env S = lpR (sb (env.set i (.val w)) S) (bdN i) sb r := rfl
theorem loop_inv {bd : Bd} {body : SM} (P : Nat → En → Sto → Prop) : ∀ (ws : List W) (k : Nat) (env : En) (S : Sto), (∀ (i : Nat) (w : W) (env : En) (S : Sto), ws[i]? = some w → P (k + i) env S → ∃ env1 env' S', bd w env = some env1 ∧ body env1 S = .nx env' S' ∧ P (k + i + 1) env' S') → P k env S →
    ∃ env' S', loopL bd body ws env S = .nx env' S' ∧ P (k + ws.length) env' S'
  | [], k, env, S, _, h0 => ⟨env, S, rfl, h0⟩
  | w :: r, k, env, S, h, h0 => by
    obtain ⟨env1, env', S', h1, h2, h3⟩ := h 0 w env S rfl h0
    obtain ⟨e2, S2, h4, h5⟩ := loop_inv P r (k + 1) env' S' (fun i w env S hw hp => by
      have := h (i + 1) w env S hw (by rw [show k + (i + 1) = k + 1 + i by omega]; exact hp)
      rw [show k + (i + 1) + 1 = k + 1 + i + 1 by omega] at this
      exact this) h3
    refine ⟨e2, S2, ?_, by rw [List.length_cons, show k + (r.length + 1) = k + 1 + r.length by omega]; exact h5⟩
    rw [p_loop1, h1]
    simp only [h2]
    exact h4
theorem p_while (n : Nat) : loopW t sb (n + 1) env S = (match t env S with
    | .ok true S1 => match sb env S1 with
      | .nx e S' => loopW t sb n e S'
      | .ct e S' => loopW t sb n e S'
      | .bk e S' => .nx e S'
      | .rt w S' => .rt w S'
      | .exn c e S' => .exn c e S'
      | .bad => .bad
    | .ok false S1 => .nx env S1
    | .exn c S1 => .exn c env S1
    | .bad => .bad) := rfl
theorem p_bdN (i : Nat) (w : W) : bdN i w env = some (env.set i (.val w)) := rfl
theorem p_bdT (is : List Nat) (ws : List W) : bdT is (.tup ws) env = if ws.length = is.length then some ((is.zip ws).foldl (fun e p => e.set p.1 (.val p.2)) env) else none := rfl
theorem p_body (N n : Nat) (ws : List W) : bodyM N n sa ws S = fin (sa (ws.map .val ++ List.replicate (N - n) .no) S) := by
  unfold bodyM fin
  cases sa (ws.map .val ++ List.replicate (N - n) .no) S <;> rfl
theorem p_add (i j : Int) : opAdd (.int i) (.int j) S = .ok (.int (i + j)) S := rfl
theorem p_addS (i j : Str) : opAdd (.str i) (.str j) S = if i.length + j.length ≤ 1000 then .ok (.str (i ++ j)) S else .bad := rfl
theorem p_addT (xs ys : List W) : opAdd (.tup xs) (.tup ys) S = if 0 < xs.length ∧ xs.length + ys.length ≤ 1000 then .ok (.tup (xs ++ ys)) S else .bad := rfl
theorem p_addL (xs ys : List W) : opAdd (.lst xs) (.lst ys) S = if xs.length + ys.length ≤ 1000000 then .ok (.lst (xs ++ ys)) S else .bad := rfl
theorem p_addI (i j : Int) : opAddI (.int i) (.int j) S = .ok (.int (i + j)) S := rfl
theorem p_sub (i j : Int) : opSub (.int i) (.int j) S = .ok (.int (i - j)) S := rfl
theorem p_mul (i j : Int) : opMul (.int i) (.int j) S = if gMul i j then .ok (.int (i * j)) S else .bad := rfl
theorem p_mulI (i j : Int) : opMulI (.int i) (.int j) S = if s64 i ∨ s64 j then .ok (.int (i * j)) S else .bad := rfl
theorem p_mulS (x : Str) (n : Int) : opMul (.str x) (.int n) S = if x.length ≤ 10 ∧ -(2 ^ 62) < n ∧ n ≤ 1000 then .ok (.str (strMul x n)) S else .bad := rfl
theorem p_fdiv (i j : Int) : opFdiv (.int i) (.int j) S = if 0 < j ∧ sml j then .ok (.int (i / j)) S else .bad := rfl
theorem p_mod (i j : Int) : opMod (.int i) (.int j) S = if 0 < j then .ok (.int (i % j)) S else .bad := rfl
theorem p_pow (i j : Int) : opPow (.int i) (.int j) S = if 0 ≤ j ∧ j ≤ 1000 ∧ i.natAbs < 2 ^ 64 then .ok (.int (i ^ j.toNat)) S else .bad := rfl
theorem p_lt (i j : Int) : opLt (.int i) (.int j) S = .ok (.bl (decide (i < j))) S := rfl
theorem p_le (i j : Int) : opLe (.int i) (.int j) S = .ok (.bl (decide (i ≤ j))) S := rfl
theorem p_gt (i j : Int) : opGt (.int i) (.int j) S = .ok (.bl (decide (j < i))) S := rfl
theorem p_ge (i j : Int) : opGe (.int i) (.int j) S = .ok (.bl (decide (j ≤ i))) S := rfl
theorem p_isN (x : W) : opIs x .non S = .ok (.bl (Zz.isNon x)) S := by cases x <;> rfl
theorem p_isB2 (x y : Bool) : opIs (.bl x) (.bl y) S = .ok (.bl (decide (x = y))) S := rfl
theorem p_isnN (x : W) : opIsn x .non S = .ok (.bl (!Zz.isNon x)) S := by cases x <;> rfl
theorem p_isnB2 (x y : Bool) : opIsn (.bl x) (.bl y) S = .ok (.bl (!decide (x = y))) S := rfl
theorem p_neg (i : Int) : opNeg (.int i) S = .ok (.int (-i)) S := rfl
theorem p_ixT (xs : List W) (i : Int) : opIx (.tup xs) (.int i) S = ofOpt (L2.atI xs i) S := rfl
theorem p_ixL (xs : List W) (i : Int) : opIx (.lst xs) (.int i) S = ofOpt (L2.atI xs i) S := rfl
theorem p_ixO (k : Nat) (i : Int) : opIx (.obj k) (.int i) S = (match S[k]? with | some (.lst xs) => ofOpt (L2.atI xs i) S | _ => .bad) := rfl
theorem p_ofS (w : W) : ofOpt (some w) S = .ok w S := rfl
theorem p_abs (i : Int) : cAbs [.int i] S = .ok (.int (if i < 0 then -i else i)) S := rfl
theorem p_max2 (i j : Int) : cMax2 [.int i, .int j] S = .ok (.int (if j > i then j else i)) S := rfl
theorem p_lenT (xs : List W) : cLen [.tup xs] S = .ok (.int xs.length) S := rfl
theorem p_lenL (xs : List W) : cLen [.lst xs] S = .ok (.int xs.length) S := rfl
theorem p_lenO (k : Nat) : cLen [.obj k] S = (match S[k]? with | some (.lst xs) => .ok (.int xs.length) S | _ => .bad) := rfl
theorem p_eq (x y : W) : opEq x y S = if (sh 8 x && sh 8 y) = true then .ok (.bl (PyData.eqv (dat x) (dat y))) S else .bad := rfl
theorem p_ne (x y : W) : opNe x y S = if (sh 8 x && sh 8 y) = true then .ok (.bl (!PyData.eqv (dat x) (dat y))) S else .bad := rfl
theorem p_isI (T : String) (x : W) : isI T x S = (match tyN x with | none => .bad | some t => match L2.kitB t T with | some b => .ok (.bl b) S | none => .bad) := rfl
theorem p_iLst : iLst a env S = M.bind (a env) (fun w S => match w with | .lst ws => .ok ws S | _ => .bad) S := rfl
theorem p_iTup : Zz.iTup a env S = M.bind (a env) (fun w S => match w with | .tup ws => .ok ws S | _ => .bad) S := rfl
theorem p_iRg1 : iRg1 a env S = M.bind (a env) (fun w S => match w with | .int j => if smI j then .ok (rgW 0 j.toNat) S else .bad | _ => .bad) S := rfl
theorem p_iRg2 : iRg2 a b env S = M.bind (a env) (fun x => M.bind (b env) fun y S => match x, y with | .int i, .int j => if smI i ∧ smI j then .ok (rgW i (j - i).toNat) S else .bad | _, _ => .bad) S := rfl
theorem p_eNewS : eNewS am env S = M.bind (am env) (fun ws S => if ws.length ≤ 1000 then .ok (.obj S.length) (S ++ [.lst ws]) else .bad) S := rfl
theorem p_eComp (bd : Bd) (is : List Nat) : eComp am bd is t b env S = M.bind (am env) (fun ws S => if noOwn is env = true then
    match compL bd t b (kill is env) ws [] S with
    | .ok ys S' => .ok (.lst ys) S'
    | _ => .bad
  else .bad) S := rfl
theorem p_inB (x : W) (ys : List W) : opInB x (.tup ys) S = if (flatW x && ys.all flatW) = true then .ok (isin x ys) S else .bad := rfl
theorem p_in (x y : W) : opIn x y S = M.bind (opInB x y) (fun b => M.ret (.bl b)) S := rfl
theorem p_nin (x y : W) : opNin x y S = M.bind (opInB x y) (fun b => M.ret (.bl (!b))) S := rfl
theorem p_sSto : sSto c b a env S = sBind a (fun w => sBind c fun x => sBind b fun y env S => match x, y with
  | .obj n, .int j => match S[n]? with
    | some (.lst xs) => match L2.ixN xs.length j with
      | some m => .nx env (S.set n (.lst (xs.set m w)))
      | none => .bad
    | _ => .bad
  | _, _ => .bad) env S := rfl
end
end Pu
end
section
namespace Pu
open PySem Zz Mir
theorem at0 {α : Type} (x : α) (r : List α) : L2.atI (x :: r) 0 = some x := L2.atI_nat (j := 0) rfl
theorem at1 {α : Type} (x y : α) (r : List α) : L2.atI (x :: y :: r) 1 = some y := L2.atI_nat (j := 1) rfl
theorem at2 {α : Type} (x y z : α) (r : List α) : L2.atI (x :: y :: z :: r) 2 = some z := L2.atI_nat (j := 2) rfl
theorem at3 {α : Type} (x y z u : α) (r : List α) : L2.atI (x :: y :: z :: u :: r) 3 = some u := L2.atI_nat (j := 3) rfl
theorem cst0 : ((0 : Nat) : Int) = 0 := rfl
theorem cst1 : ((1 : Nat) : Int) = 1 := rfl
theorem cst2 : ((2 : Nat) : Int) = 2 := rfl
theorem cst3 : ((3 : Nat) : Int) = 3 := rfl
theorem cst4 : ((4 : Nat) : Int) = 4 := rfl
theorem cst7 : ((7 : Nat) : Int) = 7 := rfl
theorem cst9 : ((9 : Nat) : Int) = 9 := rfl
theorem ev_int (i j : Int) : PyData.eqv (.int i) (.int j) = (i == j) := by simp only [PyData.eqv]
theorem ev_str (i j : Str) : PyData.eqv (.str i) (.str j) = (i == j) := by simp only [PyData.eqv]
theorem ev_bl (i j : Bool) : PyData.eqv (.bool i) (.bool j) = (i == j) := by simp only [PyData.eqv]
theorem ev_tup (i j : List PyData) : PyData.eqv (.tuple i) (.tuple j) = PyData.eqvAll i j := by simp only [PyData.eqv]
theorem ev_lst (i j : List PyData) : PyData.eqv (.list i) (.list j) = PyData.eqvAll i j := by simp only [PyData.eqv]
theorem ev_nil : PyData.eqvAll [] [] = true := by simp only [PyData.eqvAll]
theorem ev_cons (x y : PyData) (r s : List PyData) : PyData.eqvAll (x :: r) (y :: s) = (PyData.eqv x y && PyData.eqvAll r s) := by simp only [PyData.eqvAll]
theorem ev_nc (y : PyData) (s : List PyData) : PyData.eqvAll [] (y :: s) = false := by simp only [PyData.eqvAll]
theorem ev_cn (y : PyData) (s : List PyData) : PyData.eqvAll (y :: s) [] = false := by simp only [PyData.eqvAll]
theorem ev_nn : PyData.eqv .none .none = true := by simp only [PyData.eqv]
theorem ev_ni (i : Int) : PyData.eqv .none (.int i) = false := by simp only [PyData.eqv]
theorem ev_in (i : Int) : PyData.eqv (.int i) .none = false := by simp only [PyData.eqv]

/-! ### small laws of the steps -/
theorem step_nx {a b : SM} {env env1 : En} {S S1 : Sto} (h : a env S = .nx env1 S1) : sSeq a b env S = b env1 S1 := by
  unfold sSeq
  rw [h]
theorem step_rt {a b : SM} {env : En} {w : W} {S S1 : Sto} (h : a env S = .rt w S1) : sSeq a b env S = .rt w S1 := by
  unfold sSeq
  rw [h]

/-! ### the greatest common divisor -/
theorem gcd_mod {a b : Int} (ha : 0 ≤ a) (hb : 0 < b) : Int.gcd b (a % b) = Int.gcd a b := by
  obtain ⟨m, rfl⟩ := Int.eq_ofNat_of_zero_le ha
  obtain ⟨n, rfl⟩ := Int.eq_ofNat_of_zero_le (Int.le_of_lt hb)
  rw [← Int.natCast_emod, Int.gcd_natCast_natCast, Int.gcd_natCast_natCast, Nat.gcd_comm m n, Nat.gcd_rec n m, Nat.gcd_comm]
theorem u_common (env : En) (S : Sto) : b_common_L0 env S = sPar [0, 1] (aCons (eVar 1) (aCons (eOp opMod (eVar 0) (eVar 1)) aNil)) env S := rfl
theorem u_low (env : En) (S : Sto) : b__law_low_L0 env S = sPar [2, 3] (aCons (eVar 3) (aCons (eOp opMod (eVar 2) (eVar 3)) aNil)) env S := rfl
theorem gcd_loop (m : Nat) : ∀ (n : Nat) (a b : Int), 0 ≤ a → 0 ≤ b → b.toNat ≤ m → m < n → ∀ S, loopW (tV (eOp opNe (eVar 1) (eC (.int 0)))) b_common_L0 n [.val (.int a), .val (.int b)] S =
    .nx [.val (.int (Int.gcd a b)), .val (.int 0)] S := by
  induction m with
  | zero =>
    intro n a b ha hb hm hn S
    have h0 : b = 0 := by omega
    subst h0
    obtain ⟨k, rfl⟩ : ∃ k, n = k + 1 := ⟨n - 1, by omega⟩
    simp only [p_while, p_bind, b_ok, b_exn, b_bad, b_ite, s_ok, s_exn, s_bad, s_ite, q_nx, q_rt, q_exn, q_bad, q_ite, f_nx, f_rt, f_exn, f_bad, f_ite, i_ok, i_rt, i_int, i_bl, i_tt, i_ff, p_ret, p_eC, p_eVar, p_eOp, p_eUn, p_aNil, p_aCons, p_eCall, p_isB, p_tV, p_tNot, p_tAnd, p_tOr, p_eAnd, p_eOr, p_eNot, p_eIf, p_eTup, p_eLst, p_eChain, p_sBind, p_sSeq, p_sPass, p_sRet, p_sRetN, p_sDrop, p_sSet, p_sIf, p_sRaise, p_sAug, p_sUnp, p_sPar, p_sFor, p_bdN, p_bdT, p_body, p_add, p_addS, p_addT, p_addL, p_addI, p_sub, p_mul, p_mulI, p_mulS, p_fdiv, p_mod, p_pow, p_lt, p_le, p_gt, p_ge, p_isN, p_isB2, p_isnN, p_isnB2, p_neg, p_ixT, p_ixL, p_ixO, p_ofS, p_abs, p_max2, p_lenT, p_lenL, p_lenO, p_eq, p_ne, p_isI, p_iLst, p_iTup, p_iRg1, p_iRg2, p_eNewS, p_eComp, p_inB, p_in, p_nin, p_sSto, List.map_cons, List.map_nil, List.cons_append, List.nil_append, List.append_nil, List.set_cons_zero, List.set_cons_succ, List.getElem?_cons_zero, List.getElem?_cons_succ, List.getElem?_nil, List.length_cons, List.length_nil, List.zip_cons_cons, List.zip_nil_left, List.zip_nil_right, List.foldl_cons, List.foldl_nil, List.replicate, Nat.sub_self, Nat.reduceSub, Nat.reduceAdd, Nat.reduceLeDiff, Nat.reduceLT, Nat.zero_add, Int.reduceLT, Int.reduceLE, Int.reduceNeg, Int.reduceSub, Int.reduceAdd, Int.reduceMul, Int.reduceBEq, Bool.or_true, Bool.true_or, Bool.or_false, Bool.false_or, if_true, if_false, ite_true, ite_false, reduceIte, Bool.not_true, Bool.not_false, Bool.true_and, Bool.and_true, Bool.false_and, Bool.and_false, decide_true, decide_false, Bool.false_eq_true, eq_self, reduceCtorEq, true_and, and_true, and_self, sh, shs, dat, dats, ev_int, ev_str, ev_bl, ev_tup, ev_lst, ev_nil, ev_cons, ev_nc, ev_cn, ev_nn, ev_ni, ev_in, at0, at1, at2, at3, cst0, cst1, cst2, cst3, cst4, cst7, cst9]
    simp
    omega
  | succ m ih =>
    intro n a b ha hb hm hn S
    obtain ⟨k, rfl⟩ : ∃ k, n = k + 1 := ⟨n - 1, by omega⟩
    by_cases h0 : b = 0
    · subst h0
      simp only [p_while, p_bind, b_ok, b_exn, b_bad, b_ite, s_ok, s_exn, s_bad, s_ite, q_nx, q_rt, q_exn, q_bad, q_ite, f_nx, f_rt, f_exn, f_bad, f_ite, i_ok, i_rt, i_int, i_bl, i_tt, i_ff, p_ret, p_eC, p_eVar, p_eOp, p_eUn, p_aNil, p_aCons, p_eCall, p_isB, p_tV, p_tNot, p_tAnd, p_tOr, p_eAnd, p_eOr, p_eNot, p_eIf, p_eTup, p_eLst, p_eChain, p_sBind, p_sSeq, p_sPass, p_sRet, p_sRetN, p_sDrop, p_sSet, p_sIf, p_sRaise, p_sAug, p_sUnp, p_sPar, p_sFor, p_bdN, p_bdT, p_body, p_add, p_addS, p_addT, p_addL, p_addI, p_sub, p_mul, p_mulI, p_mulS, p_fdiv, p_mod, p_pow, p_lt, p_le, p_gt, p_ge, p_isN, p_isB2, p_isnN, p_isnB2, p_neg, p_ixT, p_ixL, p_ixO, p_ofS, p_abs, p_max2, p_lenT, p_lenL, p_lenO, p_eq, p_ne, p_isI, p_iLst, p_iTup, p_iRg1, p_iRg2, p_eNewS, p_eComp, p_inB, p_in, p_nin, p_sSto, List.map_cons, List.map_nil, List.cons_append, List.nil_append, List.append_nil, List.set_cons_zero, List.set_cons_succ, List.getElem?_cons_zero, List.getElem?_cons_succ, List.getElem?_nil, List.length_cons, List.length_nil, List.zip_cons_cons, List.zip_nil_left, List.zip_nil_right, List.foldl_cons, List.foldl_nil, List.replicate, Nat.sub_self, Nat.reduceSub, Nat.reduceAdd, Nat.reduceLeDiff, Nat.reduceLT, Nat.zero_add, Int.reduceLT, Int.reduceLE, Int.reduceNeg, Int.reduceSub, Int.reduceAdd, Int.reduceMul, Int.reduceBEq, Bool.or_true, Bool.true_or, Bool.or_false, Bool.false_or, if_true, if_false, ite_true, ite_false, reduceIte, Bool.not_true, Bool.not_false, Bool.true_and, Bool.and_true, Bool.false_and, Bool.and_false, decide_true, decide_false, Bool.false_eq_true, eq_self, reduceCtorEq, true_and, and_true, and_self, sh, shs, dat, dats, ev_int, ev_str, ev_bl, ev_tup, ev_lst, ev_nil, ev_cons, ev_nc, ev_cn, ev_nn, ev_ni, ev_in, at0, at1, at2, at3, cst0, cst1, cst2, cst3, cst4, cst7, cst9]
      simp
      omega
    · have hb1 : 0 < b := by omega
      have hne : (b == 0) = false := by simp [h0]
      simp only [p_while, p_bind, b_ok, b_exn, b_bad, b_ite, s_ok, s_exn, s_bad, s_ite, q_nx, q_rt, q_exn, q_bad, q_ite, f_nx, f_rt, f_exn, f_bad, f_ite, i_ok, i_rt, i_int, i_bl, i_tt, i_ff, p_ret, p_eC, p_eVar, p_eOp, p_eUn, p_aNil, p_aCons, p_eCall, p_isB, p_tV, p_tNot, p_tAnd, p_tOr, p_eAnd, p_eOr, p_eNot, p_eIf, p_eTup, p_eLst, p_eChain, p_sBind, p_sSeq, p_sPass, p_sRet, p_sRetN, p_sDrop, p_sSet, p_sIf, p_sRaise, p_sAug, p_sUnp, p_sPar, p_sFor, p_bdN, p_bdT, p_body, p_add, p_addS, p_addT, p_addL, p_addI, p_sub, p_mul, p_mulI, p_mulS, p_fdiv, p_mod, p_pow, p_lt, p_le, p_gt, p_ge, p_isN, p_isB2, p_isnN, p_isnB2, p_neg, p_ixT, p_ixL, p_ixO, p_ofS, p_abs, p_max2, p_lenT, p_lenL, p_lenO, p_eq, p_ne, p_isI, p_iLst, p_iTup, p_iRg1, p_iRg2, p_eNewS, p_eComp, p_inB, p_in, p_nin, p_sSto, List.map_cons, List.map_nil, List.cons_append, List.nil_append, List.append_nil, List.set_cons_zero, List.set_cons_succ, List.getElem?_cons_zero, List.getElem?_cons_succ, List.getElem?_nil, List.length_cons, List.length_nil, List.zip_cons_cons, List.zip_nil_left, List.zip_nil_right, List.foldl_cons, List.foldl_nil, List.replicate, Nat.sub_self, Nat.reduceSub, Nat.reduceAdd, Nat.reduceLeDiff, Nat.reduceLT, Nat.zero_add, Int.reduceLT, Int.reduceLE, Int.reduceNeg, Int.reduceSub, Int.reduceAdd, Int.reduceMul, Int.reduceBEq, Bool.or_true, Bool.true_or, Bool.or_false, Bool.false_or, if_true, if_false, ite_true, ite_false, reduceIte, Bool.not_true, Bool.not_false, Bool.true_and, Bool.and_true, Bool.false_and, Bool.and_false, decide_true, decide_false, Bool.false_eq_true, eq_self, reduceCtorEq, true_and, and_true, and_self, sh, shs, dat, dats, ev_int, ev_str, ev_bl, ev_tup, ev_lst, ev_nil, ev_cons, ev_nc, ev_cn, ev_nn, ev_ni, ev_in, at0, at1, at2, at3, cst0, cst1, cst2, cst3, cst4, cst7, cst9, hne, hb1, u_common, u_low]
      have h1 := Int.emod_nonneg a h0
      have h2 := Int.emod_lt_of_pos a hb1
      rw [ih k b (a % b) hb h1 (by omega) (by omega) S]
      rw [gcd_mod ha hb1]
theorem gcd_loop2 (m : Nat) : ∀ (n : Nat) (a b : Int) (x y : Sl), 0 ≤ a → 0 ≤ b → b.toNat ≤ m → m < n → ∀ S, loopW (tV (eOp opNe (eVar 3) (eC (.int 0)))) b__law_low_L0 n [x, y, .val (.int a), .val (.int b)] S =
    .nx [x, y, .val (.int (Int.gcd a b)), .val (.int 0)] S := by
  induction m with
  | zero =>
    intro n a b x y ha hb hm hn S
    have h0 : b = 0 := by omega
    subst h0
    obtain ⟨k, rfl⟩ : ∃ k, n = k + 1 := ⟨n - 1, by omega⟩
    simp only [p_while, p_bind, b_ok, b_exn, b_bad, b_ite, s_ok, s_exn, s_bad, s_ite, q_nx, q_rt, q_exn, q_bad, q_ite, f_nx, f_rt, f_exn, f_bad, f_ite, i_ok, i_rt, i_int, i_bl, i_tt, i_ff, p_ret, p_eC, p_eVar, p_eOp, p_eUn, p_aNil, p_aCons, p_eCall, p_isB, p_tV, p_tNot, p_tAnd, p_tOr, p_eAnd, p_eOr, p_eNot, p_eIf, p_eTup, p_eLst, p_eChain, p_sBind, p_sSeq, p_sPass, p_sRet, p_sRetN, p_sDrop, p_sSet, p_sIf, p_sRaise, p_sAug, p_sUnp, p_sPar, p_sFor, p_bdN, p_bdT, p_body, p_add, p_addS, p_addT, p_addL, p_addI, p_sub, p_mul, p_mulI, p_mulS, p_fdiv, p_mod, p_pow, p_lt, p_le, p_gt, p_ge, p_isN, p_isB2, p_isnN, p_isnB2, p_neg, p_ixT, p_ixL, p_ixO, p_ofS, p_abs, p_max2, p_lenT, p_lenL, p_lenO, p_eq, p_ne, p_isI, p_iLst, p_iTup, p_iRg1, p_iRg2, p_eNewS, p_eComp, p_inB, p_in, p_nin, p_sSto, List.map_cons, List.map_nil, List.cons_append, List.nil_append, List.append_nil, List.set_cons_zero, List.set_cons_succ, List.getElem?_cons_zero, List.getElem?_cons_succ, List.getElem?_nil, List.length_cons, List.length_nil, List.zip_cons_cons, List.zip_nil_left, List.zip_nil_right, List.foldl_cons, List.foldl_nil, List.replicate, Nat.sub_self, Nat.reduceSub, Nat.reduceAdd, Nat.reduceLeDiff, Nat.reduceLT, Nat.zero_add, Int.reduceLT, Int.reduceLE, Int.reduceNeg, Int.reduceSub, Int.reduceAdd, Int.reduceMul, Int.reduceBEq, Bool.or_true, Bool.true_or, Bool.or_false, Bool.false_or, if_true, if_false, ite_true, ite_false, reduceIte, Bool.not_true, Bool.not_false, Bool.true_and, Bool.and_true, Bool.false_and, Bool.and_false, decide_true, decide_false, Bool.false_eq_true, eq_self, reduceCtorEq, true_and, and_true, and_self, sh, shs, dat, dats, ev_int, ev_str, ev_bl, ev_tup, ev_lst, ev_nil, ev_cons, ev_nc, ev_cn, ev_nn, ev_ni, ev_in, at0, at1, at2, at3, cst0, cst1, cst2, cst3, cst4, cst7, cst9]
    simp
    omega
  | succ m ih =>
    intro n a b x y ha hb hm hn S
    obtain ⟨k, rfl⟩ : ∃ k, n = k + 1 := ⟨n - 1, by omega⟩
    by_cases h0 : b = 0
    · subst h0
      simp only [p_while, p_bind, b_ok, b_exn, b_bad, b_ite, s_ok, s_exn, s_bad, s_ite, q_nx, q_rt, q_exn, q_bad, q_ite, f_nx, f_rt, f_exn, f_bad, f_ite, i_ok, i_rt, i_int, i_bl, i_tt, i_ff, p_ret, p_eC, p_eVar, p_eOp, p_eUn, p_aNil, p_aCons, p_eCall, p_isB, p_tV, p_tNot, p_tAnd, p_tOr, p_eAnd, p_eOr, p_eNot, p_eIf, p_eTup, p_eLst, p_eChain, p_sBind, p_sSeq, p_sPass, p_sRet, p_sRetN, p_sDrop, p_sSet, p_sIf, p_sRaise, p_sAug, p_sUnp, p_sPar, p_sFor, p_bdN, p_bdT, p_body, p_add, p_addS, p_addT, p_addL, p_addI, p_sub, p_mul, p_mulI, p_mulS, p_fdiv, p_mod, p_pow, p_lt, p_le, p_gt, p_ge, p_isN, p_isB2, p_isnN, p_isnB2, p_neg, p_ixT, p_ixL, p_ixO, p_ofS, p_abs, p_max2, p_lenT, p_lenL, p_lenO, p_eq, p_ne, p_isI, p_iLst, p_iTup, p_iRg1, p_iRg2, p_eNewS, p_eComp, p_inB, p_in, p_nin, p_sSto, List.map_cons, List.map_nil, List.cons_append, List.nil_append, List.append_nil, List.set_cons_zero, List.set_cons_succ, List.getElem?_cons_zero, List.getElem?_cons_succ, List.getElem?_nil, List.length_cons, List.length_nil, List.zip_cons_cons, List.zip_nil_left, List.zip_nil_right, List.foldl_cons, List.foldl_nil, List.replicate, Nat.sub_self, Nat.reduceSub, Nat.reduceAdd, Nat.reduceLeDiff, Nat.reduceLT, Nat.zero_add, Int.reduceLT, Int.reduceLE, Int.reduceNeg, Int.reduceSub, Int.reduceAdd, Int.reduceMul, Int.reduceBEq, Bool.or_true, Bool.true_or, Bool.or_false, Bool.false_or, if_true, if_false, ite_true, ite_false, reduceIte, Bool.not_true, Bool.not_false, Bool.true_and, Bool.and_true, Bool.false_and, Bool.and_false, decide_true, decide_false, Bool.false_eq_true, eq_self, reduceCtorEq, true_and, and_true, and_self, sh, shs, dat, dats, ev_int, ev_str, ev_bl, ev_tup, ev_lst, ev_nil, ev_cons, ev_nc, ev_cn, ev_nn, ev_ni, ev_in, at0, at1, at2, at3, cst0, cst1, cst2, cst3, cst4, cst7, cst9]
      simp
      omega
    · have hb1 : 0 < b := by omega
      have hne : (b == 0) = false := by simp [h0]
      simp only [p_while, p_bind, b_ok, b_exn, b_bad, b_ite, s_ok, s_exn, s_bad, s_ite, q_nx, q_rt, q_exn, q_bad, q_ite, f_nx, f_rt, f_exn, f_bad, f_ite, i_ok, i_rt, i_int, i_bl, i_tt, i_ff, p_ret, p_eC, p_eVar, p_eOp, p_eUn, p_aNil, p_aCons, p_eCall, p_isB, p_tV, p_tNot, p_tAnd, p_tOr, p_eAnd, p_eOr, p_eNot, p_eIf, p_eTup, p_eLst, p_eChain, p_sBind, p_sSeq, p_sPass, p_sRet, p_sRetN, p_sDrop, p_sSet, p_sIf, p_sRaise, p_sAug, p_sUnp, p_sPar, p_sFor, p_bdN, p_bdT, p_body, p_add, p_addS, p_addT, p_addL, p_addI, p_sub, p_mul, p_mulI, p_mulS, p_fdiv, p_mod, p_pow, p_lt, p_le, p_gt, p_ge, p_isN, p_isB2, p_isnN, p_isnB2, p_neg, p_ixT, p_ixL, p_ixO, p_ofS, p_abs, p_max2, p_lenT, p_lenL, p_lenO, p_eq, p_ne, p_isI, p_iLst, p_iTup, p_iRg1, p_iRg2, p_eNewS, p_eComp, p_inB, p_in, p_nin, p_sSto, List.map_cons, List.map_nil, List.cons_append, List.nil_append, List.append_nil, List.set_cons_zero, List.set_cons_succ, List.getElem?_cons_zero, List.getElem?_cons_succ, List.getElem?_nil, List.length_cons, List.length_nil, List.zip_cons_cons, List.zip_nil_left, List.zip_nil_right, List.foldl_cons, List.foldl_nil, List.replicate, Nat.sub_self, Nat.reduceSub, Nat.reduceAdd, Nat.reduceLeDiff, Nat.reduceLT, Nat.zero_add, Int.reduceLT, Int.reduceLE, Int.reduceNeg, Int.reduceSub, Int.reduceAdd, Int.reduceMul, Int.reduceBEq, Bool.or_true, Bool.true_or, Bool.or_false, Bool.false_or, if_true, if_false, ite_true, ite_false, reduceIte, Bool.not_true, Bool.not_false, Bool.true_and, Bool.and_true, Bool.false_and, Bool.and_false, decide_true, decide_false, Bool.false_eq_true, eq_self, reduceCtorEq, true_and, and_true, and_self, sh, shs, dat, dats, ev_int, ev_str, ev_bl, ev_tup, ev_lst, ev_nil, ev_cons, ev_nc, ev_cn, ev_nn, ev_ni, ev_in, at0, at1, at2, at3, cst0, cst1, cst2, cst3, cst4, cst7, cst9, hne, hb1, u_common, u_low]
      have h1 := Int.emod_nonneg a h0
      have h2 := Int.emod_lt_of_pos a hb1
      rw [ih k b (a % b) x y hb h1 (by omega) (by omega) S]
      rw [gcd_mod ha hb1]
theorem gcd_abs (a b : Int) : Int.gcd (if a < 0 then -a else a) b = Int.gcd a b := by
  by_cases h : a < 0
  · rw [if_pos h, Int.neg_gcd]
  · rw [if_neg h]
theorem fuel_big {b : Int} (h : b < 2 ^ 199) : b.toNat < fuelN := by
  unfold fuelN
  have : (2 : Nat) ^ 200 = 2 * 2 ^ 199 := by decide
  omega
theorem common_eval (a b : Int) (S : Sto) (h0 : 0 ≤ b) (h : b < 2 ^ 199) : m_common [.int a, .int b] S = .ok (.int (Int.gcd a b)) S := by
  have e : (if b < 0 then -b else b) = b := by omega
  simp only [m_common, b_common, p_bind, b_ok, b_exn, b_bad, b_ite, s_ok, s_exn, s_bad, s_ite, q_nx, q_rt, q_exn, q_bad, q_ite, f_nx, f_rt, f_exn, f_bad, f_ite, i_ok, i_rt, i_int, i_bl, i_tt, i_ff, p_ret, p_eC, p_eVar, p_eOp, p_eUn, p_aNil, p_aCons, p_eCall, p_isB, p_tV, p_tNot, p_tAnd, p_tOr, p_eAnd, p_eOr, p_eNot, p_eIf, p_eTup, p_eLst, p_eChain, p_sBind, p_sSeq, p_sPass, p_sRet, p_sRetN, p_sDrop, p_sSet, p_sIf, p_sRaise, p_sAug, p_sUnp, p_sPar, p_sFor, p_bdN, p_bdT, p_body, p_add, p_addS, p_addT, p_addL, p_addI, p_sub, p_mul, p_mulI, p_mulS, p_fdiv, p_mod, p_pow, p_lt, p_le, p_gt, p_ge, p_isN, p_isB2, p_isnN, p_isnB2, p_neg, p_ixT, p_ixL, p_ixO, p_ofS, p_abs, p_max2, p_lenT, p_lenL, p_lenO, p_eq, p_ne, p_isI, p_iLst, p_iTup, p_iRg1, p_iRg2, p_eNewS, p_eComp, p_inB, p_in, p_nin, p_sSto, List.map_cons, List.map_nil, List.cons_append, List.nil_append, List.append_nil, List.set_cons_zero, List.set_cons_succ, List.getElem?_cons_zero, List.getElem?_cons_succ, List.getElem?_nil, List.length_cons, List.length_nil, List.zip_cons_cons, List.zip_nil_left, List.zip_nil_right, List.foldl_cons, List.foldl_nil, List.replicate, Nat.sub_self, Nat.reduceSub, Nat.reduceAdd, Nat.reduceLeDiff, Nat.reduceLT, Nat.zero_add, Int.reduceLT, Int.reduceLE, Int.reduceNeg, Int.reduceSub, Int.reduceAdd, Int.reduceMul, Int.reduceBEq, Bool.or_true, Bool.true_or, Bool.or_false, Bool.false_or, if_true, if_false, ite_true, ite_false, reduceIte, Bool.not_true, Bool.not_false, Bool.true_and, Bool.and_true, Bool.false_and, Bool.and_false, decide_true, decide_false, Bool.false_eq_true, eq_self, reduceCtorEq, true_and, and_true, and_self, sh, shs, dat, dats, ev_int, ev_str, ev_bl, ev_tup, ev_lst, ev_nil, ev_cons, ev_nc, ev_cn, ev_nn, ev_ni, ev_in, at0, at1, at2, at3, cst0, cst1, cst2, cst3, cst4, cst7, cst9, e]
  rw [gcd_loop b.toNat fuelN (if a < 0 then -a else a) b (by omega) h0 (Nat.le_refl _) (fuel_big h)]
  simp only [p_bind, b_ok, b_exn, b_bad, b_ite, s_ok, s_exn, s_bad, s_ite, q_nx, q_rt, q_exn, q_bad, q_ite, f_nx, f_rt, f_exn, f_bad, f_ite, i_ok, i_rt, i_int, i_bl, i_tt, i_ff, p_ret, p_eC, p_eVar, p_eOp, p_eUn, p_aNil, p_aCons, p_eCall, p_isB, p_tV, p_tNot, p_tAnd, p_tOr, p_eAnd, p_eOr, p_eNot, p_eIf, p_eTup, p_eLst, p_eChain, p_sBind, p_sSeq, p_sPass, p_sRet, p_sRetN, p_sDrop, p_sSet, p_sIf, p_sRaise, p_sAug, p_sUnp, p_sPar, p_sFor, p_bdN, p_bdT, p_body, p_add, p_addS, p_addT, p_addL, p_addI, p_sub, p_mul, p_mulI, p_mulS, p_fdiv, p_mod, p_pow, p_lt, p_le, p_gt, p_ge, p_isN, p_isB2, p_isnN, p_isnB2, p_neg, p_ixT, p_ixL, p_ixO, p_ofS, p_abs, p_max2, p_lenT, p_lenL, p_lenO, p_eq, p_ne, p_isI, p_iLst, p_iTup, p_iRg1, p_iRg2, p_eNewS, p_eComp, p_inB, p_in, p_nin, p_sSto, List.map_cons, List.map_nil, List.cons_append, List.nil_append, List.append_nil, List.set_cons_zero, List.set_cons_succ, List.getElem?_cons_zero, List.getElem?_cons_succ, List.getElem?_nil, List.length_cons, List.length_nil, List.zip_cons_cons, List.zip_nil_left, List.zip_nil_right, List.foldl_cons, List.foldl_nil, List.replicate, Nat.sub_self, Nat.reduceSub, Nat.reduceAdd, Nat.reduceLeDiff, Nat.reduceLT, Nat.zero_add, Int.reduceLT, Int.reduceLE, Int.reduceNeg, Int.reduceSub, Int.reduceAdd, Int.reduceMul, Int.reduceBEq, Bool.or_true, Bool.true_or, Bool.or_false, Bool.false_or, if_true, if_false, ite_true, ite_false, reduceIte, Bool.not_true, Bool.not_false, Bool.true_and, Bool.and_true, Bool.false_and, Bool.and_false, decide_true, decide_false, Bool.false_eq_true, eq_self, reduceCtorEq, true_and, and_true, and_self, sh, shs, dat, dats, ev_int, ev_str, ev_bl, ev_tup, ev_lst, ev_nil, ev_cons, ev_nc, ev_cn, ev_nn, ev_ni, ev_in, at0, at1, at2, at3, cst0, cst1, cst2, cst3, cst4, cst7, cst9, gcd_abs]
theorem gcd_pos {a b : Int} (h : 0 < b) : (0 : Int) < (Int.gcd a b : Nat) := by
  have : 0 < Int.gcd a b := Int.gcd_pos_of_ne_zero_right a (by omega)
  omega
theorem gcd_le {a b : Int} (h : 0 < b) : ((Int.gcd a b : Nat) : Int) ≤ b := Int.le_of_dvd h (Int.gcd_dvd_right a b)
/-- a fraction in lowest terms -/
def low (a b : Int) : W := .tup [.int (a / (Int.gcd a b : Nat)), .int (b / (Int.gcd a b : Nat))]
theorem sml_of {i : Int} (h0 : 0 ≤ i) (h : i < 2 ^ 199) : sml i := by
  unfold sml bnd
  have : (2 : Int) ^ 400 = 2 ^ 199 * 2 ^ 201 := by decide
  omega
theorem lowest_eval (a b : Int) (S : Sto) (h0 : 0 < b) (h : b < 2 ^ 199) : m_lowest [.int a, .int b] S = .ok (low a b) S := by
  have g1 := gcd_pos (a := a) h0
  have g2 : sml (Int.gcd a b : Nat) := sml_of (by omega) (Int.lt_of_le_of_lt (gcd_le h0) h)
  simp only [m_lowest, b_lowest, p_bind, b_ok, b_exn, b_bad, b_ite, s_ok, s_exn, s_bad, s_ite, q_nx, q_rt, q_exn, q_bad, q_ite, f_nx, f_rt, f_exn, f_bad, f_ite, i_ok, i_rt, i_int, i_bl, i_tt, i_ff, p_ret, p_eC, p_eVar, p_eOp, p_eUn, p_aNil, p_aCons, p_eCall, p_isB, p_tV, p_tNot, p_tAnd, p_tOr, p_eAnd, p_eOr, p_eNot, p_eIf, p_eTup, p_eLst, p_eChain, p_sBind, p_sSeq, p_sPass, p_sRet, p_sRetN, p_sDrop, p_sSet, p_sIf, p_sRaise, p_sAug, p_sUnp, p_sPar, p_sFor, p_bdN, p_bdT, p_body, p_add, p_addS, p_addT, p_addL, p_addI, p_sub, p_mul, p_mulI, p_mulS, p_fdiv, p_mod, p_pow, p_lt, p_le, p_gt, p_ge, p_isN, p_isB2, p_isnN, p_isnB2, p_neg, p_ixT, p_ixL, p_ixO, p_ofS, p_abs, p_max2, p_lenT, p_lenL, p_lenO, p_eq, p_ne, p_isI, p_iLst, p_iTup, p_iRg1, p_iRg2, p_eNewS, p_eComp, p_inB, p_in, p_nin, p_sSto, List.map_cons, List.map_nil, List.cons_append, List.nil_append, List.append_nil, List.set_cons_zero, List.set_cons_succ, List.getElem?_cons_zero, List.getElem?_cons_succ, List.getElem?_nil, List.length_cons, List.length_nil, List.zip_cons_cons, List.zip_nil_left, List.zip_nil_right, List.foldl_cons, List.foldl_nil, List.replicate, Nat.sub_self, Nat.reduceSub, Nat.reduceAdd, Nat.reduceLeDiff, Nat.reduceLT, Nat.zero_add, Int.reduceLT, Int.reduceLE, Int.reduceNeg, Int.reduceSub, Int.reduceAdd, Int.reduceMul, Int.reduceBEq, Bool.or_true, Bool.true_or, Bool.or_false, Bool.false_or, if_true, if_false, ite_true, ite_false, reduceIte, Bool.not_true, Bool.not_false, Bool.true_and, Bool.and_true, Bool.false_and, Bool.and_false, decide_true, decide_false, Bool.false_eq_true, eq_self, reduceCtorEq, true_and, and_true, and_self, sh, shs, dat, dats, ev_int, ev_str, ev_bl, ev_tup, ev_lst, ev_nil, ev_cons, ev_nc, ev_cn, ev_nn, ev_ni, ev_in, at0, at1, at2, at3, cst0, cst1, cst2, cst3, cst4, cst7, cst9, common_eval a b _ (Int.le_of_lt h0) h, g1, g2]
  rfl
theorem low_eval (a b : Int) (S : Sto) (h0 : 0 < b) (h : b < 2 ^ 199) : m__law_low [.int a, .int b] S = .ok (low a b) S := by
  have g1 := gcd_pos (a := a) h0
  have g2 : sml (Int.gcd a b : Nat) := sml_of (by omega) (Int.lt_of_le_of_lt (gcd_le h0) h)
  simp only [m__law_low, b__law_low, p_bind, b_ok, b_exn, b_bad, b_ite, s_ok, s_exn, s_bad, s_ite, q_nx, q_rt, q_exn, q_bad, q_ite, f_nx, f_rt, f_exn, f_bad, f_ite, i_ok, i_rt, i_int, i_bl, i_tt, i_ff, p_ret, p_eC, p_eVar, p_eOp, p_eUn, p_aNil, p_aCons, p_eCall, p_isB, p_tV, p_tNot, p_tAnd, p_tOr, p_eAnd, p_eOr, p_eNot, p_eIf, p_eTup, p_eLst, p_eChain, p_sBind, p_sSeq, p_sPass, p_sRet, p_sRetN, p_sDrop, p_sSet, p_sIf, p_sRaise, p_sAug, p_sUnp, p_sPar, p_sFor, p_bdN, p_bdT, p_body, p_add, p_addS, p_addT, p_addL, p_addI, p_sub, p_mul, p_mulI, p_mulS, p_fdiv, p_mod, p_pow, p_lt, p_le, p_gt, p_ge, p_isN, p_isB2, p_isnN, p_isnB2, p_neg, p_ixT, p_ixL, p_ixO, p_ofS, p_abs, p_max2, p_lenT, p_lenL, p_lenO, p_eq, p_ne, p_isI, p_iLst, p_iTup, p_iRg1, p_iRg2, p_eNewS, p_eComp, p_inB, p_in, p_nin, p_sSto, List.map_cons, List.map_nil, List.cons_append, List.nil_append, List.append_nil, List.set_cons_zero, List.set_cons_succ, List.getElem?_cons_zero, List.getElem?_cons_succ, List.getElem?_nil, List.length_cons, List.length_nil, List.zip_cons_cons, List.zip_nil_left, List.zip_nil_right, List.foldl_cons, List.foldl_nil, List.replicate, Nat.sub_self, Nat.reduceSub, Nat.reduceAdd, Nat.reduceLeDiff, Nat.reduceLT, Nat.zero_add, Int.reduceLT, Int.reduceLE, Int.reduceNeg, Int.reduceSub, Int.reduceAdd, Int.reduceMul, Int.reduceBEq, Bool.or_true, Bool.true_or, Bool.or_false, Bool.false_or, if_true, if_false, ite_true, ite_false, reduceIte, Bool.not_true, Bool.not_false, Bool.true_and, Bool.and_true, Bool.false_and, Bool.and_false, decide_true, decide_false, Bool.false_eq_true, eq_self, reduceCtorEq, true_and, and_true, and_self, sh, shs, dat, dats, ev_int, ev_str, ev_bl, ev_tup, ev_lst, ev_nil, ev_cons, ev_nc, ev_cn, ev_nn, ev_ni, ev_in, at0, at1, at2, at3, cst0, cst1, cst2, cst3, cst4, cst7, cst9]
  rw [gcd_loop2 b.toNat fuelN (if a < 0 then -a else a) b _ _ (by omega) (Int.le_of_lt h0) (Nat.le_refl _) (fuel_big h)]
  simp only [p_bind, b_ok, b_exn, b_bad, b_ite, s_ok, s_exn, s_bad, s_ite, q_nx, q_rt, q_exn, q_bad, q_ite, f_nx, f_rt, f_exn, f_bad, f_ite, i_ok, i_rt, i_int, i_bl, i_tt, i_ff, p_ret, p_eC, p_eVar, p_eOp, p_eUn, p_aNil, p_aCons, p_eCall, p_isB, p_tV, p_tNot, p_tAnd, p_tOr, p_eAnd, p_eOr, p_eNot, p_eIf, p_eTup, p_eLst, p_eChain, p_sBind, p_sSeq, p_sPass, p_sRet, p_sRetN, p_sDrop, p_sSet, p_sIf, p_sRaise, p_sAug, p_sUnp, p_sPar, p_sFor, p_bdN, p_bdT, p_body, p_add, p_addS, p_addT, p_addL, p_addI, p_sub, p_mul, p_mulI, p_mulS, p_fdiv, p_mod, p_pow, p_lt, p_le, p_gt, p_ge, p_isN, p_isB2, p_isnN, p_isnB2, p_neg, p_ixT, p_ixL, p_ixO, p_ofS, p_abs, p_max2, p_lenT, p_lenL, p_lenO, p_eq, p_ne, p_isI, p_iLst, p_iTup, p_iRg1, p_iRg2, p_eNewS, p_eComp, p_inB, p_in, p_nin, p_sSto, List.map_cons, List.map_nil, List.cons_append, List.nil_append, List.append_nil, List.set_cons_zero, List.set_cons_succ, List.getElem?_cons_zero, List.getElem?_cons_succ, List.getElem?_nil, List.length_cons, List.length_nil, List.zip_cons_cons, List.zip_nil_left, List.zip_nil_right, List.foldl_cons, List.foldl_nil, List.replicate, Nat.sub_self, Nat.reduceSub, Nat.reduceAdd, Nat.reduceLeDiff, Nat.reduceLT, Nat.zero_add, Int.reduceLT, Int.reduceLE, Int.reduceNeg, Int.reduceSub, Int.reduceAdd, Int.reduceMul, Int.reduceBEq, Bool.or_true, Bool.true_or, Bool.or_false, Bool.false_or, if_true, if_false, ite_true, ite_false, reduceIte, Bool.not_true, Bool.not_false, Bool.true_and, Bool.and_true, Bool.false_and, Bool.and_false, decide_true, decide_false, Bool.false_eq_true, eq_self, reduceCtorEq, true_and, and_true, and_self, sh, shs, dat, dats, ev_int, ev_str, ev_bl, ev_tup, ev_lst, ev_nil, ev_cons, ev_nc, ev_cn, ev_nn, ev_ni, ev_in, at0, at1, at2, at3, cst0, cst1, cst2, cst3, cst4, cst7, cst9, gcd_abs, g1, g2]
  rfl
theorem minus_eval (a b c d : Int) (S : Sto) (hb : 0 < b) (hd : 0 < d) (h1 : s64 b) (h2 : s64 d) : m_minus [.tup [.int a, .int b], .tup [.int c, .int d]] S = .ok (low (a * d - c * b) (b * d)) S := by
  have k1 : gMul a d := .inr (.inl h2)
  have k2 : gMul c b := .inr (.inl h1)
  have k3 : gMul b d := .inl h1
  have k4 : 0 < b * d := Int.mul_pos hb hd
  have k5 : b * d < 2 ^ 199 := by
    have e1 := h1.2
    have e2 := h2.2
    have : b * d ≤ 2 ^ 64 * 2 ^ 64 := Int.mul_le_mul (by omega) (by omega) (by omega) (by decide)
    have e3 : (2 : Int) ^ 64 * 2 ^ 64 < 2 ^ 199 := by decide
    omega
  simp only [m_minus, b_minus, p_bind, b_ok, b_exn, b_bad, b_ite, s_ok, s_exn, s_bad, s_ite, q_nx, q_rt, q_exn, q_bad, q_ite, f_nx, f_rt, f_exn, f_bad, f_ite, i_ok, i_rt, i_int, i_bl, i_tt, i_ff, p_ret, p_eC, p_eVar, p_eOp, p_eUn, p_aNil, p_aCons, p_eCall, p_isB, p_tV, p_tNot, p_tAnd, p_tOr, p_eAnd, p_eOr, p_eNot, p_eIf, p_eTup, p_eLst, p_eChain, p_sBind, p_sSeq, p_sPass, p_sRet, p_sRetN, p_sDrop, p_sSet, p_sIf, p_sRaise, p_sAug, p_sUnp, p_sPar, p_sFor, p_bdN, p_bdT, p_body, p_add, p_addS, p_addT, p_addL, p_addI, p_sub, p_mul, p_mulI, p_mulS, p_fdiv, p_mod, p_pow, p_lt, p_le, p_gt, p_ge, p_isN, p_isB2, p_isnN, p_isnB2, p_neg, p_ixT, p_ixL, p_ixO, p_ofS, p_abs, p_max2, p_lenT, p_lenL, p_lenO, p_eq, p_ne, p_isI, p_iLst, p_iTup, p_iRg1, p_iRg2, p_eNewS, p_eComp, p_inB, p_in, p_nin, p_sSto, List.map_cons, List.map_nil, List.cons_append, List.nil_append, List.append_nil, List.set_cons_zero, List.set_cons_succ, List.getElem?_cons_zero, List.getElem?_cons_succ, List.getElem?_nil, List.length_cons, List.length_nil, List.zip_cons_cons, List.zip_nil_left, List.zip_nil_right, List.foldl_cons, List.foldl_nil, List.replicate, Nat.sub_self, Nat.reduceSub, Nat.reduceAdd, Nat.reduceLeDiff, Nat.reduceLT, Nat.zero_add, Int.reduceLT, Int.reduceLE, Int.reduceNeg, Int.reduceSub, Int.reduceAdd, Int.reduceMul, Int.reduceBEq, Bool.or_true, Bool.true_or, Bool.or_false, Bool.false_or, if_true, if_false, ite_true, ite_false, reduceIte, Bool.not_true, Bool.not_false, Bool.true_and, Bool.and_true, Bool.false_and, Bool.and_false, decide_true, decide_false, Bool.false_eq_true, eq_self, reduceCtorEq, true_and, and_true, and_self, sh, shs, dat, dats, ev_int, ev_str, ev_bl, ev_tup, ev_lst, ev_nil, ev_cons, ev_nc, ev_cn, ev_nn, ev_ni, ev_in, at0, at1, at2, at3, cst0, cst1, cst2, cst3, cst4, cst7, cst9, k1, k2, k3, lowest_eval _ _ _ k4 k5]
/-! ### powers of ten -/
def pw (d : Int) : Int := 10 ^ d.toNat
theorem power_eval (d : Int) (S : Sto) (h0 : 0 ≤ d) (h : d ≤ 6) : m_power_of [.int d] S = .ok (.int (pw d)) S := by
  have : d = 0 ∨ d = 1 ∨ d = 2 ∨ d = 3 ∨ d = 4 ∨ d = 5 ∨ d = 6 := by omega
  rcases this with rfl | rfl | rfl | rfl | rfl | rfl | rfl <;> rfl
theorem ten_text : ∀ d : Fin 7, PySem.intText? (("1" : Str) ++ strMul "0" (d.val : Int)) = some ((10 : Int) ^ d.val) ∧ (("1" : Str) ++ strMul "0" (d.val : Int)).length ≤ 100 ∧ ("1" : Str).length + (strMul "0" (d.val : Int)).length ≤ 1000 := by decide +kernel
theorem ten_eval (d : Int) (S : Sto) (h0 : 0 ≤ d) (h : d ≤ 6) : m__law_ten [.int d] S = .ok (.int (pw d)) S := by
  obtain ⟨h1, h2, h3⟩ := ten_text ⟨d.toNat, by omega⟩
  have e : (((⟨d.toNat, by omega⟩ : Fin 7).val : Nat) : Int) = d := by show ((d.toNat : Nat) : Int) = d; omega
  rw [e] at h1 h2 h3
  have k1 : ("0" : Str).length ≤ 10 ∧ -(2 ^ 62) < d ∧ d ≤ 1000 := ⟨by decide, by omega, by omega⟩
  simp only [m__law_ten, b__law_ten, p_bind, b_ok, b_exn, b_bad, b_ite, s_ok, s_exn, s_bad, s_ite, q_nx, q_rt, q_exn, q_bad, q_ite, f_nx, f_rt, f_exn, f_bad, f_ite, i_ok, i_rt, i_int, i_bl, i_tt, i_ff, p_ret, p_eC, p_eVar, p_eOp, p_eUn, p_aNil, p_aCons, p_eCall, p_isB, p_tV, p_tNot, p_tAnd, p_tOr, p_eAnd, p_eOr, p_eNot, p_eIf, p_eTup, p_eLst, p_eChain, p_sBind, p_sSeq, p_sPass, p_sRet, p_sRetN, p_sDrop, p_sSet, p_sIf, p_sRaise, p_sAug, p_sUnp, p_sPar, p_sFor, p_bdN, p_bdT, p_body, p_add, p_addS, p_addT, p_addL, p_addI, p_sub, p_mul, p_mulI, p_mulS, p_fdiv, p_mod, p_pow, p_lt, p_le, p_gt, p_ge, p_isN, p_isB2, p_isnN, p_isnB2, p_neg, p_ixT, p_ixL, p_ixO, p_ofS, p_abs, p_max2, p_lenT, p_lenL, p_lenO, p_eq, p_ne, p_isI, p_iLst, p_iTup, p_iRg1, p_iRg2, p_eNewS, p_eComp, p_inB, p_in, p_nin, p_sSto, List.map_cons, List.map_nil, List.cons_append, List.nil_append, List.append_nil, List.set_cons_zero, List.set_cons_succ, List.getElem?_cons_zero, List.getElem?_cons_succ, List.getElem?_nil, List.length_cons, List.length_nil, List.zip_cons_cons, List.zip_nil_left, List.zip_nil_right, List.foldl_cons, List.foldl_nil, List.replicate, Nat.sub_self, Nat.reduceSub, Nat.reduceAdd, Nat.reduceLeDiff, Nat.reduceLT, Nat.zero_add, Int.reduceLT, Int.reduceLE, Int.reduceNeg, Int.reduceSub, Int.reduceAdd, Int.reduceMul, Int.reduceBEq, Bool.or_true, Bool.true_or, Bool.or_false, Bool.false_or, if_true, if_false, ite_true, ite_false, reduceIte, Bool.not_true, Bool.not_false, Bool.true_and, Bool.and_true, Bool.false_and, Bool.and_false, decide_true, decide_false, Bool.false_eq_true, eq_self, reduceCtorEq, true_and, and_true, and_self, sh, shs, dat, dats, ev_int, ev_str, ev_bl, ev_tup, ev_lst, ev_nil, ev_cons, ev_nc, ev_cn, ev_nn, ev_ni, ev_in, at0, at1, at2, at3, cst0, cst1, cst2, cst3, cst4, cst7, cst9, k1, h3, cInt, h1, h2]
  rfl
theorem pw_pos (d : Int) : 0 < pw d := by
  unfold pw
  exact Int.pow_pos (by decide)
theorem pw_le {d : Int} (h : d ≤ 6) : pw d ≤ 1000000 := by
  unfold pw
  have h1 : d.toNat ≤ 6 := by omega
  have : d.toNat = 0 ∨ d.toNat = 1 ∨ d.toNat = 2 ∨ d.toNat = 3 ∨ d.toNat = 4 ∨ d.toNat = 5 ∨ d.toNat = 6 := by omega
  rcases this with e | e | e | e | e | e | e <;> rw [e] <;> decide
end Pu
end
section
namespace Pu
open PySem Zz Mir
theorem kt1 : L2.kitB "int" "int" = some true := by decide +kernel
theorem kt2 : L2.kitB "int" "bool" = some false := by decide +kernel
theorem kt3 : L2.kitB "tuple" "tuple" = some true := by decide +kernel
theorem kt4 : L2.kitB "str" "str" = some true := by decide +kernel
theorem kt5 : L2.kitB "bool" "bool" = some true := by decide +kernel
theorem is_int_eval (v lo hi : Int) (S : Sto) : m_is_int [.int v, .int lo, .int hi] S = .ok (.bl (decide (lo ≤ v) && decide (v ≤ hi))) S := by
  simp only [m_is_int, b_is_int, p_bind, b_ok, b_exn, b_bad, b_ite, s_ok, s_exn, s_bad, s_ite, q_nx, q_rt, q_exn, q_bad, q_ite, f_nx, f_rt, f_exn, f_bad, f_ite, i_ok, i_rt, i_int, i_bl, i_tt, i_ff, p_ret, p_eC, p_eVar, p_eOp, p_eUn, p_aNil, p_aCons, p_eCall, p_isB, p_tV, p_tNot, p_tAnd, p_tOr, p_eAnd, p_eOr, p_eNot, p_eIf, p_eTup, p_eLst, p_eChain, p_sBind, p_sSeq, p_sPass, p_sRet, p_sRetN, p_sDrop, p_sSet, p_sIf, p_sRaise, p_sAug, p_sUnp, p_sPar, p_sFor, p_bdN, p_bdT, p_body, p_add, p_addS, p_addT, p_addL, p_addI, p_sub, p_mul, p_mulI, p_mulS, p_fdiv, p_mod, p_pow, p_lt, p_le, p_gt, p_ge, p_isN, p_isB2, p_isnN, p_isnB2, p_neg, p_ixT, p_ixL, p_ixO, p_ofS, p_abs, p_max2, p_lenT, p_lenL, p_lenO, p_eq, p_ne, p_isI, p_iLst, p_iTup, p_iRg1, p_iRg2, p_eNewS, p_eComp, p_inB, p_in, p_nin, p_sSto, List.map_cons, List.map_nil, List.cons_append, List.nil_append, List.append_nil, List.set_cons_zero, List.set_cons_succ, List.getElem?_cons_zero, List.getElem?_cons_succ, List.getElem?_nil, List.length_cons, List.length_nil, List.zip_cons_cons, List.zip_nil_left, List.zip_nil_right, List.foldl_cons, List.foldl_nil, List.replicate, Nat.sub_self, Nat.reduceSub, Nat.reduceAdd, Nat.reduceLeDiff, Nat.reduceLT, Nat.zero_add, Int.reduceLT, Int.reduceLE, Int.reduceNeg, Int.reduceSub, Int.reduceAdd, Int.reduceMul, Int.reduceBEq, Bool.or_true, Bool.true_or, Bool.or_false, Bool.false_or, if_true, if_false, ite_true, ite_false, reduceIte, Bool.not_true, Bool.not_false, Bool.true_and, Bool.and_true, Bool.false_and, Bool.and_false, decide_true, decide_false, Bool.false_eq_true, eq_self, reduceCtorEq, true_and, and_true, and_self, sh, shs, dat, dats, ev_int, ev_str, ev_bl, ev_tup, ev_lst, ev_nil, ev_cons, ev_nc, ev_cn, ev_nn, ev_ni, ev_in, at0, at1, at2, at3, cst0, cst1, cst2, cst3, cst4, cst7, cst9, tyN, kt1, kt2]
/-- a fraction of the document -/
structure Fr (a b : Int) : Prop where
  b0 : 1 ≤ b
  b1 : b ≤ 60
  lo : -100 * b ≤ a
  hi : a ≤ 100 * b
  g : Int.gcd a b = 1
theorem Fr.s {a b : Int} (h : Fr a b) : s64 b := by have := h.b0; have := h.b1; unfold s64; omega
abbrev fr (a b : Int) : W := .tup [.int a, .int b]
theorem s64c : s64 100 := by decide
theorem is_fraction_eval {a b : Int} (h : Fr a b) (S : Sto) : m_is_fraction [fr a b] S = .ok (.bl true) S := by
  obtain ⟨b0, b1, lo, hi, g⟩ := h
  have k1 : gMul (-100) b := .inl (by decide)
  have k2 : gMul 100 b := .inl (by decide)
  have e1 : decide (1 ≤ b) = true := decide_eq_true b0
  have e2 : decide (b ≤ 60) = true := decide_eq_true b1
  have e3 : decide (-100 * b ≤ a) = true := decide_eq_true lo
  have e4 : decide (a ≤ 100 * b) = true := decide_eq_true hi
  simp only [m_is_fraction, b_is_fraction, p_bind, b_ok, b_exn, b_bad, b_ite, s_ok, s_exn, s_bad, s_ite, q_nx, q_rt, q_exn, q_bad, q_ite, f_nx, f_rt, f_exn, f_bad, f_ite, i_ok, i_rt, i_int, i_bl, i_tt, i_ff, p_ret, p_eC, p_eVar, p_eOp, p_eUn, p_aNil, p_aCons, p_eCall, p_isB, p_tV, p_tNot, p_tAnd, p_tOr, p_eAnd, p_eOr, p_eNot, p_eIf, p_eTup, p_eLst, p_eChain, p_sBind, p_sSeq, p_sPass, p_sRet, p_sRetN, p_sDrop, p_sSet, p_sIf, p_sRaise, p_sAug, p_sUnp, p_sPar, p_sFor, p_bdN, p_bdT, p_body, p_add, p_addS, p_addT, p_addL, p_addI, p_sub, p_mul, p_mulI, p_mulS, p_fdiv, p_mod, p_pow, p_lt, p_le, p_gt, p_ge, p_isN, p_isB2, p_isnN, p_isnB2, p_neg, p_ixT, p_ixL, p_ixO, p_ofS, p_abs, p_max2, p_lenT, p_lenL, p_lenO, p_eq, p_ne, p_isI, p_iLst, p_iTup, p_iRg1, p_iRg2, p_eNewS, p_eComp, p_inB, p_in, p_nin, p_sSto, List.map_cons, List.map_nil, List.cons_append, List.nil_append, List.append_nil, List.set_cons_zero, List.set_cons_succ, List.getElem?_cons_zero, List.getElem?_cons_succ, List.getElem?_nil, List.length_cons, List.length_nil, List.zip_cons_cons, List.zip_nil_left, List.zip_nil_right, List.foldl_cons, List.foldl_nil, List.replicate, Nat.sub_self, Nat.reduceSub, Nat.reduceAdd, Nat.reduceLeDiff, Nat.reduceLT, Nat.zero_add, Int.reduceLT, Int.reduceLE, Int.reduceNeg, Int.reduceSub, Int.reduceAdd, Int.reduceMul, Int.reduceBEq, Bool.or_true, Bool.true_or, Bool.or_false, Bool.false_or, if_true, if_false, ite_true, ite_false, reduceIte, Bool.not_true, Bool.not_false, Bool.true_and, Bool.and_true, Bool.false_and, Bool.and_false, decide_true, decide_false, Bool.false_eq_true, eq_self, reduceCtorEq, true_and, and_true, and_self, sh, shs, dat, dats, ev_int, ev_str, ev_bl, ev_tup, ev_lst, ev_nil, ev_cons, ev_nc, ev_cn, ev_nn, ev_ni, ev_in, at0, at1, at2, at3, cst0, cst1, cst2, cst3, cst4, cst7, cst9, tyN, kt3, is_int_eval, k1, k2, e1, e2, e3, e4, common_eval a b _ (by omega) (by omega : b < 2 ^ 199), g]
theorem check_fraction_eval {a b : Int} (h : Fr a b) (S : Sto) : m_check_fraction [fr a b] S = .ok .non S := by
  simp only [m_check_fraction, b_check_fraction, p_bind, b_ok, b_exn, b_bad, b_ite, s_ok, s_exn, s_bad, s_ite, q_nx, q_rt, q_exn, q_bad, q_ite, f_nx, f_rt, f_exn, f_bad, f_ite, i_ok, i_rt, i_int, i_bl, i_tt, i_ff, p_ret, p_eC, p_eVar, p_eOp, p_eUn, p_aNil, p_aCons, p_eCall, p_isB, p_tV, p_tNot, p_tAnd, p_tOr, p_eAnd, p_eOr, p_eNot, p_eIf, p_eTup, p_eLst, p_eChain, p_sBind, p_sSeq, p_sPass, p_sRet, p_sRetN, p_sDrop, p_sSet, p_sIf, p_sRaise, p_sAug, p_sUnp, p_sPar, p_sFor, p_bdN, p_bdT, p_body, p_add, p_addS, p_addT, p_addL, p_addI, p_sub, p_mul, p_mulI, p_mulS, p_fdiv, p_mod, p_pow, p_lt, p_le, p_gt, p_ge, p_isN, p_isB2, p_isnN, p_isnB2, p_neg, p_ixT, p_ixL, p_ixO, p_ofS, p_abs, p_max2, p_lenT, p_lenL, p_lenO, p_eq, p_ne, p_isI, p_iLst, p_iTup, p_iRg1, p_iRg2, p_eNewS, p_eComp, p_inB, p_in, p_nin, p_sSto, List.map_cons, List.map_nil, List.cons_append, List.nil_append, List.append_nil, List.set_cons_zero, List.set_cons_succ, List.getElem?_cons_zero, List.getElem?_cons_succ, List.getElem?_nil, List.length_cons, List.length_nil, List.zip_cons_cons, List.zip_nil_left, List.zip_nil_right, List.foldl_cons, List.foldl_nil, List.replicate, Nat.sub_self, Nat.reduceSub, Nat.reduceAdd, Nat.reduceLeDiff, Nat.reduceLT, Nat.zero_add, Int.reduceLT, Int.reduceLE, Int.reduceNeg, Int.reduceSub, Int.reduceAdd, Int.reduceMul, Int.reduceBEq, Bool.or_true, Bool.true_or, Bool.or_false, Bool.false_or, if_true, if_false, ite_true, ite_false, reduceIte, Bool.not_true, Bool.not_false, Bool.true_and, Bool.and_true, Bool.false_and, Bool.and_false, decide_true, decide_false, Bool.false_eq_true, eq_self, reduceCtorEq, true_and, and_true, and_self, sh, shs, dat, dats, ev_int, ev_str, ev_bl, ev_tup, ev_lst, ev_nil, ev_cons, ev_nc, ev_cn, ev_nn, ev_ni, ev_in, at0, at1, at2, at3, cst0, cst1, cst2, cst3, cst4, cst7, cst9, is_fraction_eval h]
theorem check_digits_eval {d : Int} (h0 : 0 ≤ d) (h : d ≤ 6) (S : Sto) : m_check_digits [.int d] S = .ok .non S := by
  have e1 : decide (0 ≤ d) = true := decide_eq_true h0
  have e2 : decide (d ≤ 6) = true := decide_eq_true h
  simp only [m_check_digits, b_check_digits, p_bind, b_ok, b_exn, b_bad, b_ite, s_ok, s_exn, s_bad, s_ite, q_nx, q_rt, q_exn, q_bad, q_ite, f_nx, f_rt, f_exn, f_bad, f_ite, i_ok, i_rt, i_int, i_bl, i_tt, i_ff, p_ret, p_eC, p_eVar, p_eOp, p_eUn, p_aNil, p_aCons, p_eCall, p_isB, p_tV, p_tNot, p_tAnd, p_tOr, p_eAnd, p_eOr, p_eNot, p_eIf, p_eTup, p_eLst, p_eChain, p_sBind, p_sSeq, p_sPass, p_sRet, p_sRetN, p_sDrop, p_sSet, p_sIf, p_sRaise, p_sAug, p_sUnp, p_sPar, p_sFor, p_bdN, p_bdT, p_body, p_add, p_addS, p_addT, p_addL, p_addI, p_sub, p_mul, p_mulI, p_mulS, p_fdiv, p_mod, p_pow, p_lt, p_le, p_gt, p_ge, p_isN, p_isB2, p_isnN, p_isnB2, p_neg, p_ixT, p_ixL, p_ixO, p_ofS, p_abs, p_max2, p_lenT, p_lenL, p_lenO, p_eq, p_ne, p_isI, p_iLst, p_iTup, p_iRg1, p_iRg2, p_eNewS, p_eComp, p_inB, p_in, p_nin, p_sSto, List.map_cons, List.map_nil, List.cons_append, List.nil_append, List.append_nil, List.set_cons_zero, List.set_cons_succ, List.getElem?_cons_zero, List.getElem?_cons_succ, List.getElem?_nil, List.length_cons, List.length_nil, List.zip_cons_cons, List.zip_nil_left, List.zip_nil_right, List.foldl_cons, List.foldl_nil, List.replicate, Nat.sub_self, Nat.reduceSub, Nat.reduceAdd, Nat.reduceLeDiff, Nat.reduceLT, Nat.zero_add, Int.reduceLT, Int.reduceLE, Int.reduceNeg, Int.reduceSub, Int.reduceAdd, Int.reduceMul, Int.reduceBEq, Bool.or_true, Bool.true_or, Bool.or_false, Bool.false_or, if_true, if_false, ite_true, ite_false, reduceIte, Bool.not_true, Bool.not_false, Bool.true_and, Bool.and_true, Bool.false_and, Bool.and_false, decide_true, decide_false, Bool.false_eq_true, eq_self, reduceCtorEq, true_and, and_true, and_self, sh, shs, dat, dats, ev_int, ev_str, ev_bl, ev_tup, ev_lst, ev_nil, ev_cons, ev_nc, ev_cn, ev_nn, ev_ni, ev_in, at0, at1, at2, at3, cst0, cst1, cst2, cst3, cst4, cst7, cst9, is_int_eval, e1, e2]
/-! ### rules -/
inductive Ru where
  | down | up | zero | nup | nzero | naway | neven
  deriving DecidableEq
def nm : Ru → Str
  | .down => "down"
  | .up => "up"
  | .zero => "zero"
  | .nup => "near-up"
  | .nzero => "near-zero"
  | .naway => "near-away"
  | .neven => "near-even"
def Ru.all : List Ru := [.down, .up, .zero, .nup, .nzero, .naway, .neven]
theorem nm_ok (r : Ru) : PyData.strOk (nm r) = true := by cases r <;> decide +kernel
theorem nm1 (r : Ru) : (nm r == ("down" : Str)) = decide (r = .down) := by cases r <;> decide +kernel
theorem nm2 (r : Ru) : (nm r == ("up" : Str)) = decide (r = .up) := by cases r <;> decide +kernel
theorem nm3 (r : Ru) : (nm r == ("zero" : Str)) = decide (r = .zero) := by cases r <;> decide +kernel
theorem nm4 (r : Ru) : (nm r == ("near-up" : Str)) = decide (r = .nup) := by cases r <;> decide +kernel
theorem nm5 (r : Ru) : (nm r == ("near-zero" : Str)) = decide (r = .nzero) := by cases r <;> decide +kernel
theorem nm6 (r : Ru) : (nm r == ("near-away" : Str)) = decide (r = .naway) := by cases r <;> decide +kernel
theorem nm7 (r : Ru) : (nm r == ("near-even" : Str)) = decide (r = .neven) := by cases r <;> decide +kernel
theorem so1 : PyData.strOk "down" = true := by decide +kernel
theorem so2 : PyData.strOk "up" = true := by decide +kernel
theorem so3 : PyData.strOk "zero" = true := by decide +kernel
theorem so4 : PyData.strOk "near-up" = true := by decide +kernel
theorem so5 : PyData.strOk "near-zero" = true := by decide +kernel
theorem so6 : PyData.strOk "near-away" = true := by decide +kernel
theorem so7 : PyData.strOk "near-even" = true := by decide +kernel
theorem check_rule_eval (r : Ru) (S : Sto) : m_check_rule [.str (nm r)] S = .ok .non S := by
  cases r <;> simp only [m_check_rule, b_check_rule, p_bind, b_ok, b_exn, b_bad, b_ite, s_ok, s_exn, s_bad, s_ite, q_nx, q_rt, q_exn, q_bad, q_ite, f_nx, f_rt, f_exn, f_bad, f_ite, i_ok, i_rt, i_int, i_bl, i_tt, i_ff, p_ret, p_eC, p_eVar, p_eOp, p_eUn, p_aNil, p_aCons, p_eCall, p_isB, p_tV, p_tNot, p_tAnd, p_tOr, p_eAnd, p_eOr, p_eNot, p_eIf, p_eTup, p_eLst, p_eChain, p_sBind, p_sSeq, p_sPass, p_sRet, p_sRetN, p_sDrop, p_sSet, p_sIf, p_sRaise, p_sAug, p_sUnp, p_sPar, p_sFor, p_bdN, p_bdT, p_body, p_add, p_addS, p_addT, p_addL, p_addI, p_sub, p_mul, p_mulI, p_mulS, p_fdiv, p_mod, p_pow, p_lt, p_le, p_gt, p_ge, p_isN, p_isB2, p_isnN, p_isnB2, p_neg, p_ixT, p_ixL, p_ixO, p_ofS, p_abs, p_max2, p_lenT, p_lenL, p_lenO, p_eq, p_ne, p_isI, p_iLst, p_iTup, p_iRg1, p_iRg2, p_eNewS, p_eComp, p_inB, p_in, p_nin, p_sSto, List.map_cons, List.map_nil, List.cons_append, List.nil_append, List.append_nil, List.set_cons_zero, List.set_cons_succ, List.getElem?_cons_zero, List.getElem?_cons_succ, List.getElem?_nil, List.length_cons, List.length_nil, List.zip_cons_cons, List.zip_nil_left, List.zip_nil_right, List.foldl_cons, List.foldl_nil, List.replicate, Nat.sub_self, Nat.reduceSub, Nat.reduceAdd, Nat.reduceLeDiff, Nat.reduceLT, Nat.zero_add, Int.reduceLT, Int.reduceLE, Int.reduceNeg, Int.reduceSub, Int.reduceAdd, Int.reduceMul, Int.reduceBEq, Bool.or_true, Bool.true_or, Bool.or_false, Bool.false_or, if_true, if_false, ite_true, ite_false, reduceIte, Bool.not_true, Bool.not_false, Bool.true_and, Bool.and_true, Bool.false_and, Bool.and_false, decide_true, decide_false, Bool.false_eq_true, eq_self, reduceCtorEq, true_and, and_true, and_self, sh, shs, dat, dats, ev_int, ev_str, ev_bl, ev_tup, ev_lst, ev_nil, ev_cons, ev_nc, ev_cn, ev_nn, ev_ni, ev_in, at0, at1, at2, at3, cst0, cst1, cst2, cst3, cst4, cst7, cst9, tyN, kt4] <;> rfl
/-- the units of n / b -/
def uo (r : Ru) (n b : Int) : Int :=
  if n % b = 0 ∨ r = .down then n / b
  else if r = .up then n / b + 1
  else if r = .zero then (if 0 < n then n / b else n / b + 1)
  else if 2 * (n % b) ≠ b then (if 2 * (n % b) < b then n / b else n / b + 1)
  else if r = .nup then n / b + 1
  else if r = .nzero then (if 0 < n then n / b else n / b + 1)
  else if r = .naway then (if 0 < n then n / b + 1 else n / b)
  else if n / b % 2 = 0 then n / b else n / b + 1
theorem beq_dec (a b : Int) : (a == b) = decide (a = b) := by
  by_cases h : a = b
  · simp [h]
  · simp [h]
theorem units_eval (r : Ru) (a b d : Int) (S : Sto) (h0 : 0 ≤ d) (h6 : d ≤ 6) (hb : 0 < b) (hs : s64 b) : m_units_of [fr a b, .int d, .str (nm r)] S = .ok (.int (uo r (a * pw d) b)) S := by
  have p1 := pw_pos d
  have p2 := pw_le h6
  have k1 : gMul a (pw d) := .inr (.inl (by unfold s64; omega))
  have k2 : sml b := sml_of (by omega) (by have := hs.2; omega)
  have k3 : ∀ x : Int, gMul 2 x := fun x => .inl (by decide)
  have p20 : (0 : Int) < 2 := by decide
  simp only [m_units_of, b_units_of, p_bind, b_ok, b_exn, b_bad, b_ite, s_ok, s_exn, s_bad, s_ite, q_nx, q_rt, q_exn, q_bad, q_ite, f_nx, f_rt, f_exn, f_bad, f_ite, i_ok, i_rt, i_int, i_bl, i_tt, i_ff, p_ret, p_eC, p_eVar, p_eOp, p_eUn, p_aNil, p_aCons, p_eCall, p_isB, p_tV, p_tNot, p_tAnd, p_tOr, p_eAnd, p_eOr, p_eNot, p_eIf, p_eTup, p_eLst, p_eChain, p_sBind, p_sSeq, p_sPass, p_sRet, p_sRetN, p_sDrop, p_sSet, p_sIf, p_sRaise, p_sAug, p_sUnp, p_sPar, p_sFor, p_bdN, p_bdT, p_body, p_add, p_addS, p_addT, p_addL, p_addI, p_sub, p_mul, p_mulI, p_mulS, p_fdiv, p_mod, p_pow, p_lt, p_le, p_gt, p_ge, p_isN, p_isB2, p_isnN, p_isnB2, p_neg, p_ixT, p_ixL, p_ixO, p_ofS, p_abs, p_max2, p_lenT, p_lenL, p_lenO, p_eq, p_ne, p_isI, p_iLst, p_iTup, p_iRg1, p_iRg2, p_eNewS, p_eComp, p_inB, p_in, p_nin, p_sSto, List.map_cons, List.map_nil, List.cons_append, List.nil_append, List.append_nil, List.set_cons_zero, List.set_cons_succ, List.getElem?_cons_zero, List.getElem?_cons_succ, List.getElem?_nil, List.length_cons, List.length_nil, List.zip_cons_cons, List.zip_nil_left, List.zip_nil_right, List.foldl_cons, List.foldl_nil, List.replicate, Nat.sub_self, Nat.reduceSub, Nat.reduceAdd, Nat.reduceLeDiff, Nat.reduceLT, Nat.zero_add, Int.reduceLT, Int.reduceLE, Int.reduceNeg, Int.reduceSub, Int.reduceAdd, Int.reduceMul, Int.reduceBEq, Bool.or_true, Bool.true_or, Bool.or_false, Bool.false_or, if_true, if_false, ite_true, ite_false, reduceIte, Bool.not_true, Bool.not_false, Bool.true_and, Bool.and_true, Bool.false_and, Bool.and_false, decide_true, decide_false, Bool.false_eq_true, eq_self, reduceCtorEq, true_and, and_true, and_self, sh, shs, dat, dats, ev_int, ev_str, ev_bl, ev_tup, ev_lst, ev_nil, ev_cons, ev_nc, ev_cn, ev_nn, ev_ni, ev_in, at0, at1, at2, at3, cst0, cst1, cst2, cst3, cst4, cst7, cst9, power_eval d _ h0 h6, k1, hb, k2, k3, nm_ok, so1, so2, so3, so4, so5, so6, so7, nm1, nm2, nm3, nm4, nm5, nm6, nm7, beq_dec, p20]
  unfold uo
  generalize a * pw d = n
  cases r <;> simp only [reduceCtorEq, decide_true, decide_false, or_false, or_true, if_true, if_false, p_bind, b_ok, b_exn, b_bad, b_ite, s_ok, s_exn, s_bad, s_ite, q_nx, q_rt, q_exn, q_bad, q_ite, f_nx, f_rt, f_exn, f_bad, f_ite, i_ok, i_rt, i_int, i_bl, i_tt, i_ff, p_ret, p_eC, p_eVar, p_eOp, p_eUn, p_aNil, p_aCons, p_eCall, p_isB, p_tV, p_tNot, p_tAnd, p_tOr, p_eAnd, p_eOr, p_eNot, p_eIf, p_eTup, p_eLst, p_eChain, p_sBind, p_sSeq, p_sPass, p_sRet, p_sRetN, p_sDrop, p_sSet, p_sIf, p_sRaise, p_sAug, p_sUnp, p_sPar, p_sFor, p_bdN, p_bdT, p_body, p_add, p_addS, p_addT, p_addL, p_addI, p_sub, p_mul, p_mulI, p_mulS, p_fdiv, p_mod, p_pow, p_lt, p_le, p_gt, p_ge, p_isN, p_isB2, p_isnN, p_isnB2, p_neg, p_ixT, p_ixL, p_ixO, p_ofS, p_abs, p_max2, p_lenT, p_lenL, p_lenO, p_eq, p_ne, p_isI, p_iLst, p_iTup, p_iRg1, p_iRg2, p_eNewS, p_eComp, p_inB, p_in, p_nin, p_sSto, List.map_cons, List.map_nil, List.cons_append, List.nil_append, List.append_nil, List.set_cons_zero, List.set_cons_succ, List.getElem?_cons_zero, List.getElem?_cons_succ, List.getElem?_nil, List.length_cons, List.length_nil, List.zip_cons_cons, List.zip_nil_left, List.zip_nil_right, List.foldl_cons, List.foldl_nil, List.replicate, Nat.sub_self, Nat.reduceSub, Nat.reduceAdd, Nat.reduceLeDiff, Nat.reduceLT, Nat.zero_add, Int.reduceLT, Int.reduceLE, Int.reduceNeg, Int.reduceSub, Int.reduceAdd, Int.reduceMul, Int.reduceBEq, Bool.or_true, Bool.true_or, Bool.or_false, Bool.false_or, if_true, if_false, ite_true, ite_false, reduceIte, Bool.not_true, Bool.not_false, Bool.true_and, Bool.and_true, Bool.false_and, Bool.and_false, decide_true, decide_false, Bool.false_eq_true, eq_self, reduceCtorEq, true_and, and_true, and_self, sh, shs, dat, dats, ev_int, ev_str, ev_bl, ev_tup, ev_lst, ev_nil, ev_cons, ev_nc, ev_cn, ev_nn, ev_ni, ev_in, at0, at1, at2, at3, cst0, cst1, cst2, cst3, cst4, cst7, cst9, Bool.false_eq_true, decide_eq_true_eq, Bool.not_eq_true'] <;> (repeat' split) <;> simp_all
theorem lunits_eval (r : Ru) (a b d : Int) (S : Sto) (h0 : 0 ≤ d) (h6 : d ≤ 6) (hb : 0 < b) (hs : s64 b) : m__law_units [.int a, .int b, .int d, .str (nm r)] S = .ok (.int (uo r (a * pw d) b)) S := by
  have p1 := pw_pos d
  have p2 := pw_le h6
  have k1 : gMul a (pw d) := .inr (.inl (by unfold s64; omega))
  have k0 : gMul (2 * a) (pw d) := .inr (.inl (by unfold s64; omega))
  have k2 : sml b := sml_of (by omega) (by have := hs.2; omega)
  have k3 : ∀ x : Int, gMul 2 x := fun x => .inl (by decide)
  have k4 : ∀ x : Int, gMul x b := fun x => .inr (.inl hs)
  have p20 : (0 : Int) < 2 := by decide
  have e2 : 2 * a * pw d = 2 * (a * pw d) := Int.mul_assoc ..
  have sgn : (0 < a) ↔ (0 < a * pw d) := by
    constructor
    · intro h; exact Int.mul_pos h p1
    · intro h; exact Int.pos_of_mul_pos_left h p1
  have sg : decide (0 < a) = decide (0 < a * pw d) := decide_eq_decide.mpr sgn
  simp only [m__law_units, b__law_units, p_bind, b_ok, b_exn, b_bad, b_ite, s_ok, s_exn, s_bad, s_ite, q_nx, q_rt, q_exn, q_bad, q_ite, f_nx, f_rt, f_exn, f_bad, f_ite, i_ok, i_rt, i_int, i_bl, i_tt, i_ff, p_ret, p_eC, p_eVar, p_eOp, p_eUn, p_aNil, p_aCons, p_eCall, p_isB, p_tV, p_tNot, p_tAnd, p_tOr, p_eAnd, p_eOr, p_eNot, p_eIf, p_eTup, p_eLst, p_eChain, p_sBind, p_sSeq, p_sPass, p_sRet, p_sRetN, p_sDrop, p_sSet, p_sIf, p_sRaise, p_sAug, p_sUnp, p_sPar, p_sFor, p_bdN, p_bdT, p_body, p_add, p_addS, p_addT, p_addL, p_addI, p_sub, p_mul, p_mulI, p_mulS, p_fdiv, p_mod, p_pow, p_lt, p_le, p_gt, p_ge, p_isN, p_isB2, p_isnN, p_isnB2, p_neg, p_ixT, p_ixL, p_ixO, p_ofS, p_abs, p_max2, p_lenT, p_lenL, p_lenO, p_eq, p_ne, p_isI, p_iLst, p_iTup, p_iRg1, p_iRg2, p_eNewS, p_eComp, p_inB, p_in, p_nin, p_sSto, List.map_cons, List.map_nil, List.cons_append, List.nil_append, List.append_nil, List.set_cons_zero, List.set_cons_succ, List.getElem?_cons_zero, List.getElem?_cons_succ, List.getElem?_nil, List.length_cons, List.length_nil, List.zip_cons_cons, List.zip_nil_left, List.zip_nil_right, List.foldl_cons, List.foldl_nil, List.replicate, Nat.sub_self, Nat.reduceSub, Nat.reduceAdd, Nat.reduceLeDiff, Nat.reduceLT, Nat.zero_add, Int.reduceLT, Int.reduceLE, Int.reduceNeg, Int.reduceSub, Int.reduceAdd, Int.reduceMul, Int.reduceBEq, Bool.or_true, Bool.true_or, Bool.or_false, Bool.false_or, if_true, if_false, ite_true, ite_false, reduceIte, Bool.not_true, Bool.not_false, Bool.true_and, Bool.and_true, Bool.false_and, Bool.and_false, decide_true, decide_false, Bool.false_eq_true, eq_self, reduceCtorEq, true_and, and_true, and_self, sh, shs, dat, dats, ev_int, ev_str, ev_bl, ev_tup, ev_lst, ev_nil, ev_cons, ev_nc, ev_cn, ev_nn, ev_ni, ev_in, at0, at1, at2, at3, cst0, cst1, cst2, cst3, cst4, cst7, cst9, ten_eval d _ h0 h6, k0, k1, hb, k2, k3, k4, nm_ok, so1, so2, so3, so4, so5, so6, so7, nm1, nm2, nm3, nm4, nm5, nm6, nm7, beq_dec, p20, e2, sg]
  unfold uo
  have hdm := Int.mul_ediv_add_emod (a * pw d) b
  have hm0 := Int.emod_nonneg (a * pw d) (by omega : b ≠ 0)
  have hm1 := Int.emod_lt_of_pos (a * pw d) hb
  have hq : (a * pw d / b * b = a * pw d) ↔ (a * pw d % b = 0) := by
    rw [Int.mul_comm]
    constructor <;> intro h <;> omega
  generalize ht : a * pw d = n at *
  refine congrArg (fun z => R.ok (W.int z) S) ?_
  have e3 : (n / b + (n / b + 1)) * b = 2 * (n / b * b) + b := by
    rw [Int.add_mul, Int.add_mul]
    omega
  have e4 : (n / b + n / b) * b = 2 * (n / b * b) := by
    rw [Int.add_mul]
    omega
  have hc : b * (n / b) = n / b * b := Int.mul_comm ..
  by_cases hm : n % b = 0
  · have hx := hq.mpr hm
    simp only [hx, hm, decide_true, if_true, true_or, Bool.or_true, e4]
    have e5 : decide (0 < 2 * n - 2 * n) = false := decide_eq_false (by omega)
    simp only [e5, Bool.false_eq_true, if_false, ite_self]
  · have hx : ¬ (n / b * b = n) := fun h => hm (hq.mp h)
    have e6 : 2 * n - (2 * (n / b * b) + b) = 2 * (n % b) - b := by omega
    simp only [hx, hm, decide_false, Bool.false_eq_true, if_false, false_or, Bool.or_false, e3, e6]
    cases r <;> simp only [reduceCtorEq, decide_true, decide_false, Bool.true_or, Bool.false_or, Bool.or_false, Bool.true_and, Bool.false_and, if_true, if_false, Bool.false_eq_true, decide_eq_true_eq, Bool.not_eq_true', decide_eq_false_iff_not] <;> (repeat' split) <;> omega
end Pu
end
section
namespace Pu
open PySem Zz Mir
/-- the numbers of a script and the counter, other objects behind -/
def DS (ns : List Int) (c : Int) (T : Sto) : Sto := .lst (ns.map W.int) :: .lst [.obj 0, .int c] :: T
def DOk (T : Sto) (S : Sto) : Prop := ∃ ns c, S = DS ns c T ∧ 0 < ns.length
theorem ixN_ok {n : Nat} {i : Int} (h0 : 0 ≤ i) (h : i < n) : L2.ixN n i = some i.toNat := by
  unfold L2.ixN
  rw [if_pos h0, if_pos h]
theorem atI_ok {α : Type} {xs : List α} {i : Int} (h0 : 0 ≤ i) (h : i < xs.length) : L2.atI xs i = some (xs[i.toNat]'(by omega)) := by
  unfold L2.atI
  rw [ixN_ok h0 h]
  exact List.getElem?_eq_getElem (by omega)
theorem shs_ints (n : Nat) (ns : List Int) : shs n (ns.map W.int) = true := by
  induction ns with
  | nil => simp [shs]
  | cons x r ih => simp [shs, sh, ih]
theorem start_eval (ns : List Int) (hl : ns.length ≤ 63) : ∃ ms, m__law_start [.scr (ns.map W.int)] [] = .ok (.obj 1) (DS ms 0 []) ∧ 0 < ms.length := by
  cases ns with
  | nil =>
    refine ⟨[0], ?_, by decide⟩
    simp only [m__law_start, b__law_start, p_bind, b_ok, b_exn, b_bad, b_ite, s_ok, s_exn, s_bad, s_ite, q_nx, q_rt, q_exn, q_bad, q_ite, f_nx, f_rt, f_exn, f_bad, f_ite, i_ok, i_rt, i_int, i_bl, i_tt, i_ff, p_ret, p_eC, p_eVar, p_eOp, p_eUn, p_aNil, p_aCons, p_eCall, p_isB, p_tV, p_tNot, p_tAnd, p_tOr, p_eAnd, p_eOr, p_eNot, p_eIf, p_eTup, p_eLst, p_eChain, p_sBind, p_sSeq, p_sPass, p_sRet, p_sRetN, p_sDrop, p_sSet, p_sIf, p_sRaise, p_sAug, p_sUnp, p_sPar, p_sFor, p_bdN, p_bdT, p_body, p_add, p_addS, p_addT, p_addL, p_addI, p_sub, p_mul, p_mulI, p_mulS, p_fdiv, p_mod, p_pow, p_lt, p_le, p_gt, p_ge, p_isN, p_isB2, p_isnN, p_isnB2, p_neg, p_ixT, p_ixL, p_ixO, p_ofS, p_abs, p_max2, p_lenT, p_lenL, p_lenO, p_eq, p_ne, p_isI, p_iLst, p_iTup, p_iRg1, p_iRg2, p_eNewS, p_eComp, p_inB, p_in, p_nin, p_sSto, List.map_cons, List.map_nil, List.cons_append, List.nil_append, List.append_nil, List.set_cons_zero, List.set_cons_succ, List.getElem?_cons_zero, List.getElem?_cons_succ, List.getElem?_nil, List.length_cons, List.length_nil, List.zip_cons_cons, List.zip_nil_left, List.zip_nil_right, List.foldl_cons, List.foldl_nil, List.replicate, Nat.sub_self, Nat.reduceSub, Nat.reduceAdd, Nat.reduceLeDiff, Nat.reduceLT, Nat.zero_add, Int.reduceLT, Int.reduceLE, Int.reduceNeg, Int.reduceSub, Int.reduceAdd, Int.reduceMul, Int.reduceBEq, Bool.or_true, Bool.true_or, Bool.or_false, Bool.false_or, if_true, if_false, ite_true, ite_false, reduceIte, Bool.not_true, Bool.not_false, Bool.true_and, Bool.and_true, Bool.false_and, Bool.and_false, decide_true, decide_false, Bool.false_eq_true, eq_self, reduceCtorEq, true_and, and_true, and_self, sh, shs, dat, dats, ev_int, ev_str, ev_bl, ev_tup, ev_lst, ev_nil, ev_cons, ev_nc, ev_cn, ev_nn, ev_ni, ev_in, at0, at1, at2, at3, cst0, cst1, cst2, cst3, cst4, cst7, cst9]
    rfl
  | cons x r =>
    refine ⟨x :: r, ?_, by simp⟩
    have e : shs 7 (r.map W.int) = true := shs_ints 7 r
    simp only [m__law_start, b__law_start, p_bind, b_ok, b_exn, b_bad, b_ite, s_ok, s_exn, s_bad, s_ite, q_nx, q_rt, q_exn, q_bad, q_ite, f_nx, f_rt, f_exn, f_bad, f_ite, i_ok, i_rt, i_int, i_bl, i_tt, i_ff, p_ret, p_eC, p_eVar, p_eOp, p_eUn, p_aNil, p_aCons, p_eCall, p_isB, p_tV, p_tNot, p_tAnd, p_tOr, p_eAnd, p_eOr, p_eNot, p_eIf, p_eTup, p_eLst, p_eChain, p_sBind, p_sSeq, p_sPass, p_sRet, p_sRetN, p_sDrop, p_sSet, p_sIf, p_sRaise, p_sAug, p_sUnp, p_sPar, p_sFor, p_bdN, p_bdT, p_body, p_add, p_addS, p_addT, p_addL, p_addI, p_sub, p_mul, p_mulI, p_mulS, p_fdiv, p_mod, p_pow, p_lt, p_le, p_gt, p_ge, p_isN, p_isB2, p_isnN, p_isnB2, p_neg, p_ixT, p_ixL, p_ixO, p_ofS, p_abs, p_max2, p_lenT, p_lenL, p_lenO, p_eq, p_ne, p_isI, p_iLst, p_iTup, p_iRg1, p_iRg2, p_eNewS, p_eComp, p_inB, p_in, p_nin, p_sSto, List.map_cons, List.map_nil, List.cons_append, List.nil_append, List.append_nil, List.set_cons_zero, List.set_cons_succ, List.getElem?_cons_zero, List.getElem?_cons_succ, List.getElem?_nil, List.length_cons, List.length_nil, List.zip_cons_cons, List.zip_nil_left, List.zip_nil_right, List.foldl_cons, List.foldl_nil, List.replicate, Nat.sub_self, Nat.reduceSub, Nat.reduceAdd, Nat.reduceLeDiff, Nat.reduceLT, Nat.zero_add, Int.reduceLT, Int.reduceLE, Int.reduceNeg, Int.reduceSub, Int.reduceAdd, Int.reduceMul, Int.reduceBEq, Bool.or_true, Bool.true_or, Bool.or_false, Bool.false_or, if_true, if_false, ite_true, ite_false, reduceIte, Bool.not_true, Bool.not_false, Bool.true_and, Bool.and_true, Bool.false_and, Bool.and_false, decide_true, decide_false, Bool.false_eq_true, eq_self, reduceCtorEq, true_and, and_true, and_self, sh, shs, dat, dats, ev_int, ev_str, ev_bl, ev_tup, ev_lst, ev_nil, ev_cons, ev_nc, ev_cn, ev_nn, ev_ni, ev_in, at0, at1, at2, at3, cst0, cst1, cst2, cst3, cst4, cst7, cst9, e, cListS]
    rfl
theorem draw_eval {T S : Sto} (h : DOk T S) {lim : Int} (h0 : 0 < lim) (h1 : lim < 2 ^ 62) : ∃ d S', m__law_draw [.obj 1, .int lim] S = .ok (.int d) S' ∧ DOk T S' ∧ 0 ≤ d ∧ d < lim := by
  obtain ⟨ns, c, rfl, hl⟩ := h
  have hL : (0 : Int) < ns.length := by omega
  have a0 := Int.emod_nonneg (c + 1) (by omega : (ns.length : Int) ≠ 0)
  have a1 := Int.emod_lt_of_pos (c + 1) hL
  have hlen : (ns.map W.int).length = ns.length := List.length_map ..
  have e1 : L2.atI (ns.map W.int) ((c + 1) % ns.length) = some (.int (ns[((c + 1) % ns.length).toNat]'(by omega))) := by
    rw [atI_ok a0 (by rw [hlen]; exact a1), List.getElem_map]
  have e2 : L2.ixN ns.length ((c + 1) % ns.length) = some ((c + 1) % ns.length).toNat := ixN_ok a0 a1
  have e3 : L2.ixN 2 1 = some 1 := by decide
  have s1 : sml lim := sml_of (by omega) (by omega)
  have g1 : gMul 104729 (c + 1) := .inl (by decide)
  generalize hcell : ns[((c + 1) % ns.length).toNat]'(by omega) = cell at e1
  have x1 := Int.emod_nonneg (cell + 104729 * (c + 1)) (by decide : (4294967291 : Int) ≠ 0)
  have x2 := Int.emod_lt_of_pos (cell + 104729 * (c + 1)) (by decide : (0 : Int) < 4294967291)
  have p1 : ((cell + 104729 * (c + 1)) % 4294967291).natAbs < 2 ^ 64 := by omega
  have g2 : ∀ x : Int, gMul x 69621 := fun x => .inr (.inl (by decide))
  have c1 : (0 : Int) < 4294967291 := by decide
  have c2 : (0 : Int) < 4294967279 := by decide
  have c3 : (0 : Int) < 64 := by decide
  have c4 : (0 : Int) < 4294967231 := by decide
  have c5 : (0 : Int) < 8 := by decide
  have c6 : sml 64 := by decide
  have c7 : sml 8 := by decide
  have c8 : (0 : Int) ≤ 5 := by decide
  have c9 : (5 : Int) ≤ 1000 := by decide
  by_cases hbig : 1000000000000000000 ≤ cell
  · refine ⟨cell % lim, DS (ns.set ((c + 1) % ns.length).toNat (cell / lim)) (c + 1) T, ?_, ⟨_, _, rfl, by rw [List.length_set]; exact hl⟩, Int.emod_nonneg _ (by omega), Int.emod_lt_of_pos _ h0⟩
    simp only [m__law_draw, b__law_draw, DS, p_bind, b_ok, b_exn, b_bad, b_ite, s_ok, s_exn, s_bad, s_ite, q_nx, q_rt, q_exn, q_bad, q_ite, f_nx, f_rt, f_exn, f_bad, f_ite, i_ok, i_rt, i_int, i_bl, i_tt, i_ff, p_ret, p_eC, p_eVar, p_eOp, p_eUn, p_aNil, p_aCons, p_eCall, p_isB, p_tV, p_tNot, p_tAnd, p_tOr, p_eAnd, p_eOr, p_eNot, p_eIf, p_eTup, p_eLst, p_eChain, p_sBind, p_sSeq, p_sPass, p_sRet, p_sRetN, p_sDrop, p_sSet, p_sIf, p_sRaise, p_sAug, p_sUnp, p_sPar, p_sFor, p_bdN, p_bdT, p_body, p_add, p_addS, p_addT, p_addL, p_addI, p_sub, p_mul, p_mulI, p_mulS, p_fdiv, p_mod, p_pow, p_lt, p_le, p_gt, p_ge, p_isN, p_isB2, p_isnN, p_isnB2, p_neg, p_ixT, p_ixL, p_ixO, p_ofS, p_abs, p_max2, p_lenT, p_lenL, p_lenO, p_eq, p_ne, p_isI, p_iLst, p_iTup, p_iRg1, p_iRg2, p_eNewS, p_eComp, p_inB, p_in, p_nin, p_sSto, List.map_cons, List.map_nil, List.cons_append, List.nil_append, List.append_nil, List.set_cons_zero, List.set_cons_succ, List.getElem?_cons_zero, List.getElem?_cons_succ, List.getElem?_nil, List.length_cons, List.length_nil, List.zip_cons_cons, List.zip_nil_left, List.zip_nil_right, List.foldl_cons, List.foldl_nil, List.replicate, Nat.sub_self, Nat.reduceSub, Nat.reduceAdd, Nat.reduceLeDiff, Nat.reduceLT, Nat.zero_add, Int.reduceLT, Int.reduceLE, Int.reduceNeg, Int.reduceSub, Int.reduceAdd, Int.reduceMul, Int.reduceBEq, Bool.or_true, Bool.true_or, Bool.or_false, Bool.false_or, if_true, if_false, ite_true, ite_false, reduceIte, Bool.not_true, Bool.not_false, Bool.true_and, Bool.and_true, Bool.false_and, Bool.and_false, decide_true, decide_false, Bool.false_eq_true, eq_self, reduceCtorEq, true_and, and_true, and_self, sh, shs, dat, dats, ev_int, ev_str, ev_bl, ev_tup, ev_lst, ev_nil, ev_cons, ev_nc, ev_cn, ev_nn, ev_ni, ev_in, at0, at1, at2, at3, cst0, cst1, cst2, cst3, cst4, cst7, cst9, hlen, e1, e2, e3, hL, h0, s1, hbig]
    rw [List.map_set]
  · refine ⟨(((cell + 104729 * (c + 1)) % 4294967291) ^ (5 : Int).toNat % 4294967279 / 64 * 69621 + ((cell + 104729 * (c + 1)) % 4294967291) ^ (5 : Int).toNat % 4294967279) % 4294967231 / 8 % lim, DS ns (c + 1) T, ?_, ⟨_, _, rfl, hl⟩, ?_, ?_⟩
    · simp only [m__law_draw, b__law_draw, DS, p_bind, b_ok, b_exn, b_bad, b_ite, s_ok, s_exn, s_bad, s_ite, q_nx, q_rt, q_exn, q_bad, q_ite, f_nx, f_rt, f_exn, f_bad, f_ite, i_ok, i_rt, i_int, i_bl, i_tt, i_ff, p_ret, p_eC, p_eVar, p_eOp, p_eUn, p_aNil, p_aCons, p_eCall, p_isB, p_tV, p_tNot, p_tAnd, p_tOr, p_eAnd, p_eOr, p_eNot, p_eIf, p_eTup, p_eLst, p_eChain, p_sBind, p_sSeq, p_sPass, p_sRet, p_sRetN, p_sDrop, p_sSet, p_sIf, p_sRaise, p_sAug, p_sUnp, p_sPar, p_sFor, p_bdN, p_bdT, p_body, p_add, p_addS, p_addT, p_addL, p_addI, p_sub, p_mul, p_mulI, p_mulS, p_fdiv, p_mod, p_pow, p_lt, p_le, p_gt, p_ge, p_isN, p_isB2, p_isnN, p_isnB2, p_neg, p_ixT, p_ixL, p_ixO, p_ofS, p_abs, p_max2, p_lenT, p_lenL, p_lenO, p_eq, p_ne, p_isI, p_iLst, p_iTup, p_iRg1, p_iRg2, p_eNewS, p_eComp, p_inB, p_in, p_nin, p_sSto, List.map_cons, List.map_nil, List.cons_append, List.nil_append, List.append_nil, List.set_cons_zero, List.set_cons_succ, List.getElem?_cons_zero, List.getElem?_cons_succ, List.getElem?_nil, List.length_cons, List.length_nil, List.zip_cons_cons, List.zip_nil_left, List.zip_nil_right, List.foldl_cons, List.foldl_nil, List.replicate, Nat.sub_self, Nat.reduceSub, Nat.reduceAdd, Nat.reduceLeDiff, Nat.reduceLT, Nat.zero_add, Int.reduceLT, Int.reduceLE, Int.reduceNeg, Int.reduceSub, Int.reduceAdd, Int.reduceMul, Int.reduceBEq, Bool.or_true, Bool.true_or, Bool.or_false, Bool.false_or, if_true, if_false, ite_true, ite_false, reduceIte, Bool.not_true, Bool.not_false, Bool.true_and, Bool.and_true, Bool.false_and, Bool.and_false, decide_true, decide_false, Bool.false_eq_true, eq_self, reduceCtorEq, true_and, and_true, and_self, sh, shs, dat, dats, ev_int, ev_str, ev_bl, ev_tup, ev_lst, ev_nil, ev_cons, ev_nc, ev_cn, ev_nn, ev_ni, ev_in, at0, at1, at2, at3, cst0, cst1, cst2, cst3, cst4, cst7, cst9, hlen, e1, e2, e3, hL, h0, s1, hbig, g1, g2, p1, c1, c2, c3, c4, c5, c6, c7, c8, c9]
    · exact Int.emod_nonneg _ (by omega)
    · exact Int.emod_lt_of_pos _ h0
theorem pick_eval {T S : Sto} (h : DOk T S) {ws : List W} (h0 : 0 < ws.length) (h1 : ws.length ≤ 1000000) : ∃ w S', m__law_pick [.obj 1, .lst ws] S = .ok w S' ∧ DOk T S' ∧ w ∈ ws := by
  obtain ⟨d, S', e, hS, d0, d1⟩ := draw_eval h (lim := ws.length) (by omega) (by omega)
  refine ⟨ws[d.toNat]'(by omega), S', ?_, hS, List.getElem_mem _⟩
  simp only [m__law_pick, b__law_pick, p_bind, b_ok, b_exn, b_bad, b_ite, s_ok, s_exn, s_bad, s_ite, q_nx, q_rt, q_exn, q_bad, q_ite, f_nx, f_rt, f_exn, f_bad, f_ite, i_ok, i_rt, i_int, i_bl, i_tt, i_ff, p_ret, p_eC, p_eVar, p_eOp, p_eUn, p_aNil, p_aCons, p_eCall, p_isB, p_tV, p_tNot, p_tAnd, p_tOr, p_eAnd, p_eOr, p_eNot, p_eIf, p_eTup, p_eLst, p_eChain, p_sBind, p_sSeq, p_sPass, p_sRet, p_sRetN, p_sDrop, p_sSet, p_sIf, p_sRaise, p_sAug, p_sUnp, p_sPar, p_sFor, p_bdN, p_bdT, p_body, p_add, p_addS, p_addT, p_addL, p_addI, p_sub, p_mul, p_mulI, p_mulS, p_fdiv, p_mod, p_pow, p_lt, p_le, p_gt, p_ge, p_isN, p_isB2, p_isnN, p_isnB2, p_neg, p_ixT, p_ixL, p_ixO, p_ofS, p_abs, p_max2, p_lenT, p_lenL, p_lenO, p_eq, p_ne, p_isI, p_iLst, p_iTup, p_iRg1, p_iRg2, p_eNewS, p_eComp, p_inB, p_in, p_nin, p_sSto, List.map_cons, List.map_nil, List.cons_append, List.nil_append, List.append_nil, List.set_cons_zero, List.set_cons_succ, List.getElem?_cons_zero, List.getElem?_cons_succ, List.getElem?_nil, List.length_cons, List.length_nil, List.zip_cons_cons, List.zip_nil_left, List.zip_nil_right, List.foldl_cons, List.foldl_nil, List.replicate, Nat.sub_self, Nat.reduceSub, Nat.reduceAdd, Nat.reduceLeDiff, Nat.reduceLT, Nat.zero_add, Int.reduceLT, Int.reduceLE, Int.reduceNeg, Int.reduceSub, Int.reduceAdd, Int.reduceMul, Int.reduceBEq, Bool.or_true, Bool.true_or, Bool.or_false, Bool.false_or, if_true, if_false, ite_true, ite_false, reduceIte, Bool.not_true, Bool.not_false, Bool.true_and, Bool.and_true, Bool.false_and, Bool.and_false, decide_true, decide_false, Bool.false_eq_true, eq_self, reduceCtorEq, true_and, and_true, and_self, sh, shs, dat, dats, ev_int, ev_str, ev_bl, ev_tup, ev_lst, ev_nil, ev_cons, ev_nc, ev_cn, ev_nn, ev_ni, ev_in, at0, at1, at2, at3, cst0, cst1, cst2, cst3, cst4, cst7, cst9, e, atI_ok d0 d1]
theorem low_fr {a b : Int} (hb : 1 ≤ b) (hb6 : b ≤ 60) (h1 : -(100 * b) ≤ a) (h2 : a ≤ 100 * b) : ∃ p q, low a b = fr p q ∧ Fr p q := by
  have hg := gcd_pos (a := a) (b := b) (by omega)
  have hgb := gcd_le (a := a) (b := b) (by omega)
  have d1 : ((Int.gcd a b : Nat) : Int) ∣ a := Int.gcd_dvd_left a b
  have d2 : ((Int.gcd a b : Nat) : Int) ∣ b := Int.gcd_dvd_right a b
  obtain ⟨x, hx⟩ := d1
  obtain ⟨y, hy⟩ := d2
  have ex : a / ((Int.gcd a b : Nat) : Int) = x := by
    rw [Int.ediv_eq_of_eq_mul_right (by omega) hx]
  have ey : b / ((Int.gcd a b : Nat) : Int) = y := by
    rw [Int.ediv_eq_of_eq_mul_right (by omega) hy]
  refine ⟨x, y, by unfold low; rw [ex, ey], ?_⟩
  have gc : Int.gcd x y = 1 := by
    have h3 := Int.gcd_ediv_gcd_ediv_gcd (i := a) (j := b) (by omega)
    rw [ex, ey] at h3
    exact h3
  generalize ((Int.gcd a b : Nat) : Int) = g at *
  have hy0 : 1 ≤ y := by
    have : 0 < g * y := by omega
    have := Int.pos_of_mul_pos_right this (by omega)
    omega
  refine ⟨hy0, ?_, ?_, ?_, gc⟩
  · have : 1 * y ≤ g * y := Int.mul_le_mul_of_nonneg_right (by omega) (by omega)
    omega
  · have : g * (-(100 * y)) ≤ g * x := by
      have e : g * (-(100 * y)) = -(100 * (g * y)) := by rw [Int.mul_neg, Int.mul_left_comm]
      omega
    have := Int.le_of_mul_le_mul_left this hg
    omega
  · have : g * x ≤ g * (100 * y) := by
      have e : g * (100 * y) = 100 * (g * y) := Int.mul_left_comm ..
      omega
    have := Int.le_of_mul_le_mul_left this hg
    omega
theorem fraction_eval {T S : Sto} (h : DOk T S) : ∃ p q S', m__law_fraction [.obj 1] S = .ok (fr p q) S' ∧ DOk T S' ∧ Fr p q := by
  obtain ⟨d, S1, e1, h1, d0, d1⟩ := draw_eval h (lim := 60) (by decide) (by decide)
  obtain ⟨w, S2, e2, h2, m2⟩ := pick_eval h1 (ws := [.int 1, .int 2, .int 4, .int 5, .int 8, .int 20, .int 40, .int 50, .int (1 + d)]) (by simp) (by simp)
  obtain ⟨v, S3, e3, h3, m3⟩ := pick_eval h2 (ws := [.int 1, .int 3, .int 100]) (by decide) (by decide)
  obtain ⟨u, rfl, u0, u1⟩ : ∃ u : Int, w = .int u ∧ 1 ≤ u ∧ u ≤ 60 := by
    simp only [List.mem_cons, List.not_mem_nil, or_false] at m2
    rcases m2 with rfl | rfl | rfl | rfl | rfl | rfl | rfl | rfl | rfl
    all_goals exact ⟨_, rfl, by omega, by omega⟩
  obtain ⟨t, rfl, t0, t1⟩ : ∃ t : Int, v = .int t ∧ 1 ≤ t ∧ t ≤ 100 := by
    simp only [List.mem_cons, List.not_mem_nil, or_false] at m3
    rcases m3 with rfl | rfl | rfl
    all_goals exact ⟨_, rfl, by omega, by omega⟩
  have hm : t * u ≤ 100 * u := Int.mul_le_mul_of_nonneg_right t1 (by omega)
  have hm0 : 0 ≤ t * u := Int.mul_nonneg (by omega) (by omega)
  have hm2 : 2 * t * u = 2 * (t * u) := Int.mul_assoc ..
  obtain ⟨x, S4, e4, h4, x0, x1⟩ := draw_eval h3 (lim := 2 * t * u + 1) (by omega) (by omega)
  obtain ⟨p, q, e5, f⟩ := low_fr (a := x - t * u) (b := u) u0 u1 (by omega) (by omega)
  refine ⟨p, q, S4, ?_, h4, f⟩
  have g1 : gMul 2 t := .inl (by decide)
  have g2 : gMul (2 * t) u := .inr (.inl (by unfold s64; omega))
  have g3 : gMul t u := .inr (.inl (by unfold s64; omega))
  simp only [m__law_fraction, b__law_fraction, p_bind, b_ok, b_exn, b_bad, b_ite, s_ok, s_exn, s_bad, s_ite, q_nx, q_rt, q_exn, q_bad, q_ite, f_nx, f_rt, f_exn, f_bad, f_ite, i_ok, i_rt, i_int, i_bl, i_tt, i_ff, p_ret, p_eC, p_eVar, p_eOp, p_eUn, p_aNil, p_aCons, p_eCall, p_isB, p_tV, p_tNot, p_tAnd, p_tOr, p_eAnd, p_eOr, p_eNot, p_eIf, p_eTup, p_eLst, p_eChain, p_sBind, p_sSeq, p_sPass, p_sRet, p_sRetN, p_sDrop, p_sSet, p_sIf, p_sRaise, p_sAug, p_sUnp, p_sPar, p_sFor, p_bdN, p_bdT, p_body, p_add, p_addS, p_addT, p_addL, p_addI, p_sub, p_mul, p_mulI, p_mulS, p_fdiv, p_mod, p_pow, p_lt, p_le, p_gt, p_ge, p_isN, p_isB2, p_isnN, p_isnB2, p_neg, p_ixT, p_ixL, p_ixO, p_ofS, p_abs, p_max2, p_lenT, p_lenL, p_lenO, p_eq, p_ne, p_isI, p_iLst, p_iTup, p_iRg1, p_iRg2, p_eNewS, p_eComp, p_inB, p_in, p_nin, p_sSto, List.map_cons, List.map_nil, List.cons_append, List.nil_append, List.append_nil, List.set_cons_zero, List.set_cons_succ, List.getElem?_cons_zero, List.getElem?_cons_succ, List.getElem?_nil, List.length_cons, List.length_nil, List.zip_cons_cons, List.zip_nil_left, List.zip_nil_right, List.foldl_cons, List.foldl_nil, List.replicate, Nat.sub_self, Nat.reduceSub, Nat.reduceAdd, Nat.reduceLeDiff, Nat.reduceLT, Nat.zero_add, Int.reduceLT, Int.reduceLE, Int.reduceNeg, Int.reduceSub, Int.reduceAdd, Int.reduceMul, Int.reduceBEq, Bool.or_true, Bool.true_or, Bool.or_false, Bool.false_or, if_true, if_false, ite_true, ite_false, reduceIte, Bool.not_true, Bool.not_false, Bool.true_and, Bool.and_true, Bool.false_and, Bool.and_false, decide_true, decide_false, Bool.false_eq_true, eq_self, reduceCtorEq, true_and, and_true, and_self, sh, shs, dat, dats, ev_int, ev_str, ev_bl, ev_tup, ev_lst, ev_nil, ev_cons, ev_nc, ev_cn, ev_nn, ev_ni, ev_in, at0, at1, at2, at3, cst0, cst1, cst2, cst3, cst4, cst7, cst9, e1, e2, e3, g1, g2, g3, e4, low_eval _ _ _ (by omega : 0 < u) (by omega : u < 2 ^ 199), e5]
end Pu
end
section
namespace Pu
open PySem Zz Mir
theorem gcd_scale (k x y : Int) (hk : 0 < k) : Int.gcd (k * x) (k * y) = k.natAbs * Int.gcd x y := Int.gcd_mul_left ..
theorem low_scale {k x y : Int} (hk : 0 < k) : low (k * x) (k * y) = low x y := by
  unfold low
  rw [gcd_scale k x y hk]
  have e : ((k.natAbs * Int.gcd x y : Nat) : Int) = k * (Int.gcd x y : Nat) := by
    rw [Int.natCast_mul]
    congr 1
    omega
  rw [e, Int.mul_ediv_mul_of_pos _ _ hk, Int.mul_ediv_mul_of_pos _ _ hk]
/-- the parts of low -/
theorem low_parts (x : Int) {y : Int} (hy : 0 < y) : ∃ g p q : Int, 0 < g ∧ x = g * p ∧ y = g * q ∧ 0 < q ∧ low x y = fr p q ∧ Int.gcd p q = 1 := by
  have hg := gcd_pos (a := x) hy
  have d1 : ((Int.gcd x y : Nat) : Int) ∣ x := Int.gcd_dvd_left x y
  have d2 : ((Int.gcd x y : Nat) : Int) ∣ y := Int.gcd_dvd_right x y
  obtain ⟨p, hp⟩ := d1
  obtain ⟨q, hq⟩ := d2
  have ex : x / ((Int.gcd x y : Nat) : Int) = p := by rw [Int.ediv_eq_of_eq_mul_right (by omega) hp]
  have ey : y / ((Int.gcd x y : Nat) : Int) = q := by rw [Int.ediv_eq_of_eq_mul_right (by omega) hq]
  refine ⟨_, p, q, hg, hp, hq, ?_, by unfold low; rw [ex, ey], ?_⟩
  · have : 0 < ((Int.gcd x y : Nat) : Int) * q := by omega
    exact Int.pos_of_mul_pos_right this (by omega)
  · have h3 := Int.gcd_ediv_gcd_ediv_gcd (i := x) (j := y) (by omega)
    rw [ex, ey] at h3
    exact h3
/-- the numerator of an error: units times the denominator less the top -/
def en (r : Ru) (a b d : Int) : Int := uo r (a * pw d) b * b - a * pw d
def err (r : Ru) (a b d : Int) : W := low (en r a b d) (b * pw d)
theorem pw_s {d : Int} (h : d ≤ 6) : s64 (pw d) := by have := pw_pos d; have := pw_le h; unfold s64; omega
theorem pw_b {d : Int} (h : d ≤ 6) : pw d < 2 ^ 199 := by have := pw_le h; omega
theorem gap_eval (u a b d : Int) (S S' : Sto) (h6 : d ≤ 6) (hb : 0 < b) (hs : s64 b) : ∃ p q, m_lowest [.int u, .int (pw d)] S = .ok (fr p q) S ∧ m_minus [fr p q, fr a b] S' = .ok (low (u * b - a * pw d) (b * pw d)) S' := by
  have p1 := pw_pos d
  obtain ⟨g, p, q, hg, hp, hq, hq0, e, _⟩ := low_parts u p1
  refine ⟨p, q, by rw [lowest_eval u _ S p1 (pw_b h6), e], ?_⟩
  have hq2 : q ≤ pw d := by
    have : 1 * q ≤ g * q := Int.mul_le_mul_of_nonneg_right (by omega) (by omega)
    omega
  have := pw_le h6
  rw [minus_eval p q a b S' hq0 hb (by unfold s64; omega) hs]
  rw [← low_scale hg (x := p * b - a * q) (y := q * b)]
  have e1 : g * (p * b - a * q) = u * b - a * pw d := by
    rw [hp, hq, Int.mul_sub, Int.mul_assoc, Int.mul_left_comm g a q]
  have e2 : g * (q * b) = b * pw d := by
    rw [hq, ← Int.mul_assoc, Int.mul_comm]
  rw [e1, e2]
theorem error_eval (r : Ru) {a b d : Int} (f : Fr a b) (S : Sto) (h0 : 0 ≤ d) (h6 : d ≤ 6) : m_error_of [fr a b, .int d, .str (nm r)] S = .ok (err r a b d) S := by
  have b0 := f.b0
  obtain ⟨p, q, e1, e2⟩ := gap_eval (uo r (a * pw d) b) a b d S S h6 (by omega) f.s
  simp only [m_error_of, b_error_of, p_bind, b_ok, b_exn, b_bad, b_ite, s_ok, s_exn, s_bad, s_ite, q_nx, q_rt, q_exn, q_bad, q_ite, f_nx, f_rt, f_exn, f_bad, f_ite, i_ok, i_rt, i_int, i_bl, i_tt, i_ff, p_ret, p_eC, p_eVar, p_eOp, p_eUn, p_aNil, p_aCons, p_eCall, p_isB, p_tV, p_tNot, p_tAnd, p_tOr, p_eAnd, p_eOr, p_eNot, p_eIf, p_eTup, p_eLst, p_eChain, p_sBind, p_sSeq, p_sPass, p_sRet, p_sRetN, p_sDrop, p_sSet, p_sIf, p_sRaise, p_sAug, p_sUnp, p_sPar, p_sFor, p_bdN, p_bdT, p_body, p_add, p_addS, p_addT, p_addL, p_addI, p_sub, p_mul, p_mulI, p_mulS, p_fdiv, p_mod, p_pow, p_lt, p_le, p_gt, p_ge, p_isN, p_isB2, p_isnN, p_isnB2, p_neg, p_ixT, p_ixL, p_ixO, p_ofS, p_abs, p_max2, p_lenT, p_lenL, p_lenO, p_eq, p_ne, p_isI, p_iLst, p_iTup, p_iRg1, p_iRg2, p_eNewS, p_eComp, p_inB, p_in, p_nin, p_sSto, List.map_cons, List.map_nil, List.cons_append, List.nil_append, List.append_nil, List.set_cons_zero, List.set_cons_succ, List.getElem?_cons_zero, List.getElem?_cons_succ, List.getElem?_nil, List.length_cons, List.length_nil, List.zip_cons_cons, List.zip_nil_left, List.zip_nil_right, List.foldl_cons, List.foldl_nil, List.replicate, Nat.sub_self, Nat.reduceSub, Nat.reduceAdd, Nat.reduceLeDiff, Nat.reduceLT, Nat.zero_add, Int.reduceLT, Int.reduceLE, Int.reduceNeg, Int.reduceSub, Int.reduceAdd, Int.reduceMul, Int.reduceBEq, Bool.or_true, Bool.true_or, Bool.or_false, Bool.false_or, if_true, if_false, ite_true, ite_false, reduceIte, Bool.not_true, Bool.not_false, Bool.true_and, Bool.and_true, Bool.false_and, Bool.and_false, decide_true, decide_false, Bool.false_eq_true, eq_self, reduceCtorEq, true_and, and_true, and_self, sh, shs, dat, dats, ev_int, ev_str, ev_bl, ev_tup, ev_lst, ev_nil, ev_cons, ev_nc, ev_cn, ev_nn, ev_ni, ev_in, at0, at1, at2, at3, cst0, cst1, cst2, cst3, cst4, cst7, cst9, check_fraction_eval f, check_digits_eval h0 h6, check_rule_eval, units_eval r a b d _ h0 h6 (by omega : 0 < b) f.s, power_eval d _ h0 h6, e1, e2]
  rfl
theorem rounded_eval (r : Ru) {a b d : Int} (f : Fr a b) (S : Sto) (h0 : 0 ≤ d) (h6 : d ≤ 6) : m_rounded [fr a b, .int d, .str (nm r)] S = .ok (.int (uo r (a * pw d) b)) S := by
  have b0 := f.b0
  simp only [m_rounded, b_rounded, p_bind, b_ok, b_exn, b_bad, b_ite, s_ok, s_exn, s_bad, s_ite, q_nx, q_rt, q_exn, q_bad, q_ite, f_nx, f_rt, f_exn, f_bad, f_ite, i_ok, i_rt, i_int, i_bl, i_tt, i_ff, p_ret, p_eC, p_eVar, p_eOp, p_eUn, p_aNil, p_aCons, p_eCall, p_isB, p_tV, p_tNot, p_tAnd, p_tOr, p_eAnd, p_eOr, p_eNot, p_eIf, p_eTup, p_eLst, p_eChain, p_sBind, p_sSeq, p_sPass, p_sRet, p_sRetN, p_sDrop, p_sSet, p_sIf, p_sRaise, p_sAug, p_sUnp, p_sPar, p_sFor, p_bdN, p_bdT, p_body, p_add, p_addS, p_addT, p_addL, p_addI, p_sub, p_mul, p_mulI, p_mulS, p_fdiv, p_mod, p_pow, p_lt, p_le, p_gt, p_ge, p_isN, p_isB2, p_isnN, p_isnB2, p_neg, p_ixT, p_ixL, p_ixO, p_ofS, p_abs, p_max2, p_lenT, p_lenL, p_lenO, p_eq, p_ne, p_isI, p_iLst, p_iTup, p_iRg1, p_iRg2, p_eNewS, p_eComp, p_inB, p_in, p_nin, p_sSto, List.map_cons, List.map_nil, List.cons_append, List.nil_append, List.append_nil, List.set_cons_zero, List.set_cons_succ, List.getElem?_cons_zero, List.getElem?_cons_succ, List.getElem?_nil, List.length_cons, List.length_nil, List.zip_cons_cons, List.zip_nil_left, List.zip_nil_right, List.foldl_cons, List.foldl_nil, List.replicate, Nat.sub_self, Nat.reduceSub, Nat.reduceAdd, Nat.reduceLeDiff, Nat.reduceLT, Nat.zero_add, Int.reduceLT, Int.reduceLE, Int.reduceNeg, Int.reduceSub, Int.reduceAdd, Int.reduceMul, Int.reduceBEq, Bool.or_true, Bool.true_or, Bool.or_false, Bool.false_or, if_true, if_false, ite_true, ite_false, reduceIte, Bool.not_true, Bool.not_false, Bool.true_and, Bool.and_true, Bool.false_and, Bool.and_false, decide_true, decide_false, Bool.false_eq_true, eq_self, reduceCtorEq, true_and, and_true, and_self, sh, shs, dat, dats, ev_int, ev_str, ev_bl, ev_tup, ev_lst, ev_nil, ev_cons, ev_nc, ev_cn, ev_nn, ev_ni, ev_in, at0, at1, at2, at3, cst0, cst1, cst2, cst3, cst4, cst7, cst9, check_fraction_eval f, check_digits_eval h0 h6, check_rule_eval, units_eval r a b d _ h0 h6 (by omega : 0 < b) f.s]
theorem exact_eval {a b d : Int} (f : Fr a b) (S : Sto) (h0 : 0 ≤ d) (h6 : d ≤ 6) : m_is_exact [fr a b, .int d] S = .ok (.bl (decide (a * pw d % b = 0))) S := by
  have b0 := f.b0
  have k1 : gMul a (pw d) := .inr (.inl (pw_s h6))
  have k2 : 0 < b := by omega
  simp only [m_is_exact, b_is_exact, p_bind, b_ok, b_exn, b_bad, b_ite, s_ok, s_exn, s_bad, s_ite, q_nx, q_rt, q_exn, q_bad, q_ite, f_nx, f_rt, f_exn, f_bad, f_ite, i_ok, i_rt, i_int, i_bl, i_tt, i_ff, p_ret, p_eC, p_eVar, p_eOp, p_eUn, p_aNil, p_aCons, p_eCall, p_isB, p_tV, p_tNot, p_tAnd, p_tOr, p_eAnd, p_eOr, p_eNot, p_eIf, p_eTup, p_eLst, p_eChain, p_sBind, p_sSeq, p_sPass, p_sRet, p_sRetN, p_sDrop, p_sSet, p_sIf, p_sRaise, p_sAug, p_sUnp, p_sPar, p_sFor, p_bdN, p_bdT, p_body, p_add, p_addS, p_addT, p_addL, p_addI, p_sub, p_mul, p_mulI, p_mulS, p_fdiv, p_mod, p_pow, p_lt, p_le, p_gt, p_ge, p_isN, p_isB2, p_isnN, p_isnB2, p_neg, p_ixT, p_ixL, p_ixO, p_ofS, p_abs, p_max2, p_lenT, p_lenL, p_lenO, p_eq, p_ne, p_isI, p_iLst, p_iTup, p_iRg1, p_iRg2, p_eNewS, p_eComp, p_inB, p_in, p_nin, p_sSto, List.map_cons, List.map_nil, List.cons_append, List.nil_append, List.append_nil, List.set_cons_zero, List.set_cons_succ, List.getElem?_cons_zero, List.getElem?_cons_succ, List.getElem?_nil, List.length_cons, List.length_nil, List.zip_cons_cons, List.zip_nil_left, List.zip_nil_right, List.foldl_cons, List.foldl_nil, List.replicate, Nat.sub_self, Nat.reduceSub, Nat.reduceAdd, Nat.reduceLeDiff, Nat.reduceLT, Nat.zero_add, Int.reduceLT, Int.reduceLE, Int.reduceNeg, Int.reduceSub, Int.reduceAdd, Int.reduceMul, Int.reduceBEq, Bool.or_true, Bool.true_or, Bool.or_false, Bool.false_or, if_true, if_false, ite_true, ite_false, reduceIte, Bool.not_true, Bool.not_false, Bool.true_and, Bool.and_true, Bool.false_and, Bool.and_false, decide_true, decide_false, Bool.false_eq_true, eq_self, reduceCtorEq, true_and, and_true, and_self, sh, shs, dat, dats, ev_int, ev_str, ev_bl, ev_tup, ev_lst, ev_nil, ev_cons, ev_nc, ev_cn, ev_nn, ev_ni, ev_in, at0, at1, at2, at3, cst0, cst1, cst2, cst3, cst4, cst7, cst9, check_fraction_eval f, check_digits_eval h0 h6, power_eval d _ h0 h6, k1, k2, beq_dec]
theorem middle_eval {a b d : Int} (f : Fr a b) (S : Sto) (h0 : 0 ≤ d) (h6 : d ≤ 6) : m_is_middle [fr a b, .int d] S = .ok (.bl (decide (2 * (a * pw d % b) = b))) S := by
  have b0 := f.b0
  have k1 : gMul a (pw d) := .inr (.inl (pw_s h6))
  have k2 : 0 < b := by omega
  have k3 : ∀ x : Int, gMul 2 x := fun x => .inl (by decide)
  simp only [m_is_middle, b_is_middle, p_bind, b_ok, b_exn, b_bad, b_ite, s_ok, s_exn, s_bad, s_ite, q_nx, q_rt, q_exn, q_bad, q_ite, f_nx, f_rt, f_exn, f_bad, f_ite, i_ok, i_rt, i_int, i_bl, i_tt, i_ff, p_ret, p_eC, p_eVar, p_eOp, p_eUn, p_aNil, p_aCons, p_eCall, p_isB, p_tV, p_tNot, p_tAnd, p_tOr, p_eAnd, p_eOr, p_eNot, p_eIf, p_eTup, p_eLst, p_eChain, p_sBind, p_sSeq, p_sPass, p_sRet, p_sRetN, p_sDrop, p_sSet, p_sIf, p_sRaise, p_sAug, p_sUnp, p_sPar, p_sFor, p_bdN, p_bdT, p_body, p_add, p_addS, p_addT, p_addL, p_addI, p_sub, p_mul, p_mulI, p_mulS, p_fdiv, p_mod, p_pow, p_lt, p_le, p_gt, p_ge, p_isN, p_isB2, p_isnN, p_isnB2, p_neg, p_ixT, p_ixL, p_ixO, p_ofS, p_abs, p_max2, p_lenT, p_lenL, p_lenO, p_eq, p_ne, p_isI, p_iLst, p_iTup, p_iRg1, p_iRg2, p_eNewS, p_eComp, p_inB, p_in, p_nin, p_sSto, List.map_cons, List.map_nil, List.cons_append, List.nil_append, List.append_nil, List.set_cons_zero, List.set_cons_succ, List.getElem?_cons_zero, List.getElem?_cons_succ, List.getElem?_nil, List.length_cons, List.length_nil, List.zip_cons_cons, List.zip_nil_left, List.zip_nil_right, List.foldl_cons, List.foldl_nil, List.replicate, Nat.sub_self, Nat.reduceSub, Nat.reduceAdd, Nat.reduceLeDiff, Nat.reduceLT, Nat.zero_add, Int.reduceLT, Int.reduceLE, Int.reduceNeg, Int.reduceSub, Int.reduceAdd, Int.reduceMul, Int.reduceBEq, Bool.or_true, Bool.true_or, Bool.or_false, Bool.false_or, if_true, if_false, ite_true, ite_false, reduceIte, Bool.not_true, Bool.not_false, Bool.true_and, Bool.and_true, Bool.false_and, Bool.and_false, decide_true, decide_false, Bool.false_eq_true, eq_self, reduceCtorEq, true_and, and_true, and_self, sh, shs, dat, dats, ev_int, ev_str, ev_bl, ev_tup, ev_lst, ev_nil, ev_cons, ev_nc, ev_cn, ev_nn, ev_ni, ev_in, at0, at1, at2, at3, cst0, cst1, cst2, cst3, cst4, cst7, cst9, check_fraction_eval f, check_digits_eval h0 h6, power_eval d _ h0 h6, k1, k2, k3, beq_dec]
/-- d digits are enough for the limit l / m -/
def lc (a b l m d : Int) : Prop := (if en .neven a b d < 0 then -(en .neven a b d) else en .neven a b d) * m ≤ l * (b * pw d)
instance (a b l m d : Int) : Decidable (lc a b l m d) := by unfold lc; infer_instance
def ldf (a b l m : Int) : W := if lc a b l m 0 then .int 0 else if lc a b l m 1 then .int 1 else if lc a b l m 2 then .int 2 else if lc a b l m 3 then .int 3 else if lc a b l m 4 then .int 4 else if lc a b l m 5 then .int 5 else if lc a b l m 6 then .int 6 else .non
theorem abs_mul_pos {g p : Int} (hg : 0 < g) : (if g * p < 0 then -(g * p) else g * p) = g * (if p < 0 then -p else p) := by
  by_cases h : p < 0
  · have : g * p < 0 := Int.mul_neg_of_pos_of_neg hg h
    rw [if_pos h, if_pos this, Int.mul_neg]
  · have : ¬ g * p < 0 := by
      have := Int.mul_nonneg (Int.le_of_lt hg) (by omega : 0 ≤ p)
      omega
    rw [if_neg h, if_neg this]
theorem lc_low {a b d l m g p q : Int} (hg : 0 < g) (hp : en .neven a b d = g * p) (hq : b * pw d = g * q) : decide ((if p < 0 then -p else p) * m ≤ l * q) = decide (lc a b l m d) := by
  apply decide_eq_decide.mpr
  unfold lc
  rw [hp, hq, abs_mul_pos hg, Int.mul_assoc, Int.mul_left_comm l g q]
  constructor
  · intro h; exact Int.mul_le_mul_of_nonneg_left h (Int.le_of_lt hg)
  · intro h; exact Int.le_of_mul_le_mul_left h hg
theorem rg7 : rgW 0 (7 : Int).toNat = [.int 0, .int 1, .int 2, .int 3, .int 4, .int 5, .int 6] := by rfl
theorem u_ldf (env : En) (S : Sto) : b_least_digits_for_L0 env S = (sSeq (sSet 3 (eCall m_minus (aCons (eCall m_lowest (aCons (eCall m_units_of (aCons (eVar 0) (aCons (eVar 2) (aCons (eC (.str "near-even")) aNil)))) (aCons (eCall m_power_of (aCons (eVar 2) aNil)) aNil))) (aCons (eVar 0) aNil))))
  (sIf (tV (eOp opLe (eOp opMul (eCall cAbs (aCons (eOp opIx (eVar 3) (eC (.int 0))) aNil)) (eOp opIx (eVar 1) (eC (.int 1)))) (eOp opMul (eOp opIx (eVar 1) (eC (.int 0))) (eOp opIx (eVar 3) (eC (.int 1))))))
  (sRet (eVar 2))
  sPass)) env S := rfl
theorem ldf_step {a b l m d : Int} (f : Fr a b) (fl : Fr l m) (S : Sto) (h0 : 0 ≤ d) (h6 : d ≤ 6) (x : Sl) : ∃ y, b_least_digits_for_L0 [.val (fr a b), .val (fr l m), .val (.int d), x] S = if lc a b l m d then .rt (.int d) S else .nx [.val (fr a b), .val (fr l m), .val (.int d), .val y] S := by
  have b0 := f.b0
  have b1 := f.b1
  have m0 := fl.b0
  have m1 := fl.b1
  obtain ⟨p, q, e1, e2⟩ := gap_eval (uo .neven (a * pw d) b) a b d S S h6 (by omega) f.s
  have hy : 0 < b * pw d := Int.mul_pos (by omega) (pw_pos d)
  obtain ⟨g, p', q', hg, hp, hq, hq0, e3, _⟩ := low_parts (uo .neven (a * pw d) b * b - a * pw d) hy
  refine ⟨fr p' q', ?_⟩
  have hu := units_eval .neven a b d S h0 h6 (by omega : 0 < b) f.s
  have hn : nm .neven = ("near-even" : Str) := rfl
  rw [hn] at hu
  have q1 : q' ≤ b * pw d := by
    have : 1 * q' ≤ g * q' := Int.mul_le_mul_of_nonneg_right (by omega) (by omega)
    omega
  have q2 : b * pw d ≤ 60 * 1000000 := Int.mul_le_mul b1 (pw_le h6) (Int.le_of_lt (pw_pos d)) (by decide)
  have k1 : ∀ x : Int, gMul x m := fun x => .inr (.inl (fl.s))
  have k2 : gMul l q' := .inr (.inl (by unfold s64; omega))
  have key := lc_low (a := a) (b := b) (d := d) (l := l) (m := m) hg hp hq
  simp only [u_ldf, p_bind, b_ok, b_exn, b_bad, b_ite, s_ok, s_exn, s_bad, s_ite, q_nx, q_rt, q_exn, q_bad, q_ite, f_nx, f_rt, f_exn, f_bad, f_ite, i_ok, i_rt, i_int, i_bl, i_tt, i_ff, p_ret, p_eC, p_eVar, p_eOp, p_eUn, p_aNil, p_aCons, p_eCall, p_isB, p_tV, p_tNot, p_tAnd, p_tOr, p_eAnd, p_eOr, p_eNot, p_eIf, p_eTup, p_eLst, p_eChain, p_sBind, p_sSeq, p_sPass, p_sRet, p_sRetN, p_sDrop, p_sSet, p_sIf, p_sRaise, p_sAug, p_sUnp, p_sPar, p_sFor, p_bdN, p_bdT, p_body, p_add, p_addS, p_addT, p_addL, p_addI, p_sub, p_mul, p_mulI, p_mulS, p_fdiv, p_mod, p_pow, p_lt, p_le, p_gt, p_ge, p_isN, p_isB2, p_isnN, p_isnB2, p_neg, p_ixT, p_ixL, p_ixO, p_ofS, p_abs, p_max2, p_lenT, p_lenL, p_lenO, p_eq, p_ne, p_isI, p_iLst, p_iTup, p_iRg1, p_iRg2, p_eNewS, p_eComp, p_inB, p_in, p_nin, p_sSto, List.map_cons, List.map_nil, List.cons_append, List.nil_append, List.append_nil, List.set_cons_zero, List.set_cons_succ, List.getElem?_cons_zero, List.getElem?_cons_succ, List.getElem?_nil, List.length_cons, List.length_nil, List.zip_cons_cons, List.zip_nil_left, List.zip_nil_right, List.foldl_cons, List.foldl_nil, List.replicate, Nat.sub_self, Nat.reduceSub, Nat.reduceAdd, Nat.reduceLeDiff, Nat.reduceLT, Nat.zero_add, Int.reduceLT, Int.reduceLE, Int.reduceNeg, Int.reduceSub, Int.reduceAdd, Int.reduceMul, Int.reduceBEq, Bool.or_true, Bool.true_or, Bool.or_false, Bool.false_or, if_true, if_false, ite_true, ite_false, reduceIte, Bool.not_true, Bool.not_false, Bool.true_and, Bool.and_true, Bool.false_and, Bool.and_false, decide_true, decide_false, Bool.false_eq_true, eq_self, reduceCtorEq, true_and, and_true, and_self, sh, shs, dat, dats, ev_int, ev_str, ev_bl, ev_tup, ev_lst, ev_nil, ev_cons, ev_nc, ev_cn, ev_nn, ev_ni, ev_in, at0, at1, at2, at3, cst0, cst1, cst2, cst3, cst4, cst7, cst9, hu, power_eval d _ h0 h6, e1, e2, e3, k1, k2, key, decide_eq_true_eq]
theorem ldf_eval {a b l m : Int} (f : Fr a b) (fl : Fr l m) (S : Sto) : m_least_digits_for [fr a b, fr l m] S = .ok (ldf a b l m) S := by
  have s7 : smI 7 := by decide
  simp only [m_least_digits_for, b_least_digits_for, p_bind, b_ok, b_exn, b_bad, b_ite, s_ok, s_exn, s_bad, s_ite, q_nx, q_rt, q_exn, q_bad, q_ite, f_nx, f_rt, f_exn, f_bad, f_ite, i_ok, i_rt, i_int, i_bl, i_tt, i_ff, p_ret, p_eC, p_eVar, p_eOp, p_eUn, p_aNil, p_aCons, p_eCall, p_isB, p_tV, p_tNot, p_tAnd, p_tOr, p_eAnd, p_eOr, p_eNot, p_eIf, p_eTup, p_eLst, p_eChain, p_sBind, p_sSeq, p_sPass, p_sRet, p_sRetN, p_sDrop, p_sSet, p_sIf, p_sRaise, p_sAug, p_sUnp, p_sPar, p_sFor, p_bdN, p_bdT, p_body, p_add, p_addS, p_addT, p_addL, p_addI, p_sub, p_mul, p_mulI, p_mulS, p_fdiv, p_mod, p_pow, p_lt, p_le, p_gt, p_ge, p_isN, p_isB2, p_isnN, p_isnB2, p_neg, p_ixT, p_ixL, p_ixO, p_ofS, p_abs, p_max2, p_lenT, p_lenL, p_lenO, p_eq, p_ne, p_isI, p_iLst, p_iTup, p_iRg1, p_iRg2, p_eNewS, p_eComp, p_inB, p_in, p_nin, p_sSto, List.map_cons, List.map_nil, List.cons_append, List.nil_append, List.append_nil, List.set_cons_zero, List.set_cons_succ, List.getElem?_cons_zero, List.getElem?_cons_succ, List.getElem?_nil, List.length_cons, List.length_nil, List.zip_cons_cons, List.zip_nil_left, List.zip_nil_right, List.foldl_cons, List.foldl_nil, List.replicate, Nat.sub_self, Nat.reduceSub, Nat.reduceAdd, Nat.reduceLeDiff, Nat.reduceLT, Nat.zero_add, Int.reduceLT, Int.reduceLE, Int.reduceNeg, Int.reduceSub, Int.reduceAdd, Int.reduceMul, Int.reduceBEq, Bool.or_true, Bool.true_or, Bool.or_false, Bool.false_or, if_true, if_false, ite_true, ite_false, reduceIte, Bool.not_true, Bool.not_false, Bool.true_and, Bool.and_true, Bool.false_and, Bool.and_false, decide_true, decide_false, Bool.false_eq_true, eq_self, reduceCtorEq, true_and, and_true, and_self, sh, shs, dat, dats, ev_int, ev_str, ev_bl, ev_tup, ev_lst, ev_nil, ev_cons, ev_nc, ev_cn, ev_nn, ev_ni, ev_in, at0, at1, at2, at3, cst0, cst1, cst2, cst3, cst4, cst7, cst9, check_fraction_eval f, check_fraction_eval fl, s7, rg7]
  obtain ⟨y0, h0⟩ := ldf_step f fl S (d := 0) (by decide) (by decide) .no
  obtain ⟨y1, h1⟩ := ldf_step f fl S (d := 1) (by decide) (by decide) (.val y0)
  obtain ⟨y2, h2⟩ := ldf_step f fl S (d := 2) (by decide) (by decide) (.val y1)
  obtain ⟨y3, h3⟩ := ldf_step f fl S (d := 3) (by decide) (by decide) (.val y2)
  obtain ⟨y4, h4⟩ := ldf_step f fl S (d := 4) (by decide) (by decide) (.val y3)
  obtain ⟨y5, h5⟩ := ldf_step f fl S (d := 5) (by decide) (by decide) (.val y4)
  obtain ⟨y6, h6⟩ := ldf_step f fl S (d := 6) (by decide) (by decide) (.val y5)
  simp only [l_nx, l_rt, l_ite, p_loopN, p_loop0, List.set_cons_zero, List.set_cons_succ, h0, h1, h2, h3, h4, h5, h6]
  unfold ldf
  simp only [p_bind, b_ok, b_exn, b_bad, b_ite, s_ok, s_exn, s_bad, s_ite, q_nx, q_rt, q_exn, q_bad, q_ite, f_nx, f_rt, f_exn, f_bad, f_ite, i_ok, i_rt, i_int, i_bl, i_tt, i_ff, p_ret, p_eC, p_eVar, p_eOp, p_eUn, p_aNil, p_aCons, p_eCall, p_isB, p_tV, p_tNot, p_tAnd, p_tOr, p_eAnd, p_eOr, p_eNot, p_eIf, p_eTup, p_eLst, p_eChain, p_sBind, p_sSeq, p_sPass, p_sRet, p_sRetN, p_sDrop, p_sSet, p_sIf, p_sRaise, p_sAug, p_sUnp, p_sPar, p_sFor, p_bdN, p_bdT, p_body, p_add, p_addS, p_addT, p_addL, p_addI, p_sub, p_mul, p_mulI, p_mulS, p_fdiv, p_mod, p_pow, p_lt, p_le, p_gt, p_ge, p_isN, p_isB2, p_isnN, p_isnB2, p_neg, p_ixT, p_ixL, p_ixO, p_ofS, p_abs, p_max2, p_lenT, p_lenL, p_lenO, p_eq, p_ne, p_isI, p_iLst, p_iTup, p_iRg1, p_iRg2, p_eNewS, p_eComp, p_inB, p_in, p_nin, p_sSto, List.map_cons, List.map_nil, List.cons_append, List.nil_append, List.append_nil, List.set_cons_zero, List.set_cons_succ, List.getElem?_cons_zero, List.getElem?_cons_succ, List.getElem?_nil, List.length_cons, List.length_nil, List.zip_cons_cons, List.zip_nil_left, List.zip_nil_right, List.foldl_cons, List.foldl_nil, List.replicate, Nat.sub_self, Nat.reduceSub, Nat.reduceAdd, Nat.reduceLeDiff, Nat.reduceLT, Nat.zero_add, Int.reduceLT, Int.reduceLE, Int.reduceNeg, Int.reduceSub, Int.reduceAdd, Int.reduceMul, Int.reduceBEq, Bool.or_true, Bool.true_or, Bool.or_false, Bool.false_or, if_true, if_false, ite_true, ite_false, reduceIte, Bool.not_true, Bool.not_false, Bool.true_and, Bool.and_true, Bool.false_and, Bool.and_false, decide_true, decide_false, Bool.false_eq_true, eq_self, reduceCtorEq, true_and, and_true, and_self, sh, shs, dat, dats, ev_int, ev_str, ev_bl, ev_tup, ev_lst, ev_nil, ev_cons, ev_nc, ev_cn, ev_nn, ev_ni, ev_in, at0, at1, at2, at3, cst0, cst1, cst2, cst3, cst4, cst7, cst9]
  repeat' split
  all_goals rfl
end Pu
end
section
namespace Pu
open PySem Zz Mir
mutual
theorem eqv_refl : ∀ w : W, PyData.eqv (dat w) (dat w) = true
  | .non => by simp [dat, PyData.eqv]
  | .bl b => by simp [dat, PyData.eqv]
  | .int i => by simp [dat, PyData.eqv]
  | .str x => by simp [dat, PyData.eqv]
  | .tup xs => by simp only [dat, PyData.eqv]; exact eqvs_refl xs
  | .lst xs => by simp only [dat, PyData.eqv]; exact eqvs_refl xs
  | .scr xs => by simp only [dat, PyData.eqv]; exact eqvs_refl xs
  | .obj _ => by simp [dat, PyData.eqv]
  | .exc _ => by simp [dat, PyData.eqv]
theorem eqvs_refl : ∀ ws : List W, PyData.eqvAll (dats ws) (dats ws) = true
  | [] => by simp [dats, PyData.eqvAll]
  | x :: xs => by simp only [dats, PyData.eqvAll, eqv_refl x, eqvs_refl xs, Bool.and_self]
end
theorem comp_all {bd : Bd} {cond : En → M Bool} {elt : EM} {envw : En} {S : Sto} (f : W → W) (p : W → Bool) : ∀ (ws acc : List W), (∀ w ∈ ws, ∃ env1, bd w envw = some env1 ∧ cond env1 S = .ok (p w) S ∧ (p w = true → elt env1 S = .ok (f w) S)) → acc.length + ws.length ≤ 1000000 →
    compL bd cond elt envw ws acc S = .ok (acc ++ (ws.filter p).map f) S
  | [], acc, _, _ => by unfold compL; simp [M.ret]
  | w :: r, acc, h, hl => by
    obtain ⟨env1, h1, h2, h3⟩ := h w List.mem_cons_self
    have hr : ∀ w ∈ r, ∃ env1, bd w envw = some env1 ∧ cond env1 S = .ok (p w) S ∧ (p w = true → elt env1 S = .ok (f w) S) := fun w hw => h w (List.mem_cons_of_mem _ hw)
    rw [List.length_cons] at hl
    unfold compL
    simp only [h1, h2]
    cases hp : p w with
    | false =>
      rw [List.filter_cons_of_neg (by rw [hp]; decide)]
      exact comp_all f p r acc hr (by omega)
    | true =>
      rw [List.filter_cons_of_pos hp]
      simp only [h3 hp]
      rw [if_pos (by omega), comp_all f p r (acc ++ [f w]) hr (by rw [List.length_append]; simp; omega), List.map_cons, List.append_assoc]
      rfl
theorem comp_map {bd : Bd} {elt : EM} {envw : En} {S : Sto} (f : W → W) (ws : List W) (h : ∀ w ∈ ws, ∃ env1, bd w envw = some env1 ∧ elt env1 S = .ok (f w) S) (hl : ws.length ≤ 1000000) : compL bd cYes elt envw ws [] S = .ok (ws.map f) S := by
  have := comp_all (bd := bd) (cond := cYes) (elt := elt) (envw := envw) (S := S) f (fun _ => true) ws [] (fun w hw => by
    obtain ⟨e, h1, h2⟩ := h w hw
    exact ⟨e, h1, rfl, fun _ => h2⟩) (by simpa using hl)
  rw [this, List.filter_eq_self.mpr (fun _ _ => rfl)]
  rfl
def rus (f : Ru → W) : List W := Ru.all.map f
theorem rules_eval (S : Sto) : m__law_rules [] S = .ok (.lst (rus fun r => .str (nm r))) S := rfl
theorem mem_rus {f : Ru → W} {w : W} (h : w ∈ rus f) : ∃ r, w = f r := by
  obtain ⟨r, _, e⟩ := List.mem_map.mp h
  exact ⟨r, e.symm⟩
theorem all_rounded_eval {a b d : Int} (f : Fr a b) (S : Sto) (h0 : 0 ≤ d) (h6 : d ≤ 6) : m_all_rounded [fr a b, .int d] S = .ok (.lst (rus fun r => .int (uo r (a * pw d) b))) S := by
  have b0 := f.b0
  have e : (([("down" : Str), "up", "zero", "near-up", "near-zero", "near-away", "near-even"] : List Str).map W.str) = rus fun r => .str (nm r) := rfl
  have hc := comp_map (bd := bdN 2) (elt := b_all_rounded_C0) (envw := [.val (fr a b), .val (.int d), .no]) (S := S) (fun w => match w with | .str s => (if s = nm .down then .int (uo .down (a * pw d) b) else if s = nm .up then .int (uo .up (a * pw d) b) else if s = nm .zero then .int (uo .zero (a * pw d) b) else if s = nm .nup then .int (uo .nup (a * pw d) b) else if s = nm .nzero then .int (uo .nzero (a * pw d) b) else if s = nm .naway then .int (uo .naway (a * pw d) b) else .int (uo .neven (a * pw d) b)) | _ => .non) (rus fun r => .str (nm r)) (fun w hw => by
    obtain ⟨r, rfl⟩ := mem_rus hw
    refine ⟨_, rfl, ?_⟩
    simp only [b_all_rounded_C0, p_bind, b_ok, b_exn, b_bad, b_ite, s_ok, s_exn, s_bad, s_ite, q_nx, q_rt, q_exn, q_bad, q_ite, f_nx, f_rt, f_exn, f_bad, f_ite, i_ok, i_rt, i_int, i_bl, i_tt, i_ff, p_ret, p_eC, p_eVar, p_eOp, p_eUn, p_aNil, p_aCons, p_eCall, p_isB, p_tV, p_tNot, p_tAnd, p_tOr, p_eAnd, p_eOr, p_eNot, p_eIf, p_eTup, p_eLst, p_eChain, p_sBind, p_sSeq, p_sPass, p_sRet, p_sRetN, p_sDrop, p_sSet, p_sIf, p_sRaise, p_sAug, p_sUnp, p_sPar, p_sFor, p_bdN, p_bdT, p_body, p_add, p_addS, p_addT, p_addL, p_addI, p_sub, p_mul, p_mulI, p_mulS, p_fdiv, p_mod, p_pow, p_lt, p_le, p_gt, p_ge, p_isN, p_isB2, p_isnN, p_isnB2, p_neg, p_ixT, p_ixL, p_ixO, p_ofS, p_abs, p_max2, p_lenT, p_lenL, p_lenO, p_eq, p_ne, p_isI, p_iLst, p_iTup, p_iRg1, p_iRg2, p_eNewS, p_eComp, p_inB, p_in, p_nin, p_sSto, List.map_cons, List.map_nil, List.cons_append, List.nil_append, List.append_nil, List.set_cons_zero, List.set_cons_succ, List.getElem?_cons_zero, List.getElem?_cons_succ, List.getElem?_nil, List.length_cons, List.length_nil, List.zip_cons_cons, List.zip_nil_left, List.zip_nil_right, List.foldl_cons, List.foldl_nil, List.replicate, Nat.sub_self, Nat.reduceSub, Nat.reduceAdd, Nat.reduceLeDiff, Nat.reduceLT, Nat.zero_add, Int.reduceLT, Int.reduceLE, Int.reduceNeg, Int.reduceSub, Int.reduceAdd, Int.reduceMul, Int.reduceBEq, Bool.or_true, Bool.true_or, Bool.or_false, Bool.false_or, if_true, if_false, ite_true, ite_false, reduceIte, Bool.not_true, Bool.not_false, Bool.true_and, Bool.and_true, Bool.false_and, Bool.and_false, decide_true, decide_false, Bool.false_eq_true, eq_self, reduceCtorEq, true_and, and_true, and_self, sh, shs, dat, dats, ev_int, ev_str, ev_bl, ev_tup, ev_lst, ev_nil, ev_cons, ev_nc, ev_cn, ev_nn, ev_ni, ev_in, at0, at1, at2, at3, cst0, cst1, cst2, cst3, cst4, cst7, cst9, units_eval r a b d _ h0 h6 (by omega : 0 < b) f.s]
    cases r <;> rfl) (by decide)
  simp only [m_all_rounded, b_all_rounded, p_bind, b_ok, b_exn, b_bad, b_ite, s_ok, s_exn, s_bad, s_ite, q_nx, q_rt, q_exn, q_bad, q_ite, f_nx, f_rt, f_exn, f_bad, f_ite, i_ok, i_rt, i_int, i_bl, i_tt, i_ff, p_ret, p_eC, p_eVar, p_eOp, p_eUn, p_aNil, p_aCons, p_eCall, p_isB, p_tV, p_tNot, p_tAnd, p_tOr, p_eAnd, p_eOr, p_eNot, p_eIf, p_eTup, p_eLst, p_eChain, p_sBind, p_sSeq, p_sPass, p_sRet, p_sRetN, p_sDrop, p_sSet, p_sIf, p_sRaise, p_sAug, p_sUnp, p_sPar, p_sFor, p_bdN, p_bdT, p_body, p_add, p_addS, p_addT, p_addL, p_addI, p_sub, p_mul, p_mulI, p_mulS, p_fdiv, p_mod, p_pow, p_lt, p_le, p_gt, p_ge, p_isN, p_isB2, p_isnN, p_isnB2, p_neg, p_ixT, p_ixL, p_ixO, p_ofS, p_abs, p_max2, p_lenT, p_lenL, p_lenO, p_eq, p_ne, p_isI, p_iLst, p_iTup, p_iRg1, p_iRg2, p_eNewS, p_eComp, p_inB, p_in, p_nin, p_sSto, List.map_cons, List.map_nil, List.cons_append, List.nil_append, List.append_nil, List.set_cons_zero, List.set_cons_succ, List.getElem?_cons_zero, List.getElem?_cons_succ, List.getElem?_nil, List.length_cons, List.length_nil, List.zip_cons_cons, List.zip_nil_left, List.zip_nil_right, List.foldl_cons, List.foldl_nil, List.replicate, Nat.sub_self, Nat.reduceSub, Nat.reduceAdd, Nat.reduceLeDiff, Nat.reduceLT, Nat.zero_add, Int.reduceLT, Int.reduceLE, Int.reduceNeg, Int.reduceSub, Int.reduceAdd, Int.reduceMul, Int.reduceBEq, Bool.or_true, Bool.true_or, Bool.or_false, Bool.false_or, if_true, if_false, ite_true, ite_false, reduceIte, Bool.not_true, Bool.not_false, Bool.true_and, Bool.and_true, Bool.false_and, Bool.and_false, decide_true, decide_false, Bool.false_eq_true, eq_self, reduceCtorEq, true_and, and_true, and_self, sh, shs, dat, dats, ev_int, ev_str, ev_bl, ev_tup, ev_lst, ev_nil, ev_cons, ev_nc, ev_cn, ev_nn, ev_ni, ev_in, at0, at1, at2, at3, cst0, cst1, cst2, cst3, cst4, cst7, cst9, check_fraction_eval f, check_digits_eval h0 h6, e]
  have k1 : noOwn [2] [Sl.val (fr a b), Sl.val (W.int d), Sl.no] = true := rfl
  have k2 : kill [2] [Sl.val (fr a b), Sl.val (W.int d), Sl.no] = [.val (fr a b), .val (.int d), .no] := rfl
  simp only [k1, k2, hc, p_bind, b_ok, b_exn, b_bad, b_ite, s_ok, s_exn, s_bad, s_ite, q_nx, q_rt, q_exn, q_bad, q_ite, f_nx, f_rt, f_exn, f_bad, f_ite, i_ok, i_rt, i_int, i_bl, i_tt, i_ff, p_ret, p_eC, p_eVar, p_eOp, p_eUn, p_aNil, p_aCons, p_eCall, p_isB, p_tV, p_tNot, p_tAnd, p_tOr, p_eAnd, p_eOr, p_eNot, p_eIf, p_eTup, p_eLst, p_eChain, p_sBind, p_sSeq, p_sPass, p_sRet, p_sRetN, p_sDrop, p_sSet, p_sIf, p_sRaise, p_sAug, p_sUnp, p_sPar, p_sFor, p_bdN, p_bdT, p_body, p_add, p_addS, p_addT, p_addL, p_addI, p_sub, p_mul, p_mulI, p_mulS, p_fdiv, p_mod, p_pow, p_lt, p_le, p_gt, p_ge, p_isN, p_isB2, p_isnN, p_isnB2, p_neg, p_ixT, p_ixL, p_ixO, p_ofS, p_abs, p_max2, p_lenT, p_lenL, p_lenO, p_eq, p_ne, p_isI, p_iLst, p_iTup, p_iRg1, p_iRg2, p_eNewS, p_eComp, p_inB, p_in, p_nin, p_sSto, List.map_cons, List.map_nil, List.cons_append, List.nil_append, List.append_nil, List.set_cons_zero, List.set_cons_succ, List.getElem?_cons_zero, List.getElem?_cons_succ, List.getElem?_nil, List.length_cons, List.length_nil, List.zip_cons_cons, List.zip_nil_left, List.zip_nil_right, List.foldl_cons, List.foldl_nil, List.replicate, Nat.sub_self, Nat.reduceSub, Nat.reduceAdd, Nat.reduceLeDiff, Nat.reduceLT, Nat.zero_add, Int.reduceLT, Int.reduceLE, Int.reduceNeg, Int.reduceSub, Int.reduceAdd, Int.reduceMul, Int.reduceBEq, Bool.or_true, Bool.true_or, Bool.or_false, Bool.false_or, if_true, if_false, ite_true, ite_false, reduceIte, Bool.not_true, Bool.not_false, Bool.true_and, Bool.and_true, Bool.false_and, Bool.and_false, decide_true, decide_false, Bool.false_eq_true, eq_self, reduceCtorEq, true_and, and_true, and_self, sh, shs, dat, dats, ev_int, ev_str, ev_bl, ev_tup, ev_lst, ev_nil, ev_cons, ev_nc, ev_cn, ev_nn, ev_ni, ev_in, at0, at1, at2, at3, cst0, cst1, cst2, cst3, cst4, cst7, cst9]
  rfl
/-! ### bounds -/
theorem uo_bound (r : Ru) (n : Int) {b : Int} (hb : 0 < b) : -b < uo r n b * b - n ∧ uo r n b * b - n < b := by
  have hdm := Int.mul_ediv_add_emod n b
  have hm0 := Int.emod_nonneg n (by omega : b ≠ 0)
  have hm1 := Int.emod_lt_of_pos n hb
  have e1 : (n / b + 1) * b = b * (n / b) + b := by rw [Int.add_mul, Int.mul_comm]; omega
  have e2 : n / b * b = b * (n / b) := Int.mul_comm ..
  have key : uo r n b = n / b ∨ (uo r n b = n / b + 1 ∧ n % b ≠ 0) := by
    unfold uo
    by_cases h : n % b = 0
    · left; simp only [h, true_or, if_true]
    · simp only [h, false_or]
      (repeat' split) <;> first | exact .inl rfl | exact .inr ⟨rfl, h⟩
  rcases key with h | ⟨h, hx⟩
  · rw [h, e2]; omega
  · rw [h, e1]; omega
theorem uo_near (r : Ru) (n : Int) {b : Int} (hb : 0 < b) (h : r ≠ .down ∧ r ≠ .up ∧ r ≠ .zero) : -b ≤ 2 * (uo r n b * b - n) ∧ 2 * (uo r n b * b - n) ≤ b := by
  have hdm := Int.mul_ediv_add_emod n b
  have hm0 := Int.emod_nonneg n (by omega : b ≠ 0)
  have hm1 := Int.emod_lt_of_pos n hb
  have e1 : (n / b + 1) * b = b * (n / b) + b := by rw [Int.add_mul, Int.mul_comm]; omega
  have e2 : n / b * b = b * (n / b) := Int.mul_comm ..
  have key : (uo r n b = n / b ∧ 2 * (n % b) ≤ b) ∨ (uo r n b = n / b + 1 ∧ b ≤ 2 * (n % b)) := by
    unfold uo
    simp only [h.1, h.2.1, h.2.2, or_false, if_false]
    (repeat' split) <;> first | exact .inl ⟨rfl, by omega⟩ | exact .inr ⟨rfl, by omega⟩
  rcases key with ⟨h, hx⟩ | ⟨h, hx⟩
  · rw [h, e2]; omega
  · rw [h, e1]; omega
end Pu
end
section
namespace Pu
open PySem Zz Mir
section
variable {env : En} {S S' : Sto} {a b c : EM} {lo hi : OM} {am : AM} {i : Nat} {m : SM}
theorem p_eSl : eSl a lo hi env S = bnR (a env S) fun x S => bnR (lo env S) fun l S => bnR (hi env S) fun h S => opSl x l h S := rfl
theorem p_oNone : oNone env S = .ok none S := rfl
def oI (w : W) : M (Option Int) := match w with | .int i => M.ret (some i) | _ => fun _ => .bad
theorem p_oSome : oSome a env S = bnR (a env S) oI := by
  unfold oSome M.bind bnR oI
  cases h : a env S with
  | ok w S' => cases w <;> simp [h]
  | _ => simp [h]
theorem p_oI (i : Int) : oI (.int i) S = .ok (some i) S := rfl
theorem p_slL (xs : List W) (lo hi : Option Int) : opSl (.lst xs) lo hi S = .ok (.lst (cutW xs lo hi)) S := rfl
theorem nO_nil : noOwn [] env = true := rfl
theorem nO_cons (r : List Nat) : noOwn (i :: r) env = ((match env[i]? with | some (.own _) => false | _ => true) && noOwn r env) := rfl
theorem kl_nil : kill [] env = env := rfl
theorem kl_cons (r : List Nat) : kill (i :: r) env = (kill r env).set i .no := rfl
def lsR (w : W) : M W := match w with
  | .lst xs => fun S => match toInts xs with
    | some ns => if ns.length ≤ 4000 then .ok (.int (dedup ns).length) S else .bad
    | none => .bad
  | _ => fun _ => .bad
theorem p_eLenSet : eLenSet a env S = bnR (a env S) lsR := rfl
theorem toInts_map : ∀ ns : List Int, toInts (ns.map W.int) = some ns
  | [] => rfl
  | x :: r => by rw [List.map_cons]; unfold toInts; rw [toInts_map r]; rfl
theorem p_ls (ns : List Int) (h : ns.length ≤ 4000) : lsR (.lst (ns.map W.int)) S = .ok (.int (dedup ns).length) S := by
  unfold lsR
  simp only [toInts_map, h, if_true]
theorem p_sOwn : sOwn i am env S = sbn (am env S) (fun ws env S => if ws.length ≤ 1000 then .nx (env.set i (.own ws)) S else .bad) env := rfl
def frzR (o : Option Sl) (i : Nat) (m : SM) : SM := fun env S => match o with | some (.own ws) => m (env.set i (.val (.lst ws))) S | _ => m env S
theorem p_sFrz : sFrz i m env S = frzR env[i]? i m env S := rfl
theorem z_own (ws : List W) : frzR (some (.own ws)) i m env S = m (env.set i (.val (.lst ws))) S := rfl
theorem z_val (w : W) : frzR (some (.val w)) i m env S = m env S := rfl
theorem z_no : frzR (some .no) i m env S = m env S := rfl
def appR (o : Option Sl) (i : Nat) (a : EM) : SM := fun env S => match o with | some (.own ws) => sbn (a env S) (fun w env S => if ws.length < 1000000 then .nx (env.set i (.own (ws ++ [w]))) S else .bad) env | _ => .bad
theorem p_sApp : sApp i a env S = appR env[i]? i a env S := rfl
theorem a_own (ws : List W) : appR (some (.own ws)) i a env S = sbn (a env S) (fun w env S => if ws.length < 1000000 then .nx (env.set i (.own (ws ++ [w]))) S else .bad) env := rfl
def oixR (ws : List W) (k : W) : M W := match k with | .int j => ofOpt (L2.atI ws j) | _ => fun _ => .bad
def oixO (o : Option Sl) (a : EM) : EM := fun env => match o with | some (.own ws) => M.bind (a env) (oixR ws) | _ => fun _ => .bad
theorem p_eOix : eOix i a env S = oixO env[i]? a env S := rfl
theorem x_own (ws : List W) : oixO (some (.own ws)) a env S = bnR (a env S) (oixR ws) := rfl
theorem x_int (ws : List W) (j : Int) : oixR ws (.int j) S = ofOpt (L2.atI ws j) S := rfl
end
/-! ### how many values -/
theorem dedup_eq (ns : List Int) : dedup ns = ns.foldl PyProof.Rows.step_dedup [] := by
  unfold dedup
  congr 1
  apply List.ext_getElem (by simp)
  intro i h1 h2
  simp only [List.getElem_map, List.getElem_range]
  rw [List.getD_eq_getElem?_getD, List.getElem?_eq_getElem h2]
  rfl
theorem sd_in {ks : List Int} {x : Int} (h : x ∈ ks) : PyProof.Rows.step_dedup ks x = ks := by
  unfold PyProof.Rows.step_dedup
  rw [if_pos]
  exact List.any_eq_true.mpr ⟨x, h, by simp⟩
theorem sd_out {ks : List Int} {x : Int} (h : x ∉ ks) : PyProof.Rows.step_dedup ks x = ks ++ [x] := by
  unfold PyProof.Rows.step_dedup
  rw [if_neg]
  intro q
  obtain ⟨y, hy, e⟩ := List.any_eq_true.mp q
  have e2 : y = x := by simpa using e
  exact h (e2 ▸ hy)
theorem dd_full {p q : Int} : ∀ l : List Int, (∀ x ∈ l, x = p ∨ x = q) → l.foldl PyProof.Rows.step_dedup [p, q] = [p, q]
  | [], _ => rfl
  | x :: r, h => by
    rw [List.foldl_cons, sd_in (by rcases h x List.mem_cons_self with e | e <;> simp [e])]
    exact dd_full r fun y hy => h y (List.mem_cons_of_mem _ hy)
theorem dd_one {p q : Int} (hpq : q ≠ p) : ∀ l : List Int, (∀ x ∈ l, x = p ∨ x = q) → (l.foldl PyProof.Rows.step_dedup [p]).length = if q ∈ l then 2 else 1
  | [], _ => rfl
  | x :: r, h => by
    have hr : ∀ y ∈ r, y = p ∨ y = q := fun y hy => h y (List.mem_cons_of_mem _ hy)
    rw [List.foldl_cons]
    by_cases e : x = q
    · subst e
      rw [sd_out (by simpa using hpq)]
      rw [show ([p] ++ [x] : List Int) = [p, x] from rfl, dd_full r hr, if_pos List.mem_cons_self]
      rfl
    · have e2 : x = p := (h x List.mem_cons_self).resolve_right e
      rw [sd_in (by simp [e2]), dd_one hpq r hr]
      simp only [List.mem_cons]
      by_cases k : q ∈ r
      · simp [k]
      · simp [k, e2, hpq]
theorem dd_len {p q : Int} (hpq : q ≠ p) (l : List Int) (h : ∀ x ∈ l, x = p ∨ x = q) : (dedup (p :: l)).length = if q ∈ l then 2 else 1 := by
  rw [dedup_eq, List.foldl_cons]
  have e : PyProof.Rows.step_dedup [] p = [p] := rfl
  rw [e, dd_one hpq l h]
end Pu
end
section
namespace Pu
open PySem Zz Mir
/-! ### the ends of what is read so, over twice the power -/
def xl (r : Ru) (u : Int) : Int := match r with
  | .down => 2 * u
  | .up => 2 * u - 2
  | .zero => if 0 < u then 2 * u else 2 * u - 2
  | _ => 2 * u - 1
def xh (r : Ru) (u : Int) : Int := match r with
  | .down => 2 * u + 2
  | .up => 2 * u
  | .zero => if u < 0 then 2 * u else 2 * u + 2
  | _ => 2 * u + 1
def bl (r : Ru) (u : Int) : Bool := match r with
  | .down => true
  | .up => false
  | .zero => decide (0 < u)
  | .nup => true
  | .nzero => decide (u ≤ 0)
  | .naway => decide (0 < u)
  | .neven => decide (u % 2 = 0)
def bh (r : Ru) (u : Int) : Bool := match r with
  | .down => false
  | .up => true
  | .zero => decide (u < 0)
  | .nup => false
  | .nzero => decide (0 ≤ u)
  | .naway => decide (u < 0)
  | .neven => decide (u % 2 = 0)
theorem uo_iff (r : Ru) (n u : Int) {b : Int} (hb : 0 < b) : uo r n b = u ↔ ((xl r u * b < 2 * n ∨ (xl r u * b = 2 * n ∧ bl r u = true)) ∧ (2 * n < xh r u * b ∨ (2 * n = xh r u * b ∧ bh r u = true))) := by
  have hdm := Int.mul_ediv_add_emod n b
  have hm0 := Int.emod_nonneg n (by omega : b ≠ 0)
  have hm1 := Int.emod_lt_of_pos n hb
  obtain ⟨q, hq⟩ : ∃ q, q = n / b := ⟨_, rfl⟩
  obtain ⟨m, hm⟩ : ∃ m, m = n % b := ⟨_, rfl⟩
  rw [← hq, ← hm] at hdm
  rw [← hm] at hm0 hm1
  have hs : (0 ≤ q ∧ 0 ≤ b * q) ∨ (q < 0 ∧ b * q ≤ -b) := by
    by_cases h : 0 ≤ q
    · exact .inl ⟨h, Int.mul_nonneg (by omega) h⟩
    · right
      refine ⟨by omega, ?_⟩
      have : b * q ≤ b * (-1) := Int.mul_le_mul_of_nonneg_left (by omega) (by omega)
      omega
  have ht : (u ≤ q - 1 ∧ b * u ≤ b * q - b) ∨ (u = q ∧ b * u = b * q) ∨ (u = q + 1 ∧ b * u = b * q + b) ∨ (q + 2 ≤ u ∧ b * q + 2 * b ≤ b * u) := by
    by_cases h1 : u ≤ q - 1
    · left
      refine ⟨h1, ?_⟩
      have : b * u ≤ b * (q - 1) := Int.mul_le_mul_of_nonneg_left h1 (by omega)
      rw [Int.mul_sub] at this
      omega
    · by_cases h2 : u = q
      · right; left; exact ⟨h2, by rw [h2]⟩
      · by_cases h3 : u = q + 1
        · right; right; left; exact ⟨h3, by rw [h3, Int.mul_add]; omega⟩
        · right; right; right
          refine ⟨by omega, ?_⟩
          have : b * (q + 2) ≤ b * u := Int.mul_le_mul_of_nonneg_left (by omega) (by omega)
          rw [Int.mul_add] at this
          omega
  have e0 : (2 * u) * b = 2 * (b * u) := by rw [Int.mul_assoc, Int.mul_comm u b]
  have e1 : (2 * u - 2) * b = 2 * (b * u) - 2 * b := by rw [Int.sub_mul, e0]
  have e2 : (2 * u + 2) * b = 2 * (b * u) + 2 * b := by rw [Int.add_mul, e0]
  have e3 : (2 * u - 1) * b = 2 * (b * u) - b := by rw [Int.sub_mul, e0, Int.one_mul]
  have e4 : (2 * u + 1) * b = 2 * (b * u) + b := by rw [Int.add_mul, e0, Int.one_mul]
  unfold uo
  rw [← hq, ← hm]
  generalize b * u = bu at *
  generalize b * q = bq at *
  cases r <;> simp only [xl, xh, bl, bh, reduceCtorEq, or_true, or_false, if_true, if_false, e0, e1, e2, e3, e4, decide_eq_true_eq, Bool.false_eq_true, and_false, and_true] <;> (repeat' split) <;> (try simp only [e0, e1, e2, e3, e4]) <;> omega
end Pu
end
section
namespace Pu
open PySem Zz Mir
/-! ### ranges -/
structure Sp where
  p : Int
  q : Int
  lb : Bool
  p' : Int
  q' : Int
  hb : Bool
def Sp.w (s : Sp) : W := .tup [fr s.p s.q, .bl s.lb, fr s.p' s.q', .bl s.hb]
/-- a fraction in lowest terms of some size -/
structure An (p q : Int) : Prop where
  q0 : 0 < q
  s : s64 q
  g : Int.gcd p q = 1
structure Sp.Ok (s : Sp) : Prop where
  l : An s.p s.q
  h : An s.p' s.q'
def Sp.In (s : Sp) (a b : Int) : Prop := (s.p * b < a * s.q ∨ (s.p * b = a * s.q ∧ s.lb = true)) ∧ (a * s.q' < s.p' * b ∨ (a * s.q' = s.p' * b ∧ s.hb = true))
instance (s : Sp) (a b : Int) : Decidable (s.In a b) := by unfold Sp.In; infer_instance
def Sp.Ne (s : Sp) : Prop := s.p * s.q' < s.p' * s.q ∨ (s.p * s.q' = s.p' * s.q ∧ s.lb = true ∧ s.hb = true)
instance (s : Sp) : Decidable s.Ne := by unfold Sp.Ne; infer_instance
theorem Fr.an {a b : Int} (f : Fr a b) : An a b := ⟨by have := f.b0; omega, f.s, f.g⟩
theorem cop_dvd {q p b : Int} (g : Int.gcd p q = 1) (h : q ∣ p * b) : q ∣ b := by
  have h1 : q.natAbs ∣ p.natAbs * b.natAbs := by rw [← Int.natAbs_mul]; exact Int.natAbs_dvd_natAbs.mpr h
  have h2 : Nat.Coprime q.natAbs p.natAbs := by
    have : Nat.gcd p.natAbs q.natAbs = 1 := g
    rw [Nat.coprime_iff_gcd_eq_one, Nat.gcd_comm]
    exact this
  exact Int.natAbs_dvd_natAbs.mp (h2.dvd_of_dvd_mul_left h1)
theorem an_eq {a b p q : Int} (f : An a b) (e : An p q) : (a = p ∧ b = q) ↔ p * b = a * q := by
  constructor
  · rintro ⟨rfl, rfl⟩; rfl
  · intro h
    have h1 : q ∣ p * b := ⟨a, by rw [h, Int.mul_comm]⟩
    have h2 : b ∣ a * q := ⟨p, by rw [← h, Int.mul_comm]⟩
    have g1 : q ∣ b := cop_dvd e.g h1
    have g2 : b ∣ q := cop_dvd f.g h2
    have l1 := Int.le_of_dvd f.q0 g1
    have l2 := Int.le_of_dvd e.q0 g2
    have hq : b = q := Int.le_antisymm l2 l1
    subst hq
    exact ⟨(Int.eq_of_mul_eq_mul_right (by have := f.q0; omega) h).symm, rfl⟩
theorem eqv_fr (a b p q : Int) : PyData.eqv (dat (fr a b)) (dat (fr p q)) = (decide (a = p) && decide (b = q)) := by
  simp only [dat, dats, ev_tup, ev_cons, ev_nil, ev_int, beq_dec, Bool.and_true]
theorem less_eval {a b p q : Int} (h1 : s64 b) (h2 : s64 q) (S : Sto) : m_less [fr a b, fr p q] S = .ok (.bl (decide (a * q < p * b))) S := by
  have k1 : gMul a q := .inr (.inl h2)
  have k2 : gMul p b := .inr (.inl h1)
  simp only [m_less, b_less, p_bind, b_ok, b_exn, b_bad, b_ite, s_ok, s_exn, s_bad, s_ite, q_nx, q_rt, q_exn, q_bad, q_ite, f_nx, f_rt, f_exn, f_bad, f_ite, i_ok, i_rt, i_int, i_bl, i_tt, i_ff, p_ret, p_eC, p_eVar, p_eOp, p_eUn, p_aNil, p_aCons, p_eCall, p_isB, p_tV, p_tNot, p_tAnd, p_tOr, p_eAnd, p_eOr, p_eNot, p_eIf, p_eTup, p_eLst, p_eChain, p_sBind, p_sSeq, p_sPass, p_sRet, p_sRetN, p_sDrop, p_sSet, p_sIf, p_sRaise, p_sAug, p_sUnp, p_sPar, p_sFor, p_bdN, p_bdT, p_body, p_add, p_addS, p_addT, p_addL, p_addI, p_sub, p_mul, p_mulI, p_mulS, p_fdiv, p_mod, p_pow, p_lt, p_le, p_gt, p_ge, p_isN, p_isB2, p_isnN, p_isnB2, p_neg, p_ixT, p_ixL, p_ixO, p_ofS, p_abs, p_max2, p_lenT, p_lenL, p_lenO, p_eq, p_ne, p_isI, p_iLst, p_iTup, p_iRg1, p_iRg2, p_eNewS, p_eComp, p_inB, p_in, p_nin, p_sSto, List.map_cons, List.map_nil, List.cons_append, List.nil_append, List.append_nil, List.set_cons_zero, List.set_cons_succ, List.getElem?_cons_zero, List.getElem?_cons_succ, List.getElem?_nil, List.length_cons, List.length_nil, List.zip_cons_cons, List.zip_nil_left, List.zip_nil_right, List.foldl_cons, List.foldl_nil, List.replicate, Nat.sub_self, Nat.reduceSub, Nat.reduceAdd, Nat.reduceLeDiff, Nat.reduceLT, Nat.zero_add, Int.reduceLT, Int.reduceLE, Int.reduceNeg, Int.reduceSub, Int.reduceAdd, Int.reduceMul, Int.reduceBEq, Bool.or_true, Bool.true_or, Bool.or_false, Bool.false_or, if_true, if_false, ite_true, ite_false, reduceIte, Bool.not_true, Bool.not_false, Bool.true_and, Bool.and_true, Bool.false_and, Bool.and_false, decide_true, decide_false, Bool.false_eq_true, eq_self, reduceCtorEq, true_and, and_true, and_self, sh, shs, dat, dats, ev_int, ev_str, ev_bl, ev_tup, ev_lst, ev_nil, ev_cons, ev_nc, ev_cn, ev_nn, ev_ni, ev_in, at0, at1, at2, at3, cst0, cst1, cst2, cst3, cst4, cst7, cst9, k1, k2]
theorem within_eval (s : Sp) (k : s.Ok) {a b : Int} (f : An a b) (S : Sto) : m_within [s.w, fr a b] S = .ok (.bl (decide (s.In a b))) S := by
  have e1 := less_eval (a := a) (b := b) (p := s.p) (q := s.q) f.s k.l.s
  have e2 := less_eval (a := s.p') (b := s.q') (p := a) (q := b) k.h.s f.s
  have e3 := an_eq f k.l
  have e4 := an_eq f k.h
  simp only [m_within, b_within, Sp.w, p_bind, b_ok, b_exn, b_bad, b_ite, s_ok, s_exn, s_bad, s_ite, q_nx, q_rt, q_exn, q_bad, q_ite, f_nx, f_rt, f_exn, f_bad, f_ite, i_ok, i_rt, i_int, i_bl, i_tt, i_ff, p_ret, p_eC, p_eVar, p_eOp, p_eUn, p_aNil, p_aCons, p_eCall, p_isB, p_tV, p_tNot, p_tAnd, p_tOr, p_eAnd, p_eOr, p_eNot, p_eIf, p_eTup, p_eLst, p_eChain, p_sBind, p_sSeq, p_sPass, p_sRet, p_sRetN, p_sDrop, p_sSet, p_sIf, p_sRaise, p_sAug, p_sUnp, p_sPar, p_sFor, p_bdN, p_bdT, p_body, p_add, p_addS, p_addT, p_addL, p_addI, p_sub, p_mul, p_mulI, p_mulS, p_fdiv, p_mod, p_pow, p_lt, p_le, p_gt, p_ge, p_isN, p_isB2, p_isnN, p_isnB2, p_neg, p_ixT, p_ixL, p_ixO, p_ofS, p_abs, p_max2, p_lenT, p_lenL, p_lenO, p_eq, p_ne, p_isI, p_iLst, p_iTup, p_iRg1, p_iRg2, p_eNewS, p_eComp, p_inB, p_in, p_nin, p_sSto, List.map_cons, List.map_nil, List.cons_append, List.nil_append, List.append_nil, List.set_cons_zero, List.set_cons_succ, List.getElem?_cons_zero, List.getElem?_cons_succ, List.getElem?_nil, List.length_cons, List.length_nil, List.zip_cons_cons, List.zip_nil_left, List.zip_nil_right, List.foldl_cons, List.foldl_nil, List.replicate, Nat.sub_self, Nat.reduceSub, Nat.reduceAdd, Nat.reduceLeDiff, Nat.reduceLT, Nat.zero_add, Int.reduceLT, Int.reduceLE, Int.reduceNeg, Int.reduceSub, Int.reduceAdd, Int.reduceMul, Int.reduceBEq, Bool.or_true, Bool.true_or, Bool.or_false, Bool.false_or, if_true, if_false, ite_true, ite_false, reduceIte, Bool.not_true, Bool.not_false, Bool.true_and, Bool.and_true, Bool.false_and, Bool.and_false, decide_true, decide_false, Bool.false_eq_true, eq_self, reduceCtorEq, true_and, and_true, and_self, sh, shs, dat, dats, ev_int, ev_str, ev_bl, ev_tup, ev_lst, ev_nil, ev_cons, ev_nc, ev_cn, ev_nn, ev_ni, ev_in, at0, at1, at2, at3, cst0, cst1, cst2, cst3, cst4, cst7, cst9, e1, e2, beq_dec]
  unfold Sp.In
  have c3 : (decide (a = s.p) && decide (b = s.q)) = decide (s.p * b = a * s.q) := by rw [← Bool.decide_and]; exact decide_eq_decide.mpr e3
  have c4 : (decide (a = s.p') && decide (b = s.q')) = decide (s.p' * b = a * s.q') := by rw [← Bool.decide_and]; exact decide_eq_decide.mpr e4
  simp only [c3, c4]
  by_cases h1 : a * s.q < s.p * b
  · have : ¬ (s.p * b < a * s.q ∨ (s.p * b = a * s.q ∧ s.lb = true)) := by omega
    simp [h1, this]
  · by_cases h2 : s.p' * b < a * s.q'
    · have : ¬ (a * s.q' < s.p' * b ∨ (a * s.q' = s.p' * b ∧ s.hb = true)) := by omega
      simp [h1, h2, this]
    · rcases Bool.eq_false_or_eq_true s.lb with hl | hl <;> rcases Bool.eq_false_or_eq_true s.hb with hh | hh <;> by_cases h3 : s.p * b = a * s.q <;> by_cases h4 : s.p' * b = a * s.q' <;> simp [h1, h2, h3, h4, hl, hh] <;> omega
end Pu
end
section
namespace Pu
open PySem Zz Mir
def spn (r : Ru) (u d : Int) : Sp := ⟨xl r u / (Int.gcd (xl r u) (2 * pw d) : Nat), 2 * pw d / (Int.gcd (xl r u) (2 * pw d) : Nat), bl r u, xh r u / (Int.gcd (xh r u) (2 * pw d) : Nat), 2 * pw d / (Int.gcd (xh r u) (2 * pw d) : Nat), bh r u⟩
theorem low_div {x y : Int} (hy : 0 < y) : ∃ g : Int, 0 < g ∧ x = g * (x / (Int.gcd x y : Nat)) ∧ y = g * (y / (Int.gcd x y : Nat)) ∧ 0 < y / (Int.gcd x y : Nat) ∧ Int.gcd (x / (Int.gcd x y : Nat)) (y / (Int.gcd x y : Nat)) = 1 ∧ y / (Int.gcd x y : Nat) ≤ y := by
  obtain ⟨g, p, q, h1, h2, h3, h4, h5, h6⟩ := low_parts x hy
  unfold low at h5
  injection h5 with e
  injection e with e1 e
  injection e with e2 e
  injection e1 with e1
  injection e2 with e2
  rw [e1, e2]
  refine ⟨g, h1, h2, h3, h4, h6, ?_⟩
  have : 1 * q ≤ g * q := Int.mul_le_mul_of_nonneg_right (by omega) (by omega)
  omega
theorem spn_parts (r : Ru) (u : Int) {d : Int} (h6 : d ≤ 6) : ∃ g g' : Int, 0 < g ∧ 0 < g' ∧ xl r u = g * (spn r u d).p ∧ 2 * pw d = g * (spn r u d).q ∧ xh r u = g' * (spn r u d).p' ∧ 2 * pw d = g' * (spn r u d).q' ∧ (spn r u d).Ok ∧ (spn r u d).q ≤ 2 * pw d ∧ (spn r u d).q' ≤ 2 * pw d := by
  have p1 := pw_pos d
  have p2 := pw_le h6
  have hy : 0 < 2 * pw d := by omega
  obtain ⟨g, a1, a2, a3, a4, a5, a6⟩ := low_div (x := xl r u) hy
  obtain ⟨g', b1, b2, b3, b4, b5, b6⟩ := low_div (x := xh r u) hy
  refine ⟨g, g', a1, b1, a2, a3, b2, b3, ⟨⟨a4, ?_, a5⟩, ⟨b4, ?_, b5⟩⟩, a6, b6⟩
  · show s64 (2 * pw d / _)
    unfold s64; omega
  · show s64 (2 * pw d / _)
    unfold s64; omega
theorem spn_low (r : Ru) (u d : Int) : low (xl r u) (2 * pw d) = fr (spn r u d).p (spn r u d).q := rfl
theorem spn_high (r : Ru) (u d : Int) : low (xh r u) (2 * pw d) = fr (spn r u d).p' (spn r u d).q' := rfl
theorem low2 (x y : Int) : low x y = low (2 * x) (2 * y) := (low_scale (by decide)).symm
theorem span_eval (r : Ru) (u : Int) {d : Int} (S : Sto) (h0 : 0 ≤ d) (h6 : d ≤ 6) : m_span_of [.int u, .int d, .str (nm r)] S = .ok (spn r u d).w S := by
  have p1 := pw_pos d
  have p2 := pw_le h6
  have k1 : ∀ x S, m_lowest [.int x, .int (pw d)] S = .ok (low (2 * x) (2 * pw d)) S := fun x S => by rw [lowest_eval x _ S p1 (by omega), low2]
  have k2 : ∀ x S, m_lowest [.int x, .int (2 * pw d)] S = .ok (low x (2 * pw d)) S := fun x S => lowest_eval x _ S (by omega) (by omega)
  have k3 : ∀ x : Int, gMul 2 x := fun x => .inl (by decide)
  have k4 : ∀ x : Int, gMul 2 x := fun x => .inl (by decide)
  have w : (spn r u d).w = .tup [low (xl r u) (2 * pw d), .bl (bl r u), low (xh r u) (2 * pw d), .bl (bh r u)] := rfl
  rw [w]
  have e1 : 2 * (u + 1) = 2 * u + 2 := by omega
  have e2 : 2 * (u - 1) = 2 * u - 2 := by omega
  have e3 : (2 : Int) * -1 = 2 * 0 - 2 := by omega
  have e4 : (2 : Int) * 1 = 2 * 0 + 2 := by omega
  cases r
  · simp only [m_span_of, b_span_of, p_bind, b_ok, b_exn, b_bad, b_ite, s_ok, s_exn, s_bad, s_ite, q_nx, q_rt, q_exn, q_bad, q_ite, f_nx, f_rt, f_exn, f_bad, f_ite, i_ok, i_rt, i_int, i_bl, i_tt, i_ff, p_ret, p_eC, p_eVar, p_eOp, p_eUn, p_aNil, p_aCons, p_eCall, p_isB, p_tV, p_tNot, p_tAnd, p_tOr, p_eAnd, p_eOr, p_eNot, p_eIf, p_eTup, p_eLst, p_eChain, p_sBind, p_sSeq, p_sPass, p_sRet, p_sRetN, p_sDrop, p_sSet, p_sIf, p_sRaise, p_sAug, p_sUnp, p_sPar, p_sFor, p_bdN, p_bdT, p_body, p_add, p_addS, p_addT, p_addL, p_addI, p_sub, p_mul, p_mulI, p_mulS, p_fdiv, p_mod, p_pow, p_lt, p_le, p_gt, p_ge, p_isN, p_isB2, p_isnN, p_isnB2, p_neg, p_ixT, p_ixL, p_ixO, p_ofS, p_abs, p_max2, p_lenT, p_lenL, p_lenO, p_eq, p_ne, p_isI, p_iLst, p_iTup, p_iRg1, p_iRg2, p_eNewS, p_eComp, p_inB, p_in, p_nin, p_sSto, List.map_cons, List.map_nil, List.cons_append, List.nil_append, List.append_nil, List.set_cons_zero, List.set_cons_succ, List.getElem?_cons_zero, List.getElem?_cons_succ, List.getElem?_nil, List.length_cons, List.length_nil, List.zip_cons_cons, List.zip_nil_left, List.zip_nil_right, List.foldl_cons, List.foldl_nil, List.replicate, Nat.sub_self, Nat.reduceSub, Nat.reduceAdd, Nat.reduceLeDiff, Nat.reduceLT, Nat.zero_add, Int.reduceLT, Int.reduceLE, Int.reduceNeg, Int.reduceSub, Int.reduceAdd, Int.reduceMul, Int.reduceBEq, Bool.or_true, Bool.true_or, Bool.or_false, Bool.false_or, if_true, if_false, ite_true, ite_false, reduceIte, Bool.not_true, Bool.not_false, Bool.true_and, Bool.and_true, Bool.false_and, Bool.and_false, decide_true, decide_false, Bool.false_eq_true, eq_self, reduceCtorEq, true_and, and_true, and_self, sh, shs, dat, dats, ev_int, ev_str, ev_bl, ev_tup, ev_lst, ev_nil, ev_cons, ev_nc, ev_cn, ev_nn, ev_ni, ev_in, at0, at1, at2, at3, cst0, cst1, cst2, cst3, cst4, cst7, cst9, power_eval d _ h0 h6, nm1, nm2, nm3, nm4, nm5, nm6, nm7, nm_ok, so1, so2, so3, so4, so5, so6, so7, k1, k2, k3, e1, e2, xl, xh, bl, bh]
  · simp only [m_span_of, b_span_of, p_bind, b_ok, b_exn, b_bad, b_ite, s_ok, s_exn, s_bad, s_ite, q_nx, q_rt, q_exn, q_bad, q_ite, f_nx, f_rt, f_exn, f_bad, f_ite, i_ok, i_rt, i_int, i_bl, i_tt, i_ff, p_ret, p_eC, p_eVar, p_eOp, p_eUn, p_aNil, p_aCons, p_eCall, p_isB, p_tV, p_tNot, p_tAnd, p_tOr, p_eAnd, p_eOr, p_eNot, p_eIf, p_eTup, p_eLst, p_eChain, p_sBind, p_sSeq, p_sPass, p_sRet, p_sRetN, p_sDrop, p_sSet, p_sIf, p_sRaise, p_sAug, p_sUnp, p_sPar, p_sFor, p_bdN, p_bdT, p_body, p_add, p_addS, p_addT, p_addL, p_addI, p_sub, p_mul, p_mulI, p_mulS, p_fdiv, p_mod, p_pow, p_lt, p_le, p_gt, p_ge, p_isN, p_isB2, p_isnN, p_isnB2, p_neg, p_ixT, p_ixL, p_ixO, p_ofS, p_abs, p_max2, p_lenT, p_lenL, p_lenO, p_eq, p_ne, p_isI, p_iLst, p_iTup, p_iRg1, p_iRg2, p_eNewS, p_eComp, p_inB, p_in, p_nin, p_sSto, List.map_cons, List.map_nil, List.cons_append, List.nil_append, List.append_nil, List.set_cons_zero, List.set_cons_succ, List.getElem?_cons_zero, List.getElem?_cons_succ, List.getElem?_nil, List.length_cons, List.length_nil, List.zip_cons_cons, List.zip_nil_left, List.zip_nil_right, List.foldl_cons, List.foldl_nil, List.replicate, Nat.sub_self, Nat.reduceSub, Nat.reduceAdd, Nat.reduceLeDiff, Nat.reduceLT, Nat.zero_add, Int.reduceLT, Int.reduceLE, Int.reduceNeg, Int.reduceSub, Int.reduceAdd, Int.reduceMul, Int.reduceBEq, Bool.or_true, Bool.true_or, Bool.or_false, Bool.false_or, if_true, if_false, ite_true, ite_false, reduceIte, Bool.not_true, Bool.not_false, Bool.true_and, Bool.and_true, Bool.false_and, Bool.and_false, decide_true, decide_false, Bool.false_eq_true, eq_self, reduceCtorEq, true_and, and_true, and_self, sh, shs, dat, dats, ev_int, ev_str, ev_bl, ev_tup, ev_lst, ev_nil, ev_cons, ev_nc, ev_cn, ev_nn, ev_ni, ev_in, at0, at1, at2, at3, cst0, cst1, cst2, cst3, cst4, cst7, cst9, power_eval d _ h0 h6, nm1, nm2, nm3, nm4, nm5, nm6, nm7, nm_ok, so1, so2, so3, so4, so5, so6, so7, k1, k2, k3, e1, e2, xl, xh, bl, bh]
  · simp only [m_span_of, b_span_of, p_bind, b_ok, b_exn, b_bad, b_ite, s_ok, s_exn, s_bad, s_ite, q_nx, q_rt, q_exn, q_bad, q_ite, f_nx, f_rt, f_exn, f_bad, f_ite, i_ok, i_rt, i_int, i_bl, i_tt, i_ff, p_ret, p_eC, p_eVar, p_eOp, p_eUn, p_aNil, p_aCons, p_eCall, p_isB, p_tV, p_tNot, p_tAnd, p_tOr, p_eAnd, p_eOr, p_eNot, p_eIf, p_eTup, p_eLst, p_eChain, p_sBind, p_sSeq, p_sPass, p_sRet, p_sRetN, p_sDrop, p_sSet, p_sIf, p_sRaise, p_sAug, p_sUnp, p_sPar, p_sFor, p_bdN, p_bdT, p_body, p_add, p_addS, p_addT, p_addL, p_addI, p_sub, p_mul, p_mulI, p_mulS, p_fdiv, p_mod, p_pow, p_lt, p_le, p_gt, p_ge, p_isN, p_isB2, p_isnN, p_isnB2, p_neg, p_ixT, p_ixL, p_ixO, p_ofS, p_abs, p_max2, p_lenT, p_lenL, p_lenO, p_eq, p_ne, p_isI, p_iLst, p_iTup, p_iRg1, p_iRg2, p_eNewS, p_eComp, p_inB, p_in, p_nin, p_sSto, List.map_cons, List.map_nil, List.cons_append, List.nil_append, List.append_nil, List.set_cons_zero, List.set_cons_succ, List.getElem?_cons_zero, List.getElem?_cons_succ, List.getElem?_nil, List.length_cons, List.length_nil, List.zip_cons_cons, List.zip_nil_left, List.zip_nil_right, List.foldl_cons, List.foldl_nil, List.replicate, Nat.sub_self, Nat.reduceSub, Nat.reduceAdd, Nat.reduceLeDiff, Nat.reduceLT, Nat.zero_add, Int.reduceLT, Int.reduceLE, Int.reduceNeg, Int.reduceSub, Int.reduceAdd, Int.reduceMul, Int.reduceBEq, Bool.or_true, Bool.true_or, Bool.or_false, Bool.false_or, if_true, if_false, ite_true, ite_false, reduceIte, Bool.not_true, Bool.not_false, Bool.true_and, Bool.and_true, Bool.false_and, Bool.and_false, decide_true, decide_false, Bool.false_eq_true, eq_self, reduceCtorEq, true_and, and_true, and_self, sh, shs, dat, dats, ev_int, ev_str, ev_bl, ev_tup, ev_lst, ev_nil, ev_cons, ev_nc, ev_cn, ev_nn, ev_ni, ev_in, at0, at1, at2, at3, cst0, cst1, cst2, cst3, cst4, cst7, cst9, power_eval d _ h0 h6, nm1, nm2, nm3, nm4, nm5, nm6, nm7, nm_ok, so1, so2, so3, so4, so5, so6, so7, k1, k2, k3, e1, e2, xl, xh, bl, bh]
    by_cases q1 : 0 < u
    · have q2 : ¬ u < 0 := by omega
      simp only [q1, q2, if_true, if_false, e1, decide_true, decide_false, Bool.false_eq_true]
    · by_cases q2 : u < 0
      · simp only [q1, q2, if_true, if_false, e1, decide_true, decide_false, Bool.false_eq_true]
      · have q3 : u = 0 := by omega
        subst q3
        rfl
  · simp only [m_span_of, b_span_of, p_bind, b_ok, b_exn, b_bad, b_ite, s_ok, s_exn, s_bad, s_ite, q_nx, q_rt, q_exn, q_bad, q_ite, f_nx, f_rt, f_exn, f_bad, f_ite, i_ok, i_rt, i_int, i_bl, i_tt, i_ff, p_ret, p_eC, p_eVar, p_eOp, p_eUn, p_aNil, p_aCons, p_eCall, p_isB, p_tV, p_tNot, p_tAnd, p_tOr, p_eAnd, p_eOr, p_eNot, p_eIf, p_eTup, p_eLst, p_eChain, p_sBind, p_sSeq, p_sPass, p_sRet, p_sRetN, p_sDrop, p_sSet, p_sIf, p_sRaise, p_sAug, p_sUnp, p_sPar, p_sFor, p_bdN, p_bdT, p_body, p_add, p_addS, p_addT, p_addL, p_addI, p_sub, p_mul, p_mulI, p_mulS, p_fdiv, p_mod, p_pow, p_lt, p_le, p_gt, p_ge, p_isN, p_isB2, p_isnN, p_isnB2, p_neg, p_ixT, p_ixL, p_ixO, p_ofS, p_abs, p_max2, p_lenT, p_lenL, p_lenO, p_eq, p_ne, p_isI, p_iLst, p_iTup, p_iRg1, p_iRg2, p_eNewS, p_eComp, p_inB, p_in, p_nin, p_sSto, List.map_cons, List.map_nil, List.cons_append, List.nil_append, List.append_nil, List.set_cons_zero, List.set_cons_succ, List.getElem?_cons_zero, List.getElem?_cons_succ, List.getElem?_nil, List.length_cons, List.length_nil, List.zip_cons_cons, List.zip_nil_left, List.zip_nil_right, List.foldl_cons, List.foldl_nil, List.replicate, Nat.sub_self, Nat.reduceSub, Nat.reduceAdd, Nat.reduceLeDiff, Nat.reduceLT, Nat.zero_add, Int.reduceLT, Int.reduceLE, Int.reduceNeg, Int.reduceSub, Int.reduceAdd, Int.reduceMul, Int.reduceBEq, Bool.or_true, Bool.true_or, Bool.or_false, Bool.false_or, if_true, if_false, ite_true, ite_false, reduceIte, Bool.not_true, Bool.not_false, Bool.true_and, Bool.and_true, Bool.false_and, Bool.and_false, decide_true, decide_false, Bool.false_eq_true, eq_self, reduceCtorEq, true_and, and_true, and_self, sh, shs, dat, dats, ev_int, ev_str, ev_bl, ev_tup, ev_lst, ev_nil, ev_cons, ev_nc, ev_cn, ev_nn, ev_ni, ev_in, at0, at1, at2, at3, cst0, cst1, cst2, cst3, cst4, cst7, cst9, power_eval d _ h0 h6, nm1, nm2, nm3, nm4, nm5, nm6, nm7, nm_ok, so1, so2, so3, so4, so5, so6, so7, k1, k2, k3, e1, e2, xl, xh, bl, bh]
  · simp only [m_span_of, b_span_of, p_bind, b_ok, b_exn, b_bad, b_ite, s_ok, s_exn, s_bad, s_ite, q_nx, q_rt, q_exn, q_bad, q_ite, f_nx, f_rt, f_exn, f_bad, f_ite, i_ok, i_rt, i_int, i_bl, i_tt, i_ff, p_ret, p_eC, p_eVar, p_eOp, p_eUn, p_aNil, p_aCons, p_eCall, p_isB, p_tV, p_tNot, p_tAnd, p_tOr, p_eAnd, p_eOr, p_eNot, p_eIf, p_eTup, p_eLst, p_eChain, p_sBind, p_sSeq, p_sPass, p_sRet, p_sRetN, p_sDrop, p_sSet, p_sIf, p_sRaise, p_sAug, p_sUnp, p_sPar, p_sFor, p_bdN, p_bdT, p_body, p_add, p_addS, p_addT, p_addL, p_addI, p_sub, p_mul, p_mulI, p_mulS, p_fdiv, p_mod, p_pow, p_lt, p_le, p_gt, p_ge, p_isN, p_isB2, p_isnN, p_isnB2, p_neg, p_ixT, p_ixL, p_ixO, p_ofS, p_abs, p_max2, p_lenT, p_lenL, p_lenO, p_eq, p_ne, p_isI, p_iLst, p_iTup, p_iRg1, p_iRg2, p_eNewS, p_eComp, p_inB, p_in, p_nin, p_sSto, List.map_cons, List.map_nil, List.cons_append, List.nil_append, List.append_nil, List.set_cons_zero, List.set_cons_succ, List.getElem?_cons_zero, List.getElem?_cons_succ, List.getElem?_nil, List.length_cons, List.length_nil, List.zip_cons_cons, List.zip_nil_left, List.zip_nil_right, List.foldl_cons, List.foldl_nil, List.replicate, Nat.sub_self, Nat.reduceSub, Nat.reduceAdd, Nat.reduceLeDiff, Nat.reduceLT, Nat.zero_add, Int.reduceLT, Int.reduceLE, Int.reduceNeg, Int.reduceSub, Int.reduceAdd, Int.reduceMul, Int.reduceBEq, Bool.or_true, Bool.true_or, Bool.or_false, Bool.false_or, if_true, if_false, ite_true, ite_false, reduceIte, Bool.not_true, Bool.not_false, Bool.true_and, Bool.and_true, Bool.false_and, Bool.and_false, decide_true, decide_false, Bool.false_eq_true, eq_self, reduceCtorEq, true_and, and_true, and_self, sh, shs, dat, dats, ev_int, ev_str, ev_bl, ev_tup, ev_lst, ev_nil, ev_cons, ev_nc, ev_cn, ev_nn, ev_ni, ev_in, at0, at1, at2, at3, cst0, cst1, cst2, cst3, cst4, cst7, cst9, power_eval d _ h0 h6, nm1, nm2, nm3, nm4, nm5, nm6, nm7, nm_ok, so1, so2, so3, so4, so5, so6, so7, k1, k2, k3, e1, e2, xl, xh, bl, bh]
  · simp only [m_span_of, b_span_of, p_bind, b_ok, b_exn, b_bad, b_ite, s_ok, s_exn, s_bad, s_ite, q_nx, q_rt, q_exn, q_bad, q_ite, f_nx, f_rt, f_exn, f_bad, f_ite, i_ok, i_rt, i_int, i_bl, i_tt, i_ff, p_ret, p_eC, p_eVar, p_eOp, p_eUn, p_aNil, p_aCons, p_eCall, p_isB, p_tV, p_tNot, p_tAnd, p_tOr, p_eAnd, p_eOr, p_eNot, p_eIf, p_eTup, p_eLst, p_eChain, p_sBind, p_sSeq, p_sPass, p_sRet, p_sRetN, p_sDrop, p_sSet, p_sIf, p_sRaise, p_sAug, p_sUnp, p_sPar, p_sFor, p_bdN, p_bdT, p_body, p_add, p_addS, p_addT, p_addL, p_addI, p_sub, p_mul, p_mulI, p_mulS, p_fdiv, p_mod, p_pow, p_lt, p_le, p_gt, p_ge, p_isN, p_isB2, p_isnN, p_isnB2, p_neg, p_ixT, p_ixL, p_ixO, p_ofS, p_abs, p_max2, p_lenT, p_lenL, p_lenO, p_eq, p_ne, p_isI, p_iLst, p_iTup, p_iRg1, p_iRg2, p_eNewS, p_eComp, p_inB, p_in, p_nin, p_sSto, List.map_cons, List.map_nil, List.cons_append, List.nil_append, List.append_nil, List.set_cons_zero, List.set_cons_succ, List.getElem?_cons_zero, List.getElem?_cons_succ, List.getElem?_nil, List.length_cons, List.length_nil, List.zip_cons_cons, List.zip_nil_left, List.zip_nil_right, List.foldl_cons, List.foldl_nil, List.replicate, Nat.sub_self, Nat.reduceSub, Nat.reduceAdd, Nat.reduceLeDiff, Nat.reduceLT, Nat.zero_add, Int.reduceLT, Int.reduceLE, Int.reduceNeg, Int.reduceSub, Int.reduceAdd, Int.reduceMul, Int.reduceBEq, Bool.or_true, Bool.true_or, Bool.or_false, Bool.false_or, if_true, if_false, ite_true, ite_false, reduceIte, Bool.not_true, Bool.not_false, Bool.true_and, Bool.and_true, Bool.false_and, Bool.and_false, decide_true, decide_false, Bool.false_eq_true, eq_self, reduceCtorEq, true_and, and_true, and_self, sh, shs, dat, dats, ev_int, ev_str, ev_bl, ev_tup, ev_lst, ev_nil, ev_cons, ev_nc, ev_cn, ev_nn, ev_ni, ev_in, at0, at1, at2, at3, cst0, cst1, cst2, cst3, cst4, cst7, cst9, power_eval d _ h0 h6, nm1, nm2, nm3, nm4, nm5, nm6, nm7, nm_ok, so1, so2, so3, so4, so5, so6, so7, k1, k2, k3, e1, e2, xl, xh, bl, bh]
  · simp only [m_span_of, b_span_of, p_bind, b_ok, b_exn, b_bad, b_ite, s_ok, s_exn, s_bad, s_ite, q_nx, q_rt, q_exn, q_bad, q_ite, f_nx, f_rt, f_exn, f_bad, f_ite, i_ok, i_rt, i_int, i_bl, i_tt, i_ff, p_ret, p_eC, p_eVar, p_eOp, p_eUn, p_aNil, p_aCons, p_eCall, p_isB, p_tV, p_tNot, p_tAnd, p_tOr, p_eAnd, p_eOr, p_eNot, p_eIf, p_eTup, p_eLst, p_eChain, p_sBind, p_sSeq, p_sPass, p_sRet, p_sRetN, p_sDrop, p_sSet, p_sIf, p_sRaise, p_sAug, p_sUnp, p_sPar, p_sFor, p_bdN, p_bdT, p_body, p_add, p_addS, p_addT, p_addL, p_addI, p_sub, p_mul, p_mulI, p_mulS, p_fdiv, p_mod, p_pow, p_lt, p_le, p_gt, p_ge, p_isN, p_isB2, p_isnN, p_isnB2, p_neg, p_ixT, p_ixL, p_ixO, p_ofS, p_abs, p_max2, p_lenT, p_lenL, p_lenO, p_eq, p_ne, p_isI, p_iLst, p_iTup, p_iRg1, p_iRg2, p_eNewS, p_eComp, p_inB, p_in, p_nin, p_sSto, List.map_cons, List.map_nil, List.cons_append, List.nil_append, List.append_nil, List.set_cons_zero, List.set_cons_succ, List.getElem?_cons_zero, List.getElem?_cons_succ, List.getElem?_nil, List.length_cons, List.length_nil, List.zip_cons_cons, List.zip_nil_left, List.zip_nil_right, List.foldl_cons, List.foldl_nil, List.replicate, Nat.sub_self, Nat.reduceSub, Nat.reduceAdd, Nat.reduceLeDiff, Nat.reduceLT, Nat.zero_add, Int.reduceLT, Int.reduceLE, Int.reduceNeg, Int.reduceSub, Int.reduceAdd, Int.reduceMul, Int.reduceBEq, Bool.or_true, Bool.true_or, Bool.or_false, Bool.false_or, if_true, if_false, ite_true, ite_false, reduceIte, Bool.not_true, Bool.not_false, Bool.true_and, Bool.and_true, Bool.false_and, Bool.and_false, decide_true, decide_false, Bool.false_eq_true, eq_self, reduceCtorEq, true_and, and_true, and_self, sh, shs, dat, dats, ev_int, ev_str, ev_bl, ev_tup, ev_lst, ev_nil, ev_cons, ev_nc, ev_cn, ev_nn, ev_ni, ev_in, at0, at1, at2, at3, cst0, cst1, cst2, cst3, cst4, cst7, cst9, power_eval d _ h0 h6, nm1, nm2, nm3, nm4, nm5, nm6, nm7, nm_ok, so1, so2, so3, so4, so5, so6, so7, k1, k2, k3, e1, e2, xl, xh, bl, bh, beq_dec]
theorem in_iff (r : Ru) (a u : Int) {b d : Int} (hb : 0 < b) (h6 : d ≤ 6) : uo r (a * pw d) b = u ↔ (spn r u d).In a b := by
  obtain ⟨g, g', g0, g0', a1, a2, b1, b2, _⟩ := spn_parts r u h6
  rw [uo_iff r (a * pw d) u hb]
  unfold Sp.In
  have c1 : 2 * (a * pw d) = g * (a * (spn r u d).q) := by rw [Int.mul_left_comm, a2, Int.mul_left_comm]
  have c2 : 2 * (a * pw d) = g' * (a * (spn r u d).q') := by rw [Int.mul_left_comm, b2, Int.mul_left_comm]
  have l1 : xl r u * b < 2 * (a * pw d) ↔ (spn r u d).p * b < a * (spn r u d).q := by
    rw [a1, c1, Int.mul_assoc]
    exact ⟨fun h => Int.lt_of_mul_lt_mul_left h (Int.le_of_lt g0), fun h => Int.mul_lt_mul_of_pos_left h g0⟩
  have l2 : xl r u * b = 2 * (a * pw d) ↔ (spn r u d).p * b = a * (spn r u d).q := by
    rw [a1, c1, Int.mul_assoc]
    exact ⟨fun h => Int.eq_of_mul_eq_mul_left (by omega) h, fun h => by rw [h]⟩
  have l3 : 2 * (a * pw d) < xh r u * b ↔ a * (spn r u d).q' < (spn r u d).p' * b := by
    rw [b1, c2, Int.mul_assoc]
    exact ⟨fun h => Int.lt_of_mul_lt_mul_left h (Int.le_of_lt g0'), fun h => Int.mul_lt_mul_of_pos_left h g0'⟩
  have l4 : 2 * (a * pw d) = xh r u * b ↔ a * (spn r u d).q' = (spn r u d).p' * b := by
    rw [b1, c2, Int.mul_assoc]
    exact ⟨fun h => Int.eq_of_mul_eq_mul_left (by omega) h, fun h => by rw [h]⟩
  rw [l1, l2, l3, l4]
  rfl
end Pu
end
section
namespace Pu
open PySem Zz Mir
theorem loop_acc {X : Type} {bd : Bd} {body : SM} {S : Sto} (F : X → List W → En) (g : W → List W) (c B : Nat) : ∀ (ws : List W) (x : X) (acc : List W), (∀ w ∈ ws, ∀ x acc, acc.length + c ≤ B → ∃ env1 x', bd w (F x acc) = some env1 ∧ body env1 S = .nx (F x' (acc ++ g w)) S) → (∀ w ∈ ws, (g w).length ≤ c) → acc.length + c * ws.length ≤ B →
    ∃ x', loopL bd body ws (F x acc) S = .nx (F x' (acc ++ ws.flatMap g)) S
  | [], x, acc, _, _, _ => ⟨x, by rw [List.flatMap_nil, List.append_nil]; rfl⟩
  | w :: r, x, acc, h, hc, hl => by
    rw [List.length_cons, Nat.mul_add, Nat.mul_one] at hl
    obtain ⟨env1, x', h1, h2⟩ := h w List.mem_cons_self x acc (by omega)
    have h3 := hc w List.mem_cons_self
    obtain ⟨x2, h4⟩ := loop_acc F g c B r x' (acc ++ g w) (fun w hw => h w (List.mem_cons_of_mem _ hw)) (fun w hw => hc w (List.mem_cons_of_mem _ hw)) (by rw [List.length_append]; omega)
    refine ⟨x2, ?_⟩
    rw [p_loop1, h1]
    simp only [h2]
    rw [h4, List.flatMap_cons, List.append_assoc]
theorem ediv_bd {x q B : Int} (hq : 0 < q) (h1 : -B ≤ x) (h2 : x ≤ B) : -B ≤ x / q ∧ x / q ≤ B := by
  have hB : 0 ≤ B := by omega
  have m1 : B * 1 ≤ B * q := Int.mul_le_mul_of_nonneg_left (by omega) hB
  constructor
  · apply (Int.le_ediv_iff_mul_le hq).mpr
    rw [Int.neg_mul]; omega
  · have : x / q < B + 1 := (Int.ediv_lt_iff_lt_mul hq).mpr (by rw [Int.add_mul]; omega)
    omega
/-! ### checks -/
theorem whole_eval {u d : Int} (S : Sto) (h0 : 0 ≤ d) (h6 : d ≤ 6) (u0 : -(101 * pw d) ≤ u) (u1 : u ≤ 101 * pw d) : m_check_whole [.int u, .int d] S = .ok .non S := by
  have k1 : gMul (-101) (pw d) := .inl (by decide)
  have k2 : gMul 101 (pw d) := .inl (by decide)
  have e1 : decide (-101 * pw d ≤ u) = true := decide_eq_true (by rw [Int.neg_mul]; exact u0)
  have e2 : decide (u ≤ 101 * pw d) = true := decide_eq_true u1
  simp only [m_check_whole, b_check_whole, p_bind, b_ok, b_exn, b_bad, b_ite, s_ok, s_exn, s_bad, s_ite, q_nx, q_rt, q_exn, q_bad, q_ite, f_nx, f_rt, f_exn, f_bad, f_ite, i_ok, i_rt, i_int, i_bl, i_tt, i_ff, p_ret, p_eC, p_eVar, p_eOp, p_eUn, p_aNil, p_aCons, p_eCall, p_isB, p_tV, p_tNot, p_tAnd, p_tOr, p_eAnd, p_eOr, p_eNot, p_eIf, p_eTup, p_eLst, p_eChain, p_sBind, p_sSeq, p_sPass, p_sRet, p_sRetN, p_sDrop, p_sSet, p_sIf, p_sRaise, p_sAug, p_sUnp, p_sPar, p_sFor, p_bdN, p_bdT, p_body, p_add, p_addS, p_addT, p_addL, p_addI, p_sub, p_mul, p_mulI, p_mulS, p_fdiv, p_mod, p_pow, p_lt, p_le, p_gt, p_ge, p_isN, p_isB2, p_isnN, p_isnB2, p_neg, p_ixT, p_ixL, p_ixO, p_ofS, p_abs, p_max2, p_lenT, p_lenL, p_lenO, p_eq, p_ne, p_isI, p_iLst, p_iTup, p_iRg1, p_iRg2, p_eNewS, p_eComp, p_inB, p_in, p_nin, p_sSto, List.map_cons, List.map_nil, List.cons_append, List.nil_append, List.append_nil, List.set_cons_zero, List.set_cons_succ, List.getElem?_cons_zero, List.getElem?_cons_succ, List.getElem?_nil, List.length_cons, List.length_nil, List.zip_cons_cons, List.zip_nil_left, List.zip_nil_right, List.foldl_cons, List.foldl_nil, List.replicate, Nat.sub_self, Nat.reduceSub, Nat.reduceAdd, Nat.reduceLeDiff, Nat.reduceLT, Nat.zero_add, Int.reduceLT, Int.reduceLE, Int.reduceNeg, Int.reduceSub, Int.reduceAdd, Int.reduceMul, Int.reduceBEq, Bool.or_true, Bool.true_or, Bool.or_false, Bool.false_or, if_true, if_false, ite_true, ite_false, reduceIte, Bool.not_true, Bool.not_false, Bool.true_and, Bool.and_true, Bool.false_and, Bool.and_false, decide_true, decide_false, Bool.false_eq_true, eq_self, reduceCtorEq, true_and, and_true, and_self, sh, shs, dat, dats, ev_int, ev_str, ev_bl, ev_tup, ev_lst, ev_nil, ev_cons, ev_nc, ev_cn, ev_nn, ev_ni, ev_in, at0, at1, at2, at3, cst0, cst1, cst2, cst3, cst4, cst7, cst9, power_eval d _ h0 h6, k1, k2, is_int_eval, e1, e2]
theorem range_eval (r : Ru) {u d : Int} (S : Sto) (h0 : 0 ≤ d) (h6 : d ≤ 6) (u0 : -(101 * pw d) ≤ u) (u1 : u ≤ 101 * pw d) : m_range_of [.int u, .int d, .str (nm r)] S = .ok (spn r u d).w S := by
  simp only [m_range_of, b_range_of, p_bind, b_ok, b_exn, b_bad, b_ite, s_ok, s_exn, s_bad, s_ite, q_nx, q_rt, q_exn, q_bad, q_ite, f_nx, f_rt, f_exn, f_bad, f_ite, i_ok, i_rt, i_int, i_bl, i_tt, i_ff, p_ret, p_eC, p_eVar, p_eOp, p_eUn, p_aNil, p_aCons, p_eCall, p_isB, p_tV, p_tNot, p_tAnd, p_tOr, p_eAnd, p_eOr, p_eNot, p_eIf, p_eTup, p_eLst, p_eChain, p_sBind, p_sSeq, p_sPass, p_sRet, p_sRetN, p_sDrop, p_sSet, p_sIf, p_sRaise, p_sAug, p_sUnp, p_sPar, p_sFor, p_bdN, p_bdT, p_body, p_add, p_addS, p_addT, p_addL, p_addI, p_sub, p_mul, p_mulI, p_mulS, p_fdiv, p_mod, p_pow, p_lt, p_le, p_gt, p_ge, p_isN, p_isB2, p_isnN, p_isnB2, p_neg, p_ixT, p_ixL, p_ixO, p_ofS, p_abs, p_max2, p_lenT, p_lenL, p_lenO, p_eq, p_ne, p_isI, p_iLst, p_iTup, p_iRg1, p_iRg2, p_eNewS, p_eComp, p_inB, p_in, p_nin, p_sSto, List.map_cons, List.map_nil, List.cons_append, List.nil_append, List.append_nil, List.set_cons_zero, List.set_cons_succ, List.getElem?_cons_zero, List.getElem?_cons_succ, List.getElem?_nil, List.length_cons, List.length_nil, List.zip_cons_cons, List.zip_nil_left, List.zip_nil_right, List.foldl_cons, List.foldl_nil, List.replicate, Nat.sub_self, Nat.reduceSub, Nat.reduceAdd, Nat.reduceLeDiff, Nat.reduceLT, Nat.zero_add, Int.reduceLT, Int.reduceLE, Int.reduceNeg, Int.reduceSub, Int.reduceAdd, Int.reduceMul, Int.reduceBEq, Bool.or_true, Bool.true_or, Bool.or_false, Bool.false_or, if_true, if_false, ite_true, ite_false, reduceIte, Bool.not_true, Bool.not_false, Bool.true_and, Bool.and_true, Bool.false_and, Bool.and_false, decide_true, decide_false, Bool.false_eq_true, eq_self, reduceCtorEq, true_and, and_true, and_self, sh, shs, dat, dats, ev_int, ev_str, ev_bl, ev_tup, ev_lst, ev_nil, ev_cons, ev_nc, ev_cn, ev_nn, ev_ni, ev_in, at0, at1, at2, at3, cst0, cst1, cst2, cst3, cst4, cst7, cst9, check_digits_eval h0 h6, whole_eval _ h0 h6 u0 u1, check_rule_eval, span_eval r u _ h0 h6]
theorem reads_eval (r : Ru) {a b u d : Int} (f : Fr a b) (S : Sto) (h0 : 0 ≤ d) (h6 : d ≤ 6) (u0 : -(101 * pw d) ≤ u) (u1 : u ≤ 101 * pw d) : m_reads_as [fr a b, .int u, .int d, .str (nm r)] S = .ok (.bl (decide (uo r (a * pw d) b = u))) S := by
  have b0 := f.b0
  simp only [m_reads_as, b_reads_as, p_bind, b_ok, b_exn, b_bad, b_ite, s_ok, s_exn, s_bad, s_ite, q_nx, q_rt, q_exn, q_bad, q_ite, f_nx, f_rt, f_exn, f_bad, f_ite, i_ok, i_rt, i_int, i_bl, i_tt, i_ff, p_ret, p_eC, p_eVar, p_eOp, p_eUn, p_aNil, p_aCons, p_eCall, p_isB, p_tV, p_tNot, p_tAnd, p_tOr, p_eAnd, p_eOr, p_eNot, p_eIf, p_eTup, p_eLst, p_eChain, p_sBind, p_sSeq, p_sPass, p_sRet, p_sRetN, p_sDrop, p_sSet, p_sIf, p_sRaise, p_sAug, p_sUnp, p_sPar, p_sFor, p_bdN, p_bdT, p_body, p_add, p_addS, p_addT, p_addL, p_addI, p_sub, p_mul, p_mulI, p_mulS, p_fdiv, p_mod, p_pow, p_lt, p_le, p_gt, p_ge, p_isN, p_isB2, p_isnN, p_isnB2, p_neg, p_ixT, p_ixL, p_ixO, p_ofS, p_abs, p_max2, p_lenT, p_lenL, p_lenO, p_eq, p_ne, p_isI, p_iLst, p_iTup, p_iRg1, p_iRg2, p_eNewS, p_eComp, p_inB, p_in, p_nin, p_sSto, List.map_cons, List.map_nil, List.cons_append, List.nil_append, List.append_nil, List.set_cons_zero, List.set_cons_succ, List.getElem?_cons_zero, List.getElem?_cons_succ, List.getElem?_nil, List.length_cons, List.length_nil, List.zip_cons_cons, List.zip_nil_left, List.zip_nil_right, List.foldl_cons, List.foldl_nil, List.replicate, Nat.sub_self, Nat.reduceSub, Nat.reduceAdd, Nat.reduceLeDiff, Nat.reduceLT, Nat.zero_add, Int.reduceLT, Int.reduceLE, Int.reduceNeg, Int.reduceSub, Int.reduceAdd, Int.reduceMul, Int.reduceBEq, Bool.or_true, Bool.true_or, Bool.or_false, Bool.false_or, if_true, if_false, ite_true, ite_false, reduceIte, Bool.not_true, Bool.not_false, Bool.true_and, Bool.and_true, Bool.false_and, Bool.and_false, decide_true, decide_false, Bool.false_eq_true, eq_self, reduceCtorEq, true_and, and_true, and_self, sh, shs, dat, dats, ev_int, ev_str, ev_bl, ev_tup, ev_lst, ev_nil, ev_cons, ev_nc, ev_cn, ev_nn, ev_ni, ev_in, at0, at1, at2, at3, cst0, cst1, cst2, cst3, cst4, cst7, cst9, check_fraction_eval f, check_digits_eval h0 h6, whole_eval _ h0 h6 u0 u1, check_rule_eval, units_eval r a b d _ h0 h6 (by omega : 0 < b) f.s, beq_dec]
theorem any_eval {p q : Int} (f : An p q) (S : Sto) : m_is_any [fr p q] S = .ok (.bl true) S := by
  have q0 := f.q0
  have q1 := f.s.2
  have e : m_common [.int p, .int q] S = .ok (.int 1) S := by
    rw [common_eval p q S (by omega) (by omega), f.g]
    rfl
  have k : decide (0 < q) = true := decide_eq_true q0
  simp only [m_is_any, b_is_any, b_is_any_C0, p_bind, b_ok, b_exn, b_bad, b_ite, s_ok, s_exn, s_bad, s_ite, q_nx, q_rt, q_exn, q_bad, q_ite, f_nx, f_rt, f_exn, f_bad, f_ite, i_ok, i_rt, i_int, i_bl, i_tt, i_ff, p_ret, p_eC, p_eVar, p_eOp, p_eUn, p_aNil, p_aCons, p_eCall, p_isB, p_tV, p_tNot, p_tAnd, p_tOr, p_eAnd, p_eOr, p_eNot, p_eIf, p_eTup, p_eLst, p_eChain, p_sBind, p_sSeq, p_sPass, p_sRet, p_sRetN, p_sDrop, p_sSet, p_sIf, p_sRaise, p_sAug, p_sUnp, p_sPar, p_sFor, p_bdN, p_bdT, p_body, p_add, p_addS, p_addT, p_addL, p_addI, p_sub, p_mul, p_mulI, p_mulS, p_fdiv, p_mod, p_pow, p_lt, p_le, p_gt, p_ge, p_isN, p_isB2, p_isnN, p_isnB2, p_neg, p_ixT, p_ixL, p_ixO, p_ofS, p_abs, p_max2, p_lenT, p_lenL, p_lenO, p_eq, p_ne, p_isI, p_iLst, p_iTup, p_iRg1, p_iRg2, p_eNewS, p_eComp, p_inB, p_in, p_nin, p_sSto, List.map_cons, List.map_nil, List.cons_append, List.nil_append, List.append_nil, List.set_cons_zero, List.set_cons_succ, List.getElem?_cons_zero, List.getElem?_cons_succ, List.getElem?_nil, List.length_cons, List.length_nil, List.zip_cons_cons, List.zip_nil_left, List.zip_nil_right, List.foldl_cons, List.foldl_nil, List.replicate, Nat.sub_self, Nat.reduceSub, Nat.reduceAdd, Nat.reduceLeDiff, Nat.reduceLT, Nat.zero_add, Int.reduceLT, Int.reduceLE, Int.reduceNeg, Int.reduceSub, Int.reduceAdd, Int.reduceMul, Int.reduceBEq, Bool.or_true, Bool.true_or, Bool.or_false, Bool.false_or, if_true, if_false, ite_true, ite_false, reduceIte, Bool.not_true, Bool.not_false, Bool.true_and, Bool.and_true, Bool.false_and, Bool.and_false, decide_true, decide_false, Bool.false_eq_true, eq_self, reduceCtorEq, true_and, and_true, and_self, sh, shs, dat, dats, ev_int, ev_str, ev_bl, ev_tup, ev_lst, ev_nil, ev_cons, ev_nc, ev_cn, ev_nn, ev_ni, ev_in, at0, at1, at2, at3, cst0, cst1, cst2, cst3, cst4, cst7, cst9, nO_nil, nO_cons, kl_nil, kl_cons, p_eSl, p_oNone, p_oSome, p_oI, p_slL, p_eLenSet, p_sOwn, p_sFrz, z_own, z_val, z_no, p_sApp, a_own, p_eOix, x_own, x_int, beq_self_eq_true, tyN, kt1, kt2, kt3, compL, cYes, cAll, toBls, e, k, Option.map_some, List.all_cons, List.all_nil, id]
theorem is_span_eval (s : Sp) (k : s.Ok) (S : Sto) : m_is_span [s.w] S = .ok (.bl (decide s.Ne)) S := by
  have e3 := an_eq k.l k.h
  have c3 : (decide (s.p = s.p') && decide (s.q = s.q')) = decide (s.p' * s.q = s.p * s.q') := by rw [← Bool.decide_and]; exact decide_eq_decide.mpr e3
  simp only [m_is_span, b_is_span, Sp.w, p_bind, b_ok, b_exn, b_bad, b_ite, s_ok, s_exn, s_bad, s_ite, q_nx, q_rt, q_exn, q_bad, q_ite, f_nx, f_rt, f_exn, f_bad, f_ite, i_ok, i_rt, i_int, i_bl, i_tt, i_ff, p_ret, p_eC, p_eVar, p_eOp, p_eUn, p_aNil, p_aCons, p_eCall, p_isB, p_tV, p_tNot, p_tAnd, p_tOr, p_eAnd, p_eOr, p_eNot, p_eIf, p_eTup, p_eLst, p_eChain, p_sBind, p_sSeq, p_sPass, p_sRet, p_sRetN, p_sDrop, p_sSet, p_sIf, p_sRaise, p_sAug, p_sUnp, p_sPar, p_sFor, p_bdN, p_bdT, p_body, p_add, p_addS, p_addT, p_addL, p_addI, p_sub, p_mul, p_mulI, p_mulS, p_fdiv, p_mod, p_pow, p_lt, p_le, p_gt, p_ge, p_isN, p_isB2, p_isnN, p_isnB2, p_neg, p_ixT, p_ixL, p_ixO, p_ofS, p_abs, p_max2, p_lenT, p_lenL, p_lenO, p_eq, p_ne, p_isI, p_iLst, p_iTup, p_iRg1, p_iRg2, p_eNewS, p_eComp, p_inB, p_in, p_nin, p_sSto, List.map_cons, List.map_nil, List.cons_append, List.nil_append, List.append_nil, List.set_cons_zero, List.set_cons_succ, List.getElem?_cons_zero, List.getElem?_cons_succ, List.getElem?_nil, List.length_cons, List.length_nil, List.zip_cons_cons, List.zip_nil_left, List.zip_nil_right, List.foldl_cons, List.foldl_nil, List.replicate, Nat.sub_self, Nat.reduceSub, Nat.reduceAdd, Nat.reduceLeDiff, Nat.reduceLT, Nat.zero_add, Int.reduceLT, Int.reduceLE, Int.reduceNeg, Int.reduceSub, Int.reduceAdd, Int.reduceMul, Int.reduceBEq, Bool.or_true, Bool.true_or, Bool.or_false, Bool.false_or, if_true, if_false, ite_true, ite_false, reduceIte, Bool.not_true, Bool.not_false, Bool.true_and, Bool.and_true, Bool.false_and, Bool.and_false, decide_true, decide_false, Bool.false_eq_true, eq_self, reduceCtorEq, true_and, and_true, and_self, sh, shs, dat, dats, ev_int, ev_str, ev_bl, ev_tup, ev_lst, ev_nil, ev_cons, ev_nc, ev_cn, ev_nn, ev_ni, ev_in, at0, at1, at2, at3, cst0, cst1, cst2, cst3, cst4, cst7, cst9, nO_nil, nO_cons, kl_nil, kl_cons, p_eSl, p_oNone, p_oSome, p_oI, p_slL, p_eLenSet, p_sOwn, p_sFrz, z_own, z_val, z_no, p_sApp, a_own, p_eOix, x_own, x_int, beq_self_eq_true, tyN, kt3, kt5, any_eval k.l, any_eval k.h, less_eval k.l.s k.h.s, c3]
  unfold Sp.Ne
  simp only [beq_dec, ← Bool.and_assoc, c3]
  rw [Bool.and_assoc]
  congr 2
  by_cases h1 : s.p * s.q' < s.p' * s.q
  · simp [h1]
  · by_cases h2 : s.p * s.q' = s.p' * s.q
    · simp [h1, h2]
    · have h3 : ¬ s.p' * s.q = s.p * s.q' := fun h => h2 h.symm
      simp [h1, h2, h3]
theorem is_range_eval (s : Sp) (k : s.Ok) (S : Sto) : m_is_range [s.w] S = .ok (.bl (decide s.Ne && (!decide (s.p < -200 * s.q) && !decide (200 * s.q' < s.p')))) S := by
  have e1 := is_span_eval s k
  have s1 : s64 1 := by decide
  have e2 := less_eval (a := s.p) (b := s.q) (p := -200) (q := 1) k.l.s s1
  have e3 := less_eval (a := 200) (b := 1) (p := s.p') (q := s.q') s1 k.h.s
  simp only [Int.mul_one] at e2 e3
  unfold Sp.w at e1 ⊢
  simp only [m_is_range, b_is_range, p_bind, b_ok, b_exn, b_bad, b_ite, s_ok, s_exn, s_bad, s_ite, q_nx, q_rt, q_exn, q_bad, q_ite, f_nx, f_rt, f_exn, f_bad, f_ite, i_ok, i_rt, i_int, i_bl, i_tt, i_ff, p_ret, p_eC, p_eVar, p_eOp, p_eUn, p_aNil, p_aCons, p_eCall, p_isB, p_tV, p_tNot, p_tAnd, p_tOr, p_eAnd, p_eOr, p_eNot, p_eIf, p_eTup, p_eLst, p_eChain, p_sBind, p_sSeq, p_sPass, p_sRet, p_sRetN, p_sDrop, p_sSet, p_sIf, p_sRaise, p_sAug, p_sUnp, p_sPar, p_sFor, p_bdN, p_bdT, p_body, p_add, p_addS, p_addT, p_addL, p_addI, p_sub, p_mul, p_mulI, p_mulS, p_fdiv, p_mod, p_pow, p_lt, p_le, p_gt, p_ge, p_isN, p_isB2, p_isnN, p_isnB2, p_neg, p_ixT, p_ixL, p_ixO, p_ofS, p_abs, p_max2, p_lenT, p_lenL, p_lenO, p_eq, p_ne, p_isI, p_iLst, p_iTup, p_iRg1, p_iRg2, p_eNewS, p_eComp, p_inB, p_in, p_nin, p_sSto, List.map_cons, List.map_nil, List.cons_append, List.nil_append, List.append_nil, List.set_cons_zero, List.set_cons_succ, List.getElem?_cons_zero, List.getElem?_cons_succ, List.getElem?_nil, List.length_cons, List.length_nil, List.zip_cons_cons, List.zip_nil_left, List.zip_nil_right, List.foldl_cons, List.foldl_nil, List.replicate, Nat.sub_self, Nat.reduceSub, Nat.reduceAdd, Nat.reduceLeDiff, Nat.reduceLT, Nat.zero_add, Int.reduceLT, Int.reduceLE, Int.reduceNeg, Int.reduceSub, Int.reduceAdd, Int.reduceMul, Int.reduceBEq, Bool.or_true, Bool.true_or, Bool.or_false, Bool.false_or, if_true, if_false, ite_true, ite_false, reduceIte, Bool.not_true, Bool.not_false, Bool.true_and, Bool.and_true, Bool.false_and, Bool.and_false, decide_true, decide_false, Bool.false_eq_true, eq_self, reduceCtorEq, true_and, and_true, and_self, sh, shs, dat, dats, ev_int, ev_str, ev_bl, ev_tup, ev_lst, ev_nil, ev_cons, ev_nc, ev_cn, ev_nn, ev_ni, ev_in, at0, at1, at2, at3, cst0, cst1, cst2, cst3, cst4, cst7, cst9, e1, e2, e3]
/-! ### all fractions that are read so -/
theorem rgW_succ (i : Int) (n : Nat) : rgW i (n + 1) = .int i :: rgW (i + 1) n := by
  unfold rgW
  rw [List.range_succ_eq_map, List.map_cons, List.map_map]
  congr 1
  · simp
  · apply List.map_congr_left
    intro a _
    simp only [Function.comp, Nat.succ_eq_add_one]
    congr 1
    omega
def okR (s : Sp) (t k : Int) : Bool := decide (Int.gcd t k = 1) && (decide ((if t < 0 then -t else t) ≤ 100 * k) && decide (s.In t k))
/-- what one top gives -/
def oneR (s : Sp) (k : Int) : W → List W
  | .int t => if okR s t k then [fr t k] else []
  | _ => []
def fst (s : Sp) (k : Int) : Int := s.p * k / s.q
def lst (s : Sp) (k : Int) : Int := s.p' * k / s.q' + 1
def rowR (s : Sp) : W → List W
  | .int k => (rgW (fst s k) (lst s k + 1 - fst s k).toNat).flatMap (oneR s k)
  | _ => []
def rdg (s : Sp) (most : Int) : List W := (rgW 1 (most + 1 - 1).toNat).flatMap (rowR s)
theorem mem_rgW {i : Int} {n : Nat} {w : W} (h : w ∈ rgW i n) : ∃ t : Int, w = .int t ∧ i ≤ t ∧ t < i + n := by
  unfold rgW at h
  obtain ⟨j, hj, e⟩ := List.mem_map.mp h
  have := List.mem_range.mp hj
  exact ⟨i + j, e.symm, by omega, by omega⟩
theorem rgW_len (i : Int) (n : Nat) : (rgW i n).length = n := by unfold rgW; simp
theorem fst_eq (r : Ru) (u : Int) {d : Int} (h6 : d ≤ 6) (k : Int) : fst (spn r u d) k = xl r u * k / (2 * pw d) := by
  obtain ⟨g, g', g0, g0', a1, a2, b1, b2, _⟩ := spn_parts r u h6
  unfold fst
  rw [a1, a2, Int.mul_assoc, Int.mul_ediv_mul_of_pos _ _ g0]
theorem lst_eq (r : Ru) (u : Int) {d : Int} (h6 : d ≤ 6) (k : Int) : lst (spn r u d) k = xh r u * k / (2 * pw d) + 1 := by
  obtain ⟨g, g', g0, g0', a1, a2, b1, b2, _⟩ := spn_parts r u h6
  unfold lst
  rw [b1, b2, Int.mul_assoc, Int.mul_ediv_mul_of_pos _ _ g0']
theorem xs_bd (r : Ru) (u : Int) : xl r u ≤ xh r u ∧ xh r u ≤ xl r u + 4 ∧ 2 * u - 2 ≤ xl r u ∧ xh r u ≤ 2 * u + 2 := by
  cases r <;> simp only [xl, xh] <;> (repeat' split) <;> omega
theorem ends_bd (r : Ru) {u d k : Int} (h6 : d ≤ 6) (u0 : -(101 * pw d) ≤ u) (u1 : u ≤ 101 * pw d) (k0 : 1 ≤ k) (k1 : k ≤ 20) :
    lst (spn r u d) k + 1 - fst (spn r u d) k ≤ 82 ∧ -10000000000 ≤ fst (spn r u d) k ∧ fst (spn r u d) k ≤ 10000000000 ∧ -10000000000 ≤ lst (spn r u d) k ∧ lst (spn r u d) k ≤ 10000000001 := by
  have p1 := pw_pos d
  have p2 := pw_le h6
  obtain ⟨b1, b2, b3, b4⟩ := xs_bd r u
  rw [fst_eq r u h6, lst_eq r u h6]
  have hy : 0 < 2 * pw d := by omega
  have m1 : xh r u * k ≤ xl r u * k + 4 * k := by rw [← Int.add_mul]; exact Int.mul_le_mul_of_nonneg_right b2 (by omega)
  have m2 : xl r u * k ≤ xh r u * k := Int.mul_le_mul_of_nonneg_right b1 (by omega)
  have m3 : (-500000000) * k ≤ xl r u * k := Int.mul_le_mul_of_nonneg_right (by omega) (by omega)
  have m4 : xh r u * k ≤ 500000000 * k := Int.mul_le_mul_of_nonneg_right (by omega) (by omega)
  have q1 := ediv_bd (x := xl r u * k) (B := 10000000000) hy (by omega) (by omega)
  have q2 := ediv_bd (x := xh r u * k) (B := 10000000000) hy (by omega) (by omega)
  refine ⟨?_, q1.1, q1.2, by omega, by omega⟩
  have h3 : xh r u * k / (2 * pw d) ≤ xl r u * k / (2 * pw d) + 80 := by
    have h4 : xh r u * k / (2 * pw d) < xl r u * k / (2 * pw d) + 81 := by
      apply (Int.ediv_lt_iff_lt_mul hy).mpr
      have h5 := Int.mul_ediv_add_emod (xl r u * k) (2 * pw d)
      have h6 := Int.emod_lt_of_pos (xl r u * k) hy
      rw [Int.add_mul, Int.mul_comm _ (2 * pw d)]
      omega
    omega
  omega
end Pu
end
section
namespace Pu
open PySem Zz Mir
def frR (r : Ru) (u d most : Int) (s : Sp) (x : Sl × Sl × Sl × Sl) (own : List W) : En := [.val (.int u), .val (.int d), .val (.str (nm r)), .val (.int most), .val s.w, .own own, x.1, x.2.1, x.2.2.1, x.2.2.2]
theorem u_reading_L0 (env : En) (S : Sto) : b_reading_of_L0 env S = (sIf (Zz.tAnd (tV (eOp opEq (eCall m_common (aCons (eVar 9) (aCons (eVar 6) aNil))) (eC (.int 1)))) (Zz.tAnd (tV (eOp opLe (eCall cAbs (aCons (eVar 9) aNil)) (eOp opMul (eC (.int 100)) (eVar 6)))) (tV (eCall m_within (aCons (eVar 4) (aCons (eTup (aCons (eVar 9) (aCons (eVar 6) aNil))) aNil))))))
  (sApp 5 (eTup (aCons (eVar 9) (aCons (eVar 6) aNil))))
  sPass) env S := rfl
theorem u_reading_L1 (env : En) (S : Sto) : b_reading_of_L1 env S = (sSeq (sSet 7 (eOp opFdiv (eOp opMul (eOp opIx (eOp opIx (eVar 4) (eC (.int 0))) (eC (.int 0))) (eVar 6)) (eOp opIx (eOp opIx (eVar 4) (eC (.int 0))) (eC (.int 1)))))
  (sSeq (sSet 8 (eOp opAdd (eOp opFdiv (eOp opMul (eOp opIx (eOp opIx (eVar 4) (eC (.int 2))) (eC (.int 0))) (eVar 6)) (eOp opIx (eOp opIx (eVar 4) (eC (.int 2))) (eC (.int 1)))) (eC (.int 1))))
  (sFor (iRg2 (eVar 7) (eOp opAdd (eVar 8) (eC (.int 1)))) (bdN 9)
  b_reading_of_L0))) env S := rfl
theorem reading_one (r : Ru) (u d most : Int) (s : Sp) (hs : s.Ok) {k : Int} (k0 : 1 ≤ k) (k1 : k ≤ 20) (t : Int) (z7 z8 : Sl) (acc : List W) (hl : acc.length + 1 ≤ 5000) (S : Sto) :
    b_reading_of_L0 (frR r u d most s (.val (.int k), z7, z8, .val (.int t)) acc) S = .nx (frR r u d most s (.val (.int k), z7, z8, .val (.int t)) (acc ++ oneR s k (.int t))) S := by
  have hk : s64 k := by unfold s64; omega
  have e1 : m_common [.int t, .int k] S = .ok (.int (Int.gcd t k : Nat)) S := common_eval t k S (by omega) (by omega)
  have g1 : gMul 100 k := .inl (by decide)
  have ec : (((Int.gcd t k : Nat) : Int) == 1) = decide (Int.gcd t k = 1) := by
    rw [beq_dec]
    apply decide_eq_decide.mpr
    omega
  rw [u_reading_L0]
  unfold frR oneR okR
  by_cases hg : Int.gcd t k = 1
  · have e2 := within_eval s hs (a := t) (b := k) ⟨by omega, hk, hg⟩
    unfold Sp.w at e2 ⊢
    simp only [p_bind, b_ok, b_exn, b_bad, b_ite, s_ok, s_exn, s_bad, s_ite, q_nx, q_rt, q_exn, q_bad, q_ite, f_nx, f_rt, f_exn, f_bad, f_ite, i_ok, i_rt, i_int, i_bl, i_tt, i_ff, p_ret, p_eC, p_eVar, p_eOp, p_eUn, p_aNil, p_aCons, p_eCall, p_isB, p_tV, p_tNot, p_tAnd, p_tOr, p_eAnd, p_eOr, p_eNot, p_eIf, p_eTup, p_eLst, p_eChain, p_sBind, p_sSeq, p_sPass, p_sRet, p_sRetN, p_sDrop, p_sSet, p_sIf, p_sRaise, p_sAug, p_sUnp, p_sPar, p_sFor, p_bdN, p_bdT, p_body, p_add, p_addS, p_addT, p_addL, p_addI, p_sub, p_mul, p_mulI, p_mulS, p_fdiv, p_mod, p_pow, p_lt, p_le, p_gt, p_ge, p_isN, p_isB2, p_isnN, p_isnB2, p_neg, p_ixT, p_ixL, p_ixO, p_ofS, p_abs, p_max2, p_lenT, p_lenL, p_lenO, p_eq, p_ne, p_isI, p_iLst, p_iTup, p_iRg1, p_iRg2, p_eNewS, p_eComp, p_inB, p_in, p_nin, p_sSto, List.map_cons, List.map_nil, List.cons_append, List.nil_append, List.append_nil, List.set_cons_zero, List.set_cons_succ, List.getElem?_cons_zero, List.getElem?_cons_succ, List.getElem?_nil, List.length_cons, List.length_nil, List.zip_cons_cons, List.zip_nil_left, List.zip_nil_right, List.foldl_cons, List.foldl_nil, List.replicate, Nat.sub_self, Nat.reduceSub, Nat.reduceAdd, Nat.reduceLeDiff, Nat.reduceLT, Nat.zero_add, Int.reduceLT, Int.reduceLE, Int.reduceNeg, Int.reduceSub, Int.reduceAdd, Int.reduceMul, Int.reduceBEq, Bool.or_true, Bool.true_or, Bool.or_false, Bool.false_or, if_true, if_false, ite_true, ite_false, reduceIte, Bool.not_true, Bool.not_false, Bool.true_and, Bool.and_true, Bool.false_and, Bool.and_false, decide_true, decide_false, Bool.false_eq_true, eq_self, reduceCtorEq, true_and, and_true, and_self, sh, shs, dat, dats, ev_int, ev_str, ev_bl, ev_tup, ev_lst, ev_nil, ev_cons, ev_nc, ev_cn, ev_nn, ev_ni, ev_in, at0, at1, at2, at3, cst0, cst1, cst2, cst3, cst4, cst7, cst9, nO_nil, nO_cons, kl_nil, kl_cons, p_eSl, p_oNone, p_oSome, p_oI, p_slL, p_eLenSet, p_sOwn, p_sFrz, z_own, z_val, z_no, p_sApp, a_own, p_eOix, x_own, x_int, beq_self_eq_true, e1, ec, hg, g1, e2]
    by_cases h1 : (if t < 0 then -t else t) ≤ 100 * k
    · by_cases h2 : s.In t k
      · simp only [h1, h2, p_bind, b_ok, b_exn, b_bad, b_ite, s_ok, s_exn, s_bad, s_ite, q_nx, q_rt, q_exn, q_bad, q_ite, f_nx, f_rt, f_exn, f_bad, f_ite, i_ok, i_rt, i_int, i_bl, i_tt, i_ff, p_ret, p_eC, p_eVar, p_eOp, p_eUn, p_aNil, p_aCons, p_eCall, p_isB, p_tV, p_tNot, p_tAnd, p_tOr, p_eAnd, p_eOr, p_eNot, p_eIf, p_eTup, p_eLst, p_eChain, p_sBind, p_sSeq, p_sPass, p_sRet, p_sRetN, p_sDrop, p_sSet, p_sIf, p_sRaise, p_sAug, p_sUnp, p_sPar, p_sFor, p_bdN, p_bdT, p_body, p_add, p_addS, p_addT, p_addL, p_addI, p_sub, p_mul, p_mulI, p_mulS, p_fdiv, p_mod, p_pow, p_lt, p_le, p_gt, p_ge, p_isN, p_isB2, p_isnN, p_isnB2, p_neg, p_ixT, p_ixL, p_ixO, p_ofS, p_abs, p_max2, p_lenT, p_lenL, p_lenO, p_eq, p_ne, p_isI, p_iLst, p_iTup, p_iRg1, p_iRg2, p_eNewS, p_eComp, p_inB, p_in, p_nin, p_sSto, List.map_cons, List.map_nil, List.cons_append, List.nil_append, List.append_nil, List.set_cons_zero, List.set_cons_succ, List.getElem?_cons_zero, List.getElem?_cons_succ, List.getElem?_nil, List.length_cons, List.length_nil, List.zip_cons_cons, List.zip_nil_left, List.zip_nil_right, List.foldl_cons, List.foldl_nil, List.replicate, Nat.sub_self, Nat.reduceSub, Nat.reduceAdd, Nat.reduceLeDiff, Nat.reduceLT, Nat.zero_add, Int.reduceLT, Int.reduceLE, Int.reduceNeg, Int.reduceSub, Int.reduceAdd, Int.reduceMul, Int.reduceBEq, Bool.or_true, Bool.true_or, Bool.or_false, Bool.false_or, if_true, if_false, ite_true, ite_false, reduceIte, Bool.not_true, Bool.not_false, Bool.true_and, Bool.and_true, Bool.false_and, Bool.and_false, decide_true, decide_false, Bool.false_eq_true, eq_self, reduceCtorEq, true_and, and_true, and_self, sh, shs, dat, dats, ev_int, ev_str, ev_bl, ev_tup, ev_lst, ev_nil, ev_cons, ev_nc, ev_cn, ev_nn, ev_ni, ev_in, at0, at1, at2, at3, cst0, cst1, cst2, cst3, cst4, cst7, cst9]
        rw [if_pos (by omega)]
      · simp only [h1, h2, p_bind, b_ok, b_exn, b_bad, b_ite, s_ok, s_exn, s_bad, s_ite, q_nx, q_rt, q_exn, q_bad, q_ite, f_nx, f_rt, f_exn, f_bad, f_ite, i_ok, i_rt, i_int, i_bl, i_tt, i_ff, p_ret, p_eC, p_eVar, p_eOp, p_eUn, p_aNil, p_aCons, p_eCall, p_isB, p_tV, p_tNot, p_tAnd, p_tOr, p_eAnd, p_eOr, p_eNot, p_eIf, p_eTup, p_eLst, p_eChain, p_sBind, p_sSeq, p_sPass, p_sRet, p_sRetN, p_sDrop, p_sSet, p_sIf, p_sRaise, p_sAug, p_sUnp, p_sPar, p_sFor, p_bdN, p_bdT, p_body, p_add, p_addS, p_addT, p_addL, p_addI, p_sub, p_mul, p_mulI, p_mulS, p_fdiv, p_mod, p_pow, p_lt, p_le, p_gt, p_ge, p_isN, p_isB2, p_isnN, p_isnB2, p_neg, p_ixT, p_ixL, p_ixO, p_ofS, p_abs, p_max2, p_lenT, p_lenL, p_lenO, p_eq, p_ne, p_isI, p_iLst, p_iTup, p_iRg1, p_iRg2, p_eNewS, p_eComp, p_inB, p_in, p_nin, p_sSto, List.map_cons, List.map_nil, List.cons_append, List.nil_append, List.append_nil, List.set_cons_zero, List.set_cons_succ, List.getElem?_cons_zero, List.getElem?_cons_succ, List.getElem?_nil, List.length_cons, List.length_nil, List.zip_cons_cons, List.zip_nil_left, List.zip_nil_right, List.foldl_cons, List.foldl_nil, List.replicate, Nat.sub_self, Nat.reduceSub, Nat.reduceAdd, Nat.reduceLeDiff, Nat.reduceLT, Nat.zero_add, Int.reduceLT, Int.reduceLE, Int.reduceNeg, Int.reduceSub, Int.reduceAdd, Int.reduceMul, Int.reduceBEq, Bool.or_true, Bool.true_or, Bool.or_false, Bool.false_or, if_true, if_false, ite_true, ite_false, reduceIte, Bool.not_true, Bool.not_false, Bool.true_and, Bool.and_true, Bool.false_and, Bool.and_false, decide_true, decide_false, Bool.false_eq_true, eq_self, reduceCtorEq, true_and, and_true, and_self, sh, shs, dat, dats, ev_int, ev_str, ev_bl, ev_tup, ev_lst, ev_nil, ev_cons, ev_nc, ev_cn, ev_nn, ev_ni, ev_in, at0, at1, at2, at3, cst0, cst1, cst2, cst3, cst4, cst7, cst9]
    · simp only [h1, p_bind, b_ok, b_exn, b_bad, b_ite, s_ok, s_exn, s_bad, s_ite, q_nx, q_rt, q_exn, q_bad, q_ite, f_nx, f_rt, f_exn, f_bad, f_ite, i_ok, i_rt, i_int, i_bl, i_tt, i_ff, p_ret, p_eC, p_eVar, p_eOp, p_eUn, p_aNil, p_aCons, p_eCall, p_isB, p_tV, p_tNot, p_tAnd, p_tOr, p_eAnd, p_eOr, p_eNot, p_eIf, p_eTup, p_eLst, p_eChain, p_sBind, p_sSeq, p_sPass, p_sRet, p_sRetN, p_sDrop, p_sSet, p_sIf, p_sRaise, p_sAug, p_sUnp, p_sPar, p_sFor, p_bdN, p_bdT, p_body, p_add, p_addS, p_addT, p_addL, p_addI, p_sub, p_mul, p_mulI, p_mulS, p_fdiv, p_mod, p_pow, p_lt, p_le, p_gt, p_ge, p_isN, p_isB2, p_isnN, p_isnB2, p_neg, p_ixT, p_ixL, p_ixO, p_ofS, p_abs, p_max2, p_lenT, p_lenL, p_lenO, p_eq, p_ne, p_isI, p_iLst, p_iTup, p_iRg1, p_iRg2, p_eNewS, p_eComp, p_inB, p_in, p_nin, p_sSto, List.map_cons, List.map_nil, List.cons_append, List.nil_append, List.append_nil, List.set_cons_zero, List.set_cons_succ, List.getElem?_cons_zero, List.getElem?_cons_succ, List.getElem?_nil, List.length_cons, List.length_nil, List.zip_cons_cons, List.zip_nil_left, List.zip_nil_right, List.foldl_cons, List.foldl_nil, List.replicate, Nat.sub_self, Nat.reduceSub, Nat.reduceAdd, Nat.reduceLeDiff, Nat.reduceLT, Nat.zero_add, Int.reduceLT, Int.reduceLE, Int.reduceNeg, Int.reduceSub, Int.reduceAdd, Int.reduceMul, Int.reduceBEq, Bool.or_true, Bool.true_or, Bool.or_false, Bool.false_or, if_true, if_false, ite_true, ite_false, reduceIte, Bool.not_true, Bool.not_false, Bool.true_and, Bool.and_true, Bool.false_and, Bool.and_false, decide_true, decide_false, Bool.false_eq_true, eq_self, reduceCtorEq, true_and, and_true, and_self, sh, shs, dat, dats, ev_int, ev_str, ev_bl, ev_tup, ev_lst, ev_nil, ev_cons, ev_nc, ev_cn, ev_nn, ev_ni, ev_in, at0, at1, at2, at3, cst0, cst1, cst2, cst3, cst4, cst7, cst9]
  · simp only [p_bind, b_ok, b_exn, b_bad, b_ite, s_ok, s_exn, s_bad, s_ite, q_nx, q_rt, q_exn, q_bad, q_ite, f_nx, f_rt, f_exn, f_bad, f_ite, i_ok, i_rt, i_int, i_bl, i_tt, i_ff, p_ret, p_eC, p_eVar, p_eOp, p_eUn, p_aNil, p_aCons, p_eCall, p_isB, p_tV, p_tNot, p_tAnd, p_tOr, p_eAnd, p_eOr, p_eNot, p_eIf, p_eTup, p_eLst, p_eChain, p_sBind, p_sSeq, p_sPass, p_sRet, p_sRetN, p_sDrop, p_sSet, p_sIf, p_sRaise, p_sAug, p_sUnp, p_sPar, p_sFor, p_bdN, p_bdT, p_body, p_add, p_addS, p_addT, p_addL, p_addI, p_sub, p_mul, p_mulI, p_mulS, p_fdiv, p_mod, p_pow, p_lt, p_le, p_gt, p_ge, p_isN, p_isB2, p_isnN, p_isnB2, p_neg, p_ixT, p_ixL, p_ixO, p_ofS, p_abs, p_max2, p_lenT, p_lenL, p_lenO, p_eq, p_ne, p_isI, p_iLst, p_iTup, p_iRg1, p_iRg2, p_eNewS, p_eComp, p_inB, p_in, p_nin, p_sSto, List.map_cons, List.map_nil, List.cons_append, List.nil_append, List.append_nil, List.set_cons_zero, List.set_cons_succ, List.getElem?_cons_zero, List.getElem?_cons_succ, List.getElem?_nil, List.length_cons, List.length_nil, List.zip_cons_cons, List.zip_nil_left, List.zip_nil_right, List.foldl_cons, List.foldl_nil, List.replicate, Nat.sub_self, Nat.reduceSub, Nat.reduceAdd, Nat.reduceLeDiff, Nat.reduceLT, Nat.zero_add, Int.reduceLT, Int.reduceLE, Int.reduceNeg, Int.reduceSub, Int.reduceAdd, Int.reduceMul, Int.reduceBEq, Bool.or_true, Bool.true_or, Bool.or_false, Bool.false_or, if_true, if_false, ite_true, ite_false, reduceIte, Bool.not_true, Bool.not_false, Bool.true_and, Bool.and_true, Bool.false_and, Bool.and_false, decide_true, decide_false, Bool.false_eq_true, eq_self, reduceCtorEq, true_and, and_true, and_self, sh, shs, dat, dats, ev_int, ev_str, ev_bl, ev_tup, ev_lst, ev_nil, ev_cons, ev_nc, ev_cn, ev_nn, ev_ni, ev_in, at0, at1, at2, at3, cst0, cst1, cst2, cst3, cst4, cst7, cst9, nO_nil, nO_cons, kl_nil, kl_cons, p_eSl, p_oNone, p_oSome, p_oI, p_slL, p_eLenSet, p_sOwn, p_sFrz, z_own, z_val, z_no, p_sApp, a_own, p_eOix, x_own, x_int, beq_self_eq_true, e1, ec, hg]
theorem one_len (s : Sp) (k : Int) (w : W) : (oneR s k w).length ≤ 1 := by
  cases w <;> simp only [oneR] <;> (try split) <;> simp
theorem flat_len {g : W → List W} {c : Nat} : ∀ ws : List W, (∀ w ∈ ws, (g w).length ≤ c) → (ws.flatMap g).length ≤ c * ws.length
  | [], _ => by simp
  | w :: r, h => by
    have h1 := h w List.mem_cons_self
    have h2 := flat_len r fun w hw => h w (List.mem_cons_of_mem _ hw)
    rw [List.flatMap_cons, List.length_append, List.length_cons, Nat.mul_add]
    omega
theorem row_len (r : Ru) {u d k : Int} (h6 : d ≤ 6) (u0 : -(101 * pw d) ≤ u) (u1 : u ≤ 101 * pw d) (k0 : 1 ≤ k) (k1 : k ≤ 20) : (rowR (spn r u d) (.int k)).length ≤ 82 := by
  have h := ends_bd r h6 u0 u1 k0 k1
  have h2 := flat_len (g := oneR (spn r u d) k) (c := 1) (rgW (fst (spn r u d) k) (lst (spn r u d) k + 1 - fst (spn r u d) k).toNat) (fun w _ => one_len _ k w)
  rw [rgW_len] at h2
  show (List.flatMap (oneR (spn r u d) k) (rgW (fst (spn r u d) k) (lst (spn r u d) k + 1 - fst (spn r u d) k).toNat)).length ≤ 82
  omega
theorem reading_row (r : Ru) {u d k : Int} (h6 : d ≤ 6) (u0 : -(101 * pw d) ≤ u) (u1 : u ≤ 101 * pw d) (k0 : 1 ≤ k) (k1 : k ≤ 20) (most : Int) (z7 z8 z9 : Sl) (acc : List W) (hl : acc.length + 82 ≤ 5000) (S : Sto) :
    ∃ y7 y8 y9, b_reading_of_L1 (frR r u d most (spn r u d) (.val (.int k), z7, z8, z9) acc) S = .nx (frR r u d most (spn r u d) (.val (.int k), y7, y8, y9) (acc ++ rowR (spn r u d) (.int k))) S := by
  have hb := ends_bd r h6 u0 u1 k0 k1
  obtain ⟨g, g', g0, g0', a1, a2, b1, b2, ok, q1, q2⟩ := spn_parts r u h6
  have p2 := pw_le h6
  have c1 : gMul (spn r u d).p k := .inr (.inl (by unfold s64; omega))
  have c2 : gMul (spn r u d).p' k := .inr (.inl (by unfold s64; omega))
  have l0 := ok.l.q0
  have l1 := ok.h.q0
  have c3 : sml (spn r u d).q := sml_of (by omega) (by omega)
  have c4 : sml (spn r u d).q' := sml_of (by omega) (by omega)
  have c5 : smI (fst (spn r u d) k) := by unfold smI; omega
  have c6 : smI (lst (spn r u d) k + 1) := by unfold smI; omega
  obtain ⟨x', hx⟩ := loop_acc (bd := bdN 9) (body := b_reading_of_L0) (S := S) (fun (x : Sl) own => frR r u d most (spn r u d) (.val (.int k), .val (.int (fst (spn r u d) k)), .val (.int (lst (spn r u d) k)), x) own) (oneR (spn r u d) k) 1 5000 (rgW (fst (spn r u d) k) (lst (spn r u d) k + 1 - fst (spn r u d) k).toNat) z9 acc (fun w hw x acc ha => by
    obtain ⟨t, rfl, _, _⟩ := mem_rgW hw
    exact ⟨_, .val (.int t), rfl, reading_one r u d most (spn r u d) ok k0 k1 t _ _ acc ha S⟩) (fun w _ => one_len _ k w) (by rw [rgW_len]; omega)
  refine ⟨.val (.int (fst (spn r u d) k)), .val (.int (lst (spn r u d) k)), x', ?_⟩
  rw [u_reading_L1]
  unfold frR Sp.w at hx ⊢
  unfold fst lst at *
  simp only [p_bind, b_ok, b_exn, b_bad, b_ite, s_ok, s_exn, s_bad, s_ite, q_nx, q_rt, q_exn, q_bad, q_ite, f_nx, f_rt, f_exn, f_bad, f_ite, i_ok, i_rt, i_int, i_bl, i_tt, i_ff, p_ret, p_eC, p_eVar, p_eOp, p_eUn, p_aNil, p_aCons, p_eCall, p_isB, p_tV, p_tNot, p_tAnd, p_tOr, p_eAnd, p_eOr, p_eNot, p_eIf, p_eTup, p_eLst, p_eChain, p_sBind, p_sSeq, p_sPass, p_sRet, p_sRetN, p_sDrop, p_sSet, p_sIf, p_sRaise, p_sAug, p_sUnp, p_sPar, p_sFor, p_bdN, p_bdT, p_body, p_add, p_addS, p_addT, p_addL, p_addI, p_sub, p_mul, p_mulI, p_mulS, p_fdiv, p_mod, p_pow, p_lt, p_le, p_gt, p_ge, p_isN, p_isB2, p_isnN, p_isnB2, p_neg, p_ixT, p_ixL, p_ixO, p_ofS, p_abs, p_max2, p_lenT, p_lenL, p_lenO, p_eq, p_ne, p_isI, p_iLst, p_iTup, p_iRg1, p_iRg2, p_eNewS, p_eComp, p_inB, p_in, p_nin, p_sSto, List.map_cons, List.map_nil, List.cons_append, List.nil_append, List.append_nil, List.set_cons_zero, List.set_cons_succ, List.getElem?_cons_zero, List.getElem?_cons_succ, List.getElem?_nil, List.length_cons, List.length_nil, List.zip_cons_cons, List.zip_nil_left, List.zip_nil_right, List.foldl_cons, List.foldl_nil, List.replicate, Nat.sub_self, Nat.reduceSub, Nat.reduceAdd, Nat.reduceLeDiff, Nat.reduceLT, Nat.zero_add, Int.reduceLT, Int.reduceLE, Int.reduceNeg, Int.reduceSub, Int.reduceAdd, Int.reduceMul, Int.reduceBEq, Bool.or_true, Bool.true_or, Bool.or_false, Bool.false_or, if_true, if_false, ite_true, ite_false, reduceIte, Bool.not_true, Bool.not_false, Bool.true_and, Bool.and_true, Bool.false_and, Bool.and_false, decide_true, decide_false, Bool.false_eq_true, eq_self, reduceCtorEq, true_and, and_true, and_self, sh, shs, dat, dats, ev_int, ev_str, ev_bl, ev_tup, ev_lst, ev_nil, ev_cons, ev_nc, ev_cn, ev_nn, ev_ni, ev_in, at0, at1, at2, at3, cst0, cst1, cst2, cst3, cst4, cst7, cst9, c1, c2, l0, l1, c3, c4, c5, c6, l_nx, l_rt, l_ite, p_loopN, p_loop0, hx]
  rfl
theorem reading_eval (r : Ru) {u d most : Int} (S : Sto) (h0 : 0 ≤ d) (h6 : d ≤ 6) (u0 : -(101 * pw d) ≤ u) (u1 : u ≤ 101 * pw d) (k1 : most ≤ 20) (k0 : 1 ≤ most) : m_reading_of [.int u, .int d, .str (nm r), .int most] S = .ok (.lst (rdg (spn r u d) most)) S := by
  obtain ⟨x', hx⟩ := loop_acc (bd := bdN 6) (body := b_reading_of_L1) (S := S) (frR r u d most (spn r u d)) (rowR (spn r u d)) 82 5000 (rgW 1 (most + 1 - 1).toNat) (.no, .no, .no, .no) [] (fun w hw x acc ha => by
    obtain ⟨t, rfl, t0, t1⟩ := mem_rgW hw
    obtain ⟨y7, y8, y9, h⟩ := reading_row r h6 u0 u1 t0 (by omega) most x.2.1 x.2.2.1 x.2.2.2 acc ha S
    exact ⟨_, (.val (.int t), y7, y8, y9), rfl, h⟩) (fun w hw => by
    obtain ⟨t, rfl, t0, t1⟩ := mem_rgW hw
    exact row_len r h6 u0 u1 t0 (by omega)) (by rw [rgW_len]; simp only [List.length_nil]; omega)
  have c1 : smI 1 := by decide
  have c2 : smI (most + 1) := by unfold smI; omega
  unfold frR at hx
  simp only [m_reading_of, b_reading_of, p_bind, b_ok, b_exn, b_bad, b_ite, s_ok, s_exn, s_bad, s_ite, q_nx, q_rt, q_exn, q_bad, q_ite, f_nx, f_rt, f_exn, f_bad, f_ite, i_ok, i_rt, i_int, i_bl, i_tt, i_ff, p_ret, p_eC, p_eVar, p_eOp, p_eUn, p_aNil, p_aCons, p_eCall, p_isB, p_tV, p_tNot, p_tAnd, p_tOr, p_eAnd, p_eOr, p_eNot, p_eIf, p_eTup, p_eLst, p_eChain, p_sBind, p_sSeq, p_sPass, p_sRet, p_sRetN, p_sDrop, p_sSet, p_sIf, p_sRaise, p_sAug, p_sUnp, p_sPar, p_sFor, p_bdN, p_bdT, p_body, p_add, p_addS, p_addT, p_addL, p_addI, p_sub, p_mul, p_mulI, p_mulS, p_fdiv, p_mod, p_pow, p_lt, p_le, p_gt, p_ge, p_isN, p_isB2, p_isnN, p_isnB2, p_neg, p_ixT, p_ixL, p_ixO, p_ofS, p_abs, p_max2, p_lenT, p_lenL, p_lenO, p_eq, p_ne, p_isI, p_iLst, p_iTup, p_iRg1, p_iRg2, p_eNewS, p_eComp, p_inB, p_in, p_nin, p_sSto, List.map_cons, List.map_nil, List.cons_append, List.nil_append, List.append_nil, List.set_cons_zero, List.set_cons_succ, List.getElem?_cons_zero, List.getElem?_cons_succ, List.getElem?_nil, List.length_cons, List.length_nil, List.zip_cons_cons, List.zip_nil_left, List.zip_nil_right, List.foldl_cons, List.foldl_nil, List.replicate, Nat.sub_self, Nat.reduceSub, Nat.reduceAdd, Nat.reduceLeDiff, Nat.reduceLT, Nat.zero_add, Int.reduceLT, Int.reduceLE, Int.reduceNeg, Int.reduceSub, Int.reduceAdd, Int.reduceMul, Int.reduceBEq, Bool.or_true, Bool.true_or, Bool.or_false, Bool.false_or, if_true, if_false, ite_true, ite_false, reduceIte, Bool.not_true, Bool.not_false, Bool.true_and, Bool.and_true, Bool.false_and, Bool.and_false, decide_true, decide_false, Bool.false_eq_true, eq_self, reduceCtorEq, true_and, and_true, and_self, sh, shs, dat, dats, ev_int, ev_str, ev_bl, ev_tup, ev_lst, ev_nil, ev_cons, ev_nc, ev_cn, ev_nn, ev_ni, ev_in, at0, at1, at2, at3, cst0, cst1, cst2, cst3, cst4, cst7, cst9, nO_nil, nO_cons, kl_nil, kl_cons, p_eSl, p_oNone, p_oSome, p_oI, p_slL, p_eLenSet, p_sOwn, p_sFrz, z_own, z_val, z_no, p_sApp, a_own, p_eOix, x_own, x_int, beq_self_eq_true, span_eval r u _ h0 h6, c1, c2, l_nx, l_rt, l_ite, p_loopN, p_loop0, hx]
  rfl
theorem freading_eval (r : Ru) {u d most : Int} (S : Sto) (h0 : 0 ≤ d) (h6 : d ≤ 6) (u0 : -(101 * pw d) ≤ u) (u1 : u ≤ 101 * pw d) (k1 : most ≤ 20) (k0 : 1 ≤ most) : m_fractions_reading [.int u, .int d, .str (nm r), .int most] S = .ok (.lst (rdg (spn r u d) most)) S := by
  have e1 : decide (1 ≤ most) = true := decide_eq_true k0
  have e2 : decide (most ≤ 20) = true := decide_eq_true k1
  simp only [m_fractions_reading, b_fractions_reading, p_bind, b_ok, b_exn, b_bad, b_ite, s_ok, s_exn, s_bad, s_ite, q_nx, q_rt, q_exn, q_bad, q_ite, f_nx, f_rt, f_exn, f_bad, f_ite, i_ok, i_rt, i_int, i_bl, i_tt, i_ff, p_ret, p_eC, p_eVar, p_eOp, p_eUn, p_aNil, p_aCons, p_eCall, p_isB, p_tV, p_tNot, p_tAnd, p_tOr, p_eAnd, p_eOr, p_eNot, p_eIf, p_eTup, p_eLst, p_eChain, p_sBind, p_sSeq, p_sPass, p_sRet, p_sRetN, p_sDrop, p_sSet, p_sIf, p_sRaise, p_sAug, p_sUnp, p_sPar, p_sFor, p_bdN, p_bdT, p_body, p_add, p_addS, p_addT, p_addL, p_addI, p_sub, p_mul, p_mulI, p_mulS, p_fdiv, p_mod, p_pow, p_lt, p_le, p_gt, p_ge, p_isN, p_isB2, p_isnN, p_isnB2, p_neg, p_ixT, p_ixL, p_ixO, p_ofS, p_abs, p_max2, p_lenT, p_lenL, p_lenO, p_eq, p_ne, p_isI, p_iLst, p_iTup, p_iRg1, p_iRg2, p_eNewS, p_eComp, p_inB, p_in, p_nin, p_sSto, List.map_cons, List.map_nil, List.cons_append, List.nil_append, List.append_nil, List.set_cons_zero, List.set_cons_succ, List.getElem?_cons_zero, List.getElem?_cons_succ, List.getElem?_nil, List.length_cons, List.length_nil, List.zip_cons_cons, List.zip_nil_left, List.zip_nil_right, List.foldl_cons, List.foldl_nil, List.replicate, Nat.sub_self, Nat.reduceSub, Nat.reduceAdd, Nat.reduceLeDiff, Nat.reduceLT, Nat.zero_add, Int.reduceLT, Int.reduceLE, Int.reduceNeg, Int.reduceSub, Int.reduceAdd, Int.reduceMul, Int.reduceBEq, Bool.or_true, Bool.true_or, Bool.or_false, Bool.false_or, if_true, if_false, ite_true, ite_false, reduceIte, Bool.not_true, Bool.not_false, Bool.true_and, Bool.and_true, Bool.false_and, Bool.and_false, decide_true, decide_false, Bool.false_eq_true, eq_self, reduceCtorEq, true_and, and_true, and_self, sh, shs, dat, dats, ev_int, ev_str, ev_bl, ev_tup, ev_lst, ev_nil, ev_cons, ev_nc, ev_cn, ev_nn, ev_ni, ev_in, at0, at1, at2, at3, cst0, cst1, cst2, cst3, cst4, cst7, cst9, check_digits_eval h0 h6, whole_eval _ h0 h6 u0 u1, check_rule_eval, is_int_eval, e1, e2, reading_eval r _ h0 h6 u0 u1 k1 k0]
theorem creading_eval (r : Ru) {u d most : Int} (S : Sto) (h0 : 0 ≤ d) (h6 : d ≤ 6) (u0 : -(101 * pw d) ≤ u) (u1 : u ≤ 101 * pw d) (k1 : most ≤ 20) (k0 : 1 ≤ most) : m_count_reading [.int u, .int d, .str (nm r), .int most] S = .ok (.int (rdg (spn r u d) most).length) S := by
  have e1 : decide (1 ≤ most) = true := decide_eq_true k0
  have e2 : decide (most ≤ 20) = true := decide_eq_true k1
  simp only [m_count_reading, b_count_reading, p_bind, b_ok, b_exn, b_bad, b_ite, s_ok, s_exn, s_bad, s_ite, q_nx, q_rt, q_exn, q_bad, q_ite, f_nx, f_rt, f_exn, f_bad, f_ite, i_ok, i_rt, i_int, i_bl, i_tt, i_ff, p_ret, p_eC, p_eVar, p_eOp, p_eUn, p_aNil, p_aCons, p_eCall, p_isB, p_tV, p_tNot, p_tAnd, p_tOr, p_eAnd, p_eOr, p_eNot, p_eIf, p_eTup, p_eLst, p_eChain, p_sBind, p_sSeq, p_sPass, p_sRet, p_sRetN, p_sDrop, p_sSet, p_sIf, p_sRaise, p_sAug, p_sUnp, p_sPar, p_sFor, p_bdN, p_bdT, p_body, p_add, p_addS, p_addT, p_addL, p_addI, p_sub, p_mul, p_mulI, p_mulS, p_fdiv, p_mod, p_pow, p_lt, p_le, p_gt, p_ge, p_isN, p_isB2, p_isnN, p_isnB2, p_neg, p_ixT, p_ixL, p_ixO, p_ofS, p_abs, p_max2, p_lenT, p_lenL, p_lenO, p_eq, p_ne, p_isI, p_iLst, p_iTup, p_iRg1, p_iRg2, p_eNewS, p_eComp, p_inB, p_in, p_nin, p_sSto, List.map_cons, List.map_nil, List.cons_append, List.nil_append, List.append_nil, List.set_cons_zero, List.set_cons_succ, List.getElem?_cons_zero, List.getElem?_cons_succ, List.getElem?_nil, List.length_cons, List.length_nil, List.zip_cons_cons, List.zip_nil_left, List.zip_nil_right, List.foldl_cons, List.foldl_nil, List.replicate, Nat.sub_self, Nat.reduceSub, Nat.reduceAdd, Nat.reduceLeDiff, Nat.reduceLT, Nat.zero_add, Int.reduceLT, Int.reduceLE, Int.reduceNeg, Int.reduceSub, Int.reduceAdd, Int.reduceMul, Int.reduceBEq, Bool.or_true, Bool.true_or, Bool.or_false, Bool.false_or, if_true, if_false, ite_true, ite_false, reduceIte, Bool.not_true, Bool.not_false, Bool.true_and, Bool.and_true, Bool.false_and, Bool.and_false, decide_true, decide_false, Bool.false_eq_true, eq_self, reduceCtorEq, true_and, and_true, and_self, sh, shs, dat, dats, ev_int, ev_str, ev_bl, ev_tup, ev_lst, ev_nil, ev_cons, ev_nc, ev_cn, ev_nn, ev_ni, ev_in, at0, at1, at2, at3, cst0, cst1, cst2, cst3, cst4, cst7, cst9, check_digits_eval h0 h6, whole_eval _ h0 h6 u0 u1, check_rule_eval, is_int_eval, e1, e2, reading_eval r _ h0 h6 u0 u1 k1 k0]
end Pu
end
section
namespace Pu
open PySem Zz Mir
theorem p_loopT2 {env : En} {S : Sto} {sb : SM} (i j : Nat) (x y : W) (r : List W) : loopL (bdT [i, j]) sb (.tup [x, y] :: r) env S = lpR (sb ((env.set i (.val x)).set j (.val y)) S) (bdT [i, j]) sb r := rfl
theorem p_loopT3 {env : En} {S : Sto} {sb : SM} (i j k : Nat) (x y z : W) (r : List W) : loopL (bdT [i, j, k]) sb (.tup [x, y, z] :: r) env S = lpR (sb (((env.set i (.val x)).set j (.val y)).set k (.val z)) S) (bdT [i, j, k]) sb r := rfl
theorem xs_lt (r : Ru) (u : Int) : xl r u < xh r u := by
  cases r <;> simp only [xl, xh] <;> (repeat' split) <;> omega
/-- width of a range -/
theorem spn_gap (r : Ru) (u : Int) {d : Int} (h6 : d ≤ 6) : ∃ G : Int, 0 < G ∧ G * ((spn r u d).p' * (spn r u d).q - (spn r u d).p * (spn r u d).q') = (xh r u - xl r u) * (2 * pw d) ∧ G * ((spn r u d).q * (spn r u d).q') = 2 * pw d * (2 * pw d) := by
  obtain ⟨g, g', g0, g0', a1, a2, b1, b2, ok, q1, q2⟩ := spn_parts r u h6
  refine ⟨g * g', Int.mul_pos g0 g0', ?_, ?_⟩
  · have e1 : g * g' * ((spn r u d).p' * (spn r u d).q - (spn r u d).p * (spn r u d).q') = (g' * (spn r u d).p') * (g * (spn r u d).q) - (g * (spn r u d).p) * (g' * (spn r u d).q') := by
      rw [Int.mul_sub]
      congr 1
      · ac_rfl
      · ac_rfl
    rw [e1, ← a1, ← b1, ← a2, ← b2, Int.sub_mul]
  · have e1 : g * g' * ((spn r u d).q * (spn r u d).q') = (g * (spn r u d).q) * (g' * (spn r u d).q') := by ac_rfl
    rw [e1, ← a2, ← b2]
theorem spn_lt (r : Ru) (u : Int) {d : Int} (h6 : d ≤ 6) : (spn r u d).p * (spn r u d).q' < (spn r u d).p' * (spn r u d).q := by
  obtain ⟨G, h0, h1, _⟩ := spn_gap r u h6
  have p1 := pw_pos d
  have l := xs_lt r u
  have h2 : 0 < (xh r u - xl r u) * (2 * pw d) := Int.mul_pos (by omega) (by omega)
  rw [← h1] at h2
  have h3 := Int.pos_of_mul_pos_right h2 h0
  omega
theorem spn_ne (r : Ru) (u : Int) {d : Int} (h6 : d ≤ 6) : (spn r u d).Ne := .inl (spn_lt r u h6)
theorem is_range_true (r : Ru) {u d : Int} (S : Sto) (h6 : d ≤ 6) (u0 : -(101 * pw d) ≤ u) (u1 : u ≤ 101 * pw d) : m_is_range [(spn r u d).w] S = .ok (.bl true) S := by
  obtain ⟨g, g', g0, g0', a1, a2, b1, b2, ok, q1, q2⟩ := spn_parts r u h6
  have p1 := pw_pos d
  obtain ⟨x1, x2, x3, x4⟩ := xs_bd r u
  have e1 : ¬ (spn r u d).p < -200 * (spn r u d).q := by
    intro h
    have h2 : g * (spn r u d).p < g * (-200 * (spn r u d).q) := Int.mul_lt_mul_of_pos_left h g0
    rw [Int.mul_left_comm, ← a1, ← a2] at h2
    omega
  have e2 : ¬ 200 * (spn r u d).q' < (spn r u d).p' := by
    intro h
    have h2 : g' * (200 * (spn r u d).q') < g' * (spn r u d).p' := Int.mul_lt_mul_of_pos_left h g0'
    rw [Int.mul_left_comm, ← b1, ← b2] at h2
    omega
  rw [is_range_eval _ ok]
  simp only [spn_ne r u h6, e1, e2, decide_true, decide_false, Bool.not_false, Bool.and_self]
theorem in_low (r : Ru) (u : Int) {d : Int} (h6 : d ≤ 6) : (spn r u d).In (spn r u d).p (spn r u d).q ↔ (spn r u d).lb = true := by
  unfold Sp.In
  have := spn_lt r u h6
  constructor
  · rintro ⟨h | h, _⟩
    · omega
    · exact h.2
  · intro h
    exact ⟨.inr ⟨rfl, h⟩, .inl this⟩
theorem in_high (r : Ru) (u : Int) {d : Int} (h6 : d ≤ 6) : (spn r u d).In (spn r u d).p' (spn r u d).q' ↔ (spn r u d).hb = true := by
  unfold Sp.In
  have := spn_lt r u h6
  constructor
  · rintro ⟨_, h | h⟩
    · omega
    · exact h.2
  · intro h
    exact ⟨.inl this, .inr ⟨rfl, h⟩⟩
/-- a little inside the low end, outside it, inside the high end, outside it -/
theorem near_ends (r : Ru) (u : Int) {d m : Int} (h6 : d ≤ 6) (hm : m = 1000 * pw d) :
    (spn r u d).In ((spn r u d).p * m + (spn r u d).q) ((spn r u d).q * m) ∧
    ¬ (spn r u d).In ((spn r u d).p * m + -1 * (spn r u d).q) ((spn r u d).q * m) ∧
    (spn r u d).In ((spn r u d).p' * m + -1 * (spn r u d).q') ((spn r u d).q' * m) ∧
    ¬ (spn r u d).In ((spn r u d).p' * m + (spn r u d).q') ((spn r u d).q' * m) := by
  obtain ⟨g, g', g0, g0', a1, a2, b1, b2, ok, q1, q2⟩ := spn_parts r u h6
  obtain ⟨G, h0, h1, h2⟩ := spn_gap r u h6
  have p1 := pw_pos d
  have l := xs_lt r u
  have l0 := ok.l.q0
  have l1 := ok.h.q0
  generalize hs : spn r u d = s at *
  have key : s.q * s.q' < (s.p' * s.q - s.p * s.q') * m := by
    have k1 : G * (s.q * s.q') < G * ((s.p' * s.q - s.p * s.q') * m) := by
      rw [h2, ← Int.mul_assoc G, h1, hm]
      have k2 : 1 * (2 * pw d * (1000 * pw d)) ≤ (xh r u - xl r u) * (2 * pw d * (1000 * pw d)) := Int.mul_le_mul_of_nonneg_right (by omega) (Int.le_of_lt (Int.mul_pos (by omega) (by omega)))
      have k3 : 0 < pw d * pw d := Int.mul_pos p1 p1
      have k4 : 2 * pw d * (1000 * pw d) = 2000 * (pw d * pw d) := by
        rw [show (2000 : Int) = 2 * 1000 by decide]; ac_rfl
      have k5 : 2 * pw d * (2 * pw d) = 4 * (pw d * pw d) := by
        rw [show (4 : Int) = 2 * 2 by decide]; ac_rfl
      rw [k5, Int.mul_assoc]
      rw [k4] at k2 ⊢
      omega
    exact Int.lt_of_mul_lt_mul_left k1 (Int.le_of_lt h0)
  have e1 : s.p * (s.q * m) = s.p * m * s.q := by ac_rfl
  have e2 : s.p' * (s.q * m) = s.p' * s.q * m := by ac_rfl
  have e3 : s.p * (s.q' * m) = s.p * s.q' * m := by ac_rfl
  have e4 : s.p' * (s.q' * m) = s.p' * m * s.q' := by ac_rfl
  have e5 : s.p * m * s.q' = s.p * s.q' * m := by ac_rfl
  have e6 : s.p' * m * s.q = s.p' * s.q * m := by ac_rfl
  have e7 : s.q' * s.q = s.q * s.q' := Int.mul_comm ..
  have z1 : 0 < s.q * s.q := Int.mul_pos l0 l0
  have z2 : 0 < s.q' * s.q' := Int.mul_pos l1 l1
  rw [Int.sub_mul] at key
  unfold Sp.In
  simp only [Int.add_mul, Int.neg_mul, Int.one_mul, e1, e2, e3, e4, e5, e6, e7]
  omega
theorem true_eval (p q : Bool) (S : Sto) : m__law_true [.bl p, .bl q] S = .ok (.bl (decide (p = q))) S := by
  simp only [m__law_true, b__law_true, p_bind, b_ok, b_exn, b_bad, b_ite, s_ok, s_exn, s_bad, s_ite, q_nx, q_rt, q_exn, q_bad, q_ite, f_nx, f_rt, f_exn, f_bad, f_ite, i_ok, i_rt, i_int, i_bl, i_tt, i_ff, p_ret, p_eC, p_eVar, p_eOp, p_eUn, p_aNil, p_aCons, p_eCall, p_isB, p_tV, p_tNot, p_tAnd, p_tOr, p_eAnd, p_eOr, p_eNot, p_eIf, p_eTup, p_eLst, p_eChain, p_sBind, p_sSeq, p_sPass, p_sRet, p_sRetN, p_sDrop, p_sSet, p_sIf, p_sRaise, p_sAug, p_sUnp, p_sPar, p_sFor, p_bdN, p_bdT, p_body, p_add, p_addS, p_addT, p_addL, p_addI, p_sub, p_mul, p_mulI, p_mulS, p_fdiv, p_mod, p_pow, p_lt, p_le, p_gt, p_ge, p_isN, p_isB2, p_isnN, p_isnB2, p_neg, p_ixT, p_ixL, p_ixO, p_ofS, p_abs, p_max2, p_lenT, p_lenL, p_lenO, p_eq, p_ne, p_isI, p_iLst, p_iTup, p_iRg1, p_iRg2, p_eNewS, p_eComp, p_inB, p_in, p_nin, p_sSto, List.map_cons, List.map_nil, List.cons_append, List.nil_append, List.append_nil, List.set_cons_zero, List.set_cons_succ, List.getElem?_cons_zero, List.getElem?_cons_succ, List.getElem?_nil, List.length_cons, List.length_nil, List.zip_cons_cons, List.zip_nil_left, List.zip_nil_right, List.foldl_cons, List.foldl_nil, List.replicate, Nat.sub_self, Nat.reduceSub, Nat.reduceAdd, Nat.reduceLeDiff, Nat.reduceLT, Nat.zero_add, Int.reduceLT, Int.reduceLE, Int.reduceNeg, Int.reduceSub, Int.reduceAdd, Int.reduceMul, Int.reduceBEq, Bool.or_true, Bool.true_or, Bool.or_false, Bool.false_or, if_true, if_false, ite_true, ite_false, reduceIte, Bool.not_true, Bool.not_false, Bool.true_and, Bool.and_true, Bool.false_and, Bool.and_false, decide_true, decide_false, Bool.false_eq_true, eq_self, reduceCtorEq, true_and, and_true, and_self, sh, shs, dat, dats, ev_int, ev_str, ev_bl, ev_tup, ev_lst, ev_nil, ev_cons, ev_nc, ev_cn, ev_nn, ev_ni, ev_in, at0, at1, at2, at3, cst0, cst1, cst2, cst3, cst4, cst7, cst9, kt5]
  cases p <;> cases q <;> rfl
theorem uo_whole (r : Ru) {a b d : Int} (f : Fr a b) : -(100 * pw d) ≤ uo r (a * pw d) b ∧ uo r (a * pw d) b ≤ 100 * pw d := by
  have b0 := f.b0
  have p1 := pw_pos d
  have hb : 0 < b := by omega
  obtain ⟨h1, h2⟩ := uo_bound r (a * pw d) hb
  have l1 : (-100 * b) * pw d ≤ a * pw d := Int.mul_le_mul_of_nonneg_right f.lo (Int.le_of_lt p1)
  have l2 : a * pw d ≤ (100 * b) * pw d := Int.mul_le_mul_of_nonneg_right f.hi (Int.le_of_lt p1)
  have e1 : (-100 * b) * pw d = -(100 * pw d * b) := by rw [Int.neg_mul, Int.neg_mul]; congr 1; ac_rfl
  have e2 : (100 * b) * pw d = 100 * pw d * b := by ac_rfl
  rw [e1] at l1
  rw [e2] at l2
  constructor
  · have : (-(100 * pw d) - 1) * b < uo r (a * pw d) b * b := by rw [Int.sub_mul, Int.neg_mul]; omega
    have := Int.lt_of_mul_lt_mul_right this (Int.le_of_lt hb)
    omega
  · have : uo r (a * pw d) b * b < (100 * pw d + 1) * b := by rw [Int.add_mul]; omega
    have := Int.lt_of_mul_lt_mul_right this (Int.le_of_lt hb)
    omega
theorem pick_rule {T S : Sto} (h : DOk T S) : ∃ r S', m__law_pick [.obj 1, .lst (rus fun r => .str (nm r))] S = .ok (.str (nm r)) S' ∧ DOk T S' := by
  obtain ⟨w, S', e, h', m⟩ := pick_eval h (ws := rus fun r => .str (nm r)) (by simp [rus, Ru.all]) (by simp [rus, Ru.all])
  obtain ⟨r, rfl⟩ := mem_rus m
  exact ⟨r, S', e, h'⟩
theorem shs_of {n : Nat} : ∀ ws : List W, (∀ w ∈ ws, sh n w = true) → shs n ws = true
  | [], _ => by simp [shs]
  | w :: r, h => by
    have h1 := h w List.mem_cons_self
    have h2 := shs_of r fun x hx => h x (List.mem_cons_of_mem _ hx)
    simp [shs, h1, h2]
theorem rdg_mem {s : Sp} {most : Int} {w : W} (h : w ∈ rdg s most) : ∃ t k : Int, w = fr t k ∧ 1 ≤ k ∧ k ≤ most ∧ okR s t k = true := by
  unfold rdg at h
  obtain ⟨v, h1, h2⟩ := List.mem_flatMap.mp h
  obtain ⟨k, rfl, k0, k1⟩ := mem_rgW h1
  unfold rowR at h2
  obtain ⟨v, h3, h4⟩ := List.mem_flatMap.mp h2
  obtain ⟨t, rfl, t0, t1⟩ := mem_rgW h3
  unfold oneR at h4
  by_cases hk : okR s t k = true
  · simp only [hk, if_true, List.mem_singleton] at h4
    exact ⟨t, k, h4, k0, by omega, hk⟩
  · simp only [hk, if_false, Bool.false_eq_true, List.not_mem_nil] at h4
theorem rdg_sh (s : Sp) (most : Int) : shs 7 (rdg s most) = true := shs_of _ fun w hw => by
  obtain ⟨t, k, rfl, _⟩ := rdg_mem hw
  simp [sh, shs]
end Pu
end
section
namespace Pu
open PySem Zz Mir
theorem lo_iff (r : Ru) (n u : Int) {b : Int} (hb : 0 < b) : (xl r u * b < 2 * n ∨ (xl r u * b = 2 * n ∧ bl r u = true)) ↔ u ≤ uo r n b := by
  have hdm := Int.mul_ediv_add_emod n b
  have hm0 := Int.emod_nonneg n (by omega : b ≠ 0)
  have hm1 := Int.emod_lt_of_pos n hb
  obtain ⟨q, hq⟩ : ∃ q, q = n / b := ⟨_, rfl⟩
  obtain ⟨m, hm⟩ : ∃ m, m = n % b := ⟨_, rfl⟩
  rw [← hq, ← hm] at hdm
  rw [← hm] at hm0 hm1
  have hs : (0 ≤ q ∧ 0 ≤ b * q) ∨ (q < 0 ∧ b * q ≤ -b) := by
    by_cases h : 0 ≤ q
    · exact .inl ⟨h, Int.mul_nonneg (by omega) h⟩
    · right
      refine ⟨by omega, ?_⟩
      have : b * q ≤ b * (-1) := Int.mul_le_mul_of_nonneg_left (by omega) (by omega)
      omega
  have ht : (u ≤ q - 1 ∧ b * u ≤ b * q - b) ∨ (u = q ∧ b * u = b * q) ∨ (u = q + 1 ∧ b * u = b * q + b) ∨ (q + 2 ≤ u ∧ b * q + 2 * b ≤ b * u) := by
    by_cases h1 : u ≤ q - 1
    · left
      refine ⟨h1, ?_⟩
      have : b * u ≤ b * (q - 1) := Int.mul_le_mul_of_nonneg_left h1 (by omega)
      rw [Int.mul_sub] at this
      omega
    · by_cases h2 : u = q
      · right; left; exact ⟨h2, by rw [h2]⟩
      · by_cases h3 : u = q + 1
        · right; right; left; exact ⟨h3, by rw [h3, Int.mul_add]; omega⟩
        · right; right; right
          refine ⟨by omega, ?_⟩
          have : b * (q + 2) ≤ b * u := Int.mul_le_mul_of_nonneg_left (by omega) (by omega)
          rw [Int.mul_add] at this
          omega
  have e0 : (2 * u) * b = 2 * (b * u) := by rw [Int.mul_assoc, Int.mul_comm u b]
  have e1 : (2 * u - 2) * b = 2 * (b * u) - 2 * b := by rw [Int.sub_mul, e0]
  have e3 : (2 * u - 1) * b = 2 * (b * u) - b := by rw [Int.sub_mul, e0, Int.one_mul]
  unfold uo
  rw [← hq, ← hm]
  generalize b * u = bu at *
  generalize b * q = bq at *
  cases r <;> simp only [xl, bl, reduceCtorEq, or_true, or_false, if_true, if_false, e0, e1, e3, decide_eq_true_eq, Bool.false_eq_true, and_false, and_true] <;> (repeat' split) <;> (try simp only [e0, e1, e3]) <;> omega
theorem xh_xl (r : Ru) (u : Int) : xh r u = xl r (u + 1) ∧ bh r u = !bl r (u + 1) := by
  cases r <;> simp only [xl, xh, bl, bh, Bool.not_true, Bool.not_false, and_true] <;> (repeat' split) <;> (try omega)
  all_goals (refine ⟨by omega, ?_⟩; rw [← decide_not]; apply decide_eq_decide.mpr; omega)
theorem hi_iff (r : Ru) (n u : Int) {b : Int} (hb : 0 < b) : (2 * n < xh r u * b ∨ (2 * n = xh r u * b ∧ bh r u = true)) ↔ uo r n b ≤ u := by
  have h := lo_iff r n (u + 1) hb
  obtain ⟨e1, e2⟩ := xh_xl r u
  rw [e1, e2]
  rcases Bool.eq_false_or_eq_true (bl r (u + 1)) with k | k <;> simp only [k, Bool.not_true, Bool.not_false, Bool.false_eq_true, and_false, and_true, or_false] at h ⊢ <;> omega
/-- the lower and the upper condition -/
theorem lo_in (r : Ru) (a u : Int) {b d : Int} (hb : 0 < b) (h6 : d ≤ 6) : ((spn r u d).p * b < a * (spn r u d).q ∨ ((spn r u d).p * b = a * (spn r u d).q ∧ (spn r u d).lb = true)) ↔ u ≤ uo r (a * pw d) b := by
  obtain ⟨g, g', g0, g0', a1, a2, b1, b2, _⟩ := spn_parts r u h6
  rw [← lo_iff r (a * pw d) u hb]
  have c1 : 2 * (a * pw d) = g * (a * (spn r u d).q) := by rw [Int.mul_left_comm, a2, Int.mul_left_comm]
  have l1 : xl r u * b < 2 * (a * pw d) ↔ (spn r u d).p * b < a * (spn r u d).q := by
    rw [a1, c1, Int.mul_assoc]
    exact ⟨fun h => Int.lt_of_mul_lt_mul_left h (Int.le_of_lt g0), fun h => Int.mul_lt_mul_of_pos_left h g0⟩
  have l2 : xl r u * b = 2 * (a * pw d) ↔ (spn r u d).p * b = a * (spn r u d).q := by
    rw [a1, c1, Int.mul_assoc]
    exact ⟨fun h => Int.eq_of_mul_eq_mul_left (by omega) h, fun h => by rw [h]⟩
  rw [l1, l2]
  rfl
theorem hi_in (r : Ru) (a u : Int) {b d : Int} (hb : 0 < b) (h6 : d ≤ 6) : (a * (spn r u d).q' < (spn r u d).p' * b ∨ (a * (spn r u d).q' = (spn r u d).p' * b ∧ (spn r u d).hb = true)) ↔ uo r (a * pw d) b ≤ u := by
  obtain ⟨g, g', g0, g0', a1, a2, b1, b2, _⟩ := spn_parts r u h6
  rw [← hi_iff r (a * pw d) u hb]
  have c2 : 2 * (a * pw d) = g' * (a * (spn r u d).q') := by rw [Int.mul_left_comm, b2, Int.mul_left_comm]
  have l3 : 2 * (a * pw d) < xh r u * b ↔ a * (spn r u d).q' < (spn r u d).p' * b := by
    rw [b1, c2, Int.mul_assoc]
    exact ⟨fun h => Int.lt_of_mul_lt_mul_left h (Int.le_of_lt g0'), fun h => Int.mul_lt_mul_of_pos_left h g0'⟩
  have l4 : 2 * (a * pw d) = xh r u * b ↔ a * (spn r u d).q' = (spn r u d).p' * b := by
    rw [b1, c2, Int.mul_assoc]
    exact ⟨fun h => Int.eq_of_mul_eq_mul_left (by omega) h, fun h => by rw [h]⟩
  rw [l3, l4]
  rfl
/-! ### a range over several units -/
def spn2 (r : Ru) (u v d : Int) : Sp := ⟨(spn r u d).p, (spn r u d).q, (spn r u d).lb, (spn r v d).p', (spn r v d).q', (spn r v d).hb⟩
theorem in2 (r : Ru) (a u v : Int) {b d : Int} (hb : 0 < b) (h6 : d ≤ 6) : (spn2 r u v d).In a b ↔ u ≤ uo r (a * pw d) b ∧ uo r (a * pw d) b ≤ v := by
  rw [← lo_in r a u hb h6, ← hi_in r a v hb h6]
  rfl
theorem spn2_ok (r : Ru) (u v : Int) {d : Int} (h6 : d ≤ 6) : (spn2 r u v d).Ok := by
  obtain ⟨g, g', g0, g0', a1, a2, b1, b2, ok, _⟩ := spn_parts r u h6
  obtain ⟨_, _, _, _, _, _, _, _, ok2, _⟩ := spn_parts r v h6
  exact ⟨ok.l, ok2.h⟩
theorem spn2_lt (r : Ru) {u v d : Int} (h6 : d ≤ 6) (huv : xl r u < xh r v) : (spn2 r u v d).p * (spn2 r u v d).q' < (spn2 r u v d).p' * (spn2 r u v d).q := by
  obtain ⟨g, _, g0, _, a1, a2, _, _, _⟩ := spn_parts r u h6
  obtain ⟨_, g', _, g0', _, _, b1, b2, _⟩ := spn_parts r v h6
  show (spn r u d).p * (spn r v d).q' < (spn r v d).p' * (spn r u d).q
  have p1 := pw_pos d
  have k1 : (g * (spn r u d).p) * (g' * (spn r v d).q') < (g' * (spn r v d).p') * (g * (spn r u d).q) := by
    rw [← a1, ← a2, ← b1, ← b2]
    exact Int.mul_lt_mul_of_pos_right huv (by omega)
  have e1 : (g * (spn r u d).p) * (g' * (spn r v d).q') = g * g' * ((spn r u d).p * (spn r v d).q') := by ac_rfl
  have e2 : (g' * (spn r v d).p') * (g * (spn r u d).q) = g * g' * ((spn r v d).p' * (spn r u d).q) := by ac_rfl
  rw [e1, e2] at k1
  exact Int.lt_of_mul_lt_mul_left k1 (Int.le_of_lt (Int.mul_pos g0 g0'))
theorem spn_lo_bd (r : Ru) {u d : Int} (h6 : d ≤ 6) (u0 : -(101 * pw d) ≤ u) : ¬ (spn r u d).p < -200 * (spn r u d).q := by
  obtain ⟨g, g', g0, g0', a1, a2, b1, b2, ok, q1, q2⟩ := spn_parts r u h6
  have p1 := pw_pos d
  obtain ⟨x1, x2, x3, x4⟩ := xs_bd r u
  intro h
  have h2 : g * (spn r u d).p < g * (-200 * (spn r u d).q) := Int.mul_lt_mul_of_pos_left h g0
  rw [Int.mul_left_comm, ← a1, ← a2] at h2
  omega
theorem spn_hi_bd (r : Ru) {u d : Int} (h6 : d ≤ 6) (u1 : u ≤ 101 * pw d) : ¬ 200 * (spn r u d).q' < (spn r u d).p' := by
  obtain ⟨g, g', g0, g0', a1, a2, b1, b2, ok, q1, q2⟩ := spn_parts r u h6
  have p1 := pw_pos d
  obtain ⟨x1, x2, x3, x4⟩ := xs_bd r u
  intro h
  have h2 : g' * (200 * (spn r u d).q') < g' * (spn r u d).p' := Int.mul_lt_mul_of_pos_left h g0'
  rw [Int.mul_left_comm, ← b1, ← b2] at h2
  omega
/-- what check_range lets pass -/
structure Sp.Rg (s : Sp) : Prop where
  ok : s.Ok
  ne : s.Ne
  lo : ¬ s.p < -200 * s.q
  hi : ¬ 200 * s.q' < s.p'
theorem Sp.Rg.is {s : Sp} (h : s.Rg) (S : Sto) : m_is_range [s.w] S = .ok (.bl true) S := by
  rw [is_range_eval s h.ok]
  simp only [h.ne, h.lo, h.hi, decide_true, decide_false, Bool.not_false, Bool.and_self]
theorem Sp.Rg.chk {s : Sp} (h : s.Rg) (S : Sto) : m_check_range [s.w] S = .ok .non S := by
  simp only [m_check_range, b_check_range, p_bind, b_ok, b_exn, b_bad, b_ite, s_ok, s_exn, s_bad, s_ite, q_nx, q_rt, q_exn, q_bad, q_ite, f_nx, f_rt, f_exn, f_bad, f_ite, i_ok, i_rt, i_int, i_bl, i_tt, i_ff, p_ret, p_eC, p_eVar, p_eOp, p_eUn, p_aNil, p_aCons, p_eCall, p_isB, p_tV, p_tNot, p_tAnd, p_tOr, p_eAnd, p_eOr, p_eNot, p_eIf, p_eTup, p_eLst, p_eChain, p_sBind, p_sSeq, p_sPass, p_sRet, p_sRetN, p_sDrop, p_sSet, p_sIf, p_sRaise, p_sAug, p_sUnp, p_sPar, p_sFor, p_bdN, p_bdT, p_body, p_add, p_addS, p_addT, p_addL, p_addI, p_sub, p_mul, p_mulI, p_mulS, p_fdiv, p_mod, p_pow, p_lt, p_le, p_gt, p_ge, p_isN, p_isB2, p_isnN, p_isnB2, p_neg, p_ixT, p_ixL, p_ixO, p_ofS, p_abs, p_max2, p_lenT, p_lenL, p_lenO, p_eq, p_ne, p_isI, p_iLst, p_iTup, p_iRg1, p_iRg2, p_eNewS, p_eComp, p_inB, p_in, p_nin, p_sSto, List.map_cons, List.map_nil, List.cons_append, List.nil_append, List.append_nil, List.set_cons_zero, List.set_cons_succ, List.getElem?_cons_zero, List.getElem?_cons_succ, List.getElem?_nil, List.length_cons, List.length_nil, List.zip_cons_cons, List.zip_nil_left, List.zip_nil_right, List.foldl_cons, List.foldl_nil, List.replicate, Nat.sub_self, Nat.reduceSub, Nat.reduceAdd, Nat.reduceLeDiff, Nat.reduceLT, Nat.zero_add, Int.reduceLT, Int.reduceLE, Int.reduceNeg, Int.reduceSub, Int.reduceAdd, Int.reduceMul, Int.reduceBEq, Bool.or_true, Bool.true_or, Bool.or_false, Bool.false_or, if_true, if_false, ite_true, ite_false, reduceIte, Bool.not_true, Bool.not_false, Bool.true_and, Bool.and_true, Bool.false_and, Bool.and_false, decide_true, decide_false, Bool.false_eq_true, eq_self, reduceCtorEq, true_and, and_true, and_self, sh, shs, dat, dats, ev_int, ev_str, ev_bl, ev_tup, ev_lst, ev_nil, ev_cons, ev_nc, ev_cn, ev_nn, ev_ni, ev_in, at0, at1, at2, at3, cst0, cst1, cst2, cst3, cst4, cst7, cst9, h.is]
theorem spn2_rg (r : Ru) {u v d : Int} (h6 : d ≤ 6) (huv : u ≤ v) (u0 : -(101 * pw d) ≤ u) (u1 : v ≤ 101 * pw d) : (spn2 r u v d).Rg := by
  refine ⟨spn2_ok r u v h6, .inl (spn2_lt r h6 ?_), spn_lo_bd r h6 u0, spn_hi_bd r h6 u1⟩
  cases r <;> simp only [xl, xh] <;> (repeat' split) <;> omega
theorem spn_rg (r : Ru) {u d : Int} (h6 : d ≤ 6) (u0 : -(101 * pw d) ≤ u) (u1 : u ≤ 101 * pw d) : (spn r u d).Rg := spn2_rg r (u := u) (v := u) h6 (Int.le_refl u) u0 u1
theorem contains_eval {s : Sp} (h : s.Rg) {a b : Int} (f : Fr a b) (S : Sto) : m_contains [s.w, fr a b] S = .ok (.bl (decide (s.In a b))) S := by
  simp only [m_contains, b_contains, p_bind, b_ok, b_exn, b_bad, b_ite, s_ok, s_exn, s_bad, s_ite, q_nx, q_rt, q_exn, q_bad, q_ite, f_nx, f_rt, f_exn, f_bad, f_ite, i_ok, i_rt, i_int, i_bl, i_tt, i_ff, p_ret, p_eC, p_eVar, p_eOp, p_eUn, p_aNil, p_aCons, p_eCall, p_isB, p_tV, p_tNot, p_tAnd, p_tOr, p_eAnd, p_eOr, p_eNot, p_eIf, p_eTup, p_eLst, p_eChain, p_sBind, p_sSeq, p_sPass, p_sRet, p_sRetN, p_sDrop, p_sSet, p_sIf, p_sRaise, p_sAug, p_sUnp, p_sPar, p_sFor, p_bdN, p_bdT, p_body, p_add, p_addS, p_addT, p_addL, p_addI, p_sub, p_mul, p_mulI, p_mulS, p_fdiv, p_mod, p_pow, p_lt, p_le, p_gt, p_ge, p_isN, p_isB2, p_isnN, p_isnB2, p_neg, p_ixT, p_ixL, p_ixO, p_ofS, p_abs, p_max2, p_lenT, p_lenL, p_lenO, p_eq, p_ne, p_isI, p_iLst, p_iTup, p_iRg1, p_iRg2, p_eNewS, p_eComp, p_inB, p_in, p_nin, p_sSto, List.map_cons, List.map_nil, List.cons_append, List.nil_append, List.append_nil, List.set_cons_zero, List.set_cons_succ, List.getElem?_cons_zero, List.getElem?_cons_succ, List.getElem?_nil, List.length_cons, List.length_nil, List.zip_cons_cons, List.zip_nil_left, List.zip_nil_right, List.foldl_cons, List.foldl_nil, List.replicate, Nat.sub_self, Nat.reduceSub, Nat.reduceAdd, Nat.reduceLeDiff, Nat.reduceLT, Nat.zero_add, Int.reduceLT, Int.reduceLE, Int.reduceNeg, Int.reduceSub, Int.reduceAdd, Int.reduceMul, Int.reduceBEq, Bool.or_true, Bool.true_or, Bool.or_false, Bool.false_or, if_true, if_false, ite_true, ite_false, reduceIte, Bool.not_true, Bool.not_false, Bool.true_and, Bool.and_true, Bool.false_and, Bool.and_false, decide_true, decide_false, Bool.false_eq_true, eq_self, reduceCtorEq, true_and, and_true, and_self, sh, shs, dat, dats, ev_int, ev_str, ev_bl, ev_tup, ev_lst, ev_nil, ev_cons, ev_nc, ev_cn, ev_nn, ev_ni, ev_in, at0, at1, at2, at3, cst0, cst1, cst2, cst3, cst4, cst7, cst9, h.chk, check_fraction_eval f, within_eval s h.ok f.an]
theorem lless_eval {a b p q : Int} (h1 : s64 b) (h2 : s64 q) (S : Sto) : m__law_less [fr a b, fr p q] S = .ok (.bl (decide (a * q < p * b))) S := by
  have k1 : gMul a q := .inr (.inl h2)
  have k2 : gMul p b := .inr (.inl h1)
  simp only [m__law_less, b__law_less, p_bind, b_ok, b_exn, b_bad, b_ite, s_ok, s_exn, s_bad, s_ite, q_nx, q_rt, q_exn, q_bad, q_ite, f_nx, f_rt, f_exn, f_bad, f_ite, i_ok, i_rt, i_int, i_bl, i_tt, i_ff, p_ret, p_eC, p_eVar, p_eOp, p_eUn, p_aNil, p_aCons, p_eCall, p_isB, p_tV, p_tNot, p_tAnd, p_tOr, p_eAnd, p_eOr, p_eNot, p_eIf, p_eTup, p_eLst, p_eChain, p_sBind, p_sSeq, p_sPass, p_sRet, p_sRetN, p_sDrop, p_sSet, p_sIf, p_sRaise, p_sAug, p_sUnp, p_sPar, p_sFor, p_bdN, p_bdT, p_body, p_add, p_addS, p_addT, p_addL, p_addI, p_sub, p_mul, p_mulI, p_mulS, p_fdiv, p_mod, p_pow, p_lt, p_le, p_gt, p_ge, p_isN, p_isB2, p_isnN, p_isnB2, p_neg, p_ixT, p_ixL, p_ixO, p_ofS, p_abs, p_max2, p_lenT, p_lenL, p_lenO, p_eq, p_ne, p_isI, p_iLst, p_iTup, p_iRg1, p_iRg2, p_eNewS, p_eComp, p_inB, p_in, p_nin, p_sSto, List.map_cons, List.map_nil, List.cons_append, List.nil_append, List.append_nil, List.set_cons_zero, List.set_cons_succ, List.getElem?_cons_zero, List.getElem?_cons_succ, List.getElem?_nil, List.length_cons, List.length_nil, List.zip_cons_cons, List.zip_nil_left, List.zip_nil_right, List.foldl_cons, List.foldl_nil, List.replicate, Nat.sub_self, Nat.reduceSub, Nat.reduceAdd, Nat.reduceLeDiff, Nat.reduceLT, Nat.zero_add, Int.reduceLT, Int.reduceLE, Int.reduceNeg, Int.reduceSub, Int.reduceAdd, Int.reduceMul, Int.reduceBEq, Bool.or_true, Bool.true_or, Bool.or_false, Bool.false_or, if_true, if_false, ite_true, ite_false, reduceIte, Bool.not_true, Bool.not_false, Bool.true_and, Bool.and_true, Bool.false_and, Bool.and_false, decide_true, decide_false, Bool.false_eq_true, eq_self, reduceCtorEq, true_and, and_true, and_self, sh, shs, dat, dats, ev_int, ev_str, ev_bl, ev_tup, ev_lst, ev_nil, ev_cons, ev_nc, ev_cn, ev_nn, ev_ni, ev_in, at0, at1, at2, at3, cst0, cst1, cst2, cst3, cst4, cst7, cst9, k1, k2]
theorem lwithin_eval (s : Sp) (k : s.Ok) (hne : s.Ne) {a b : Int} (f : An a b) (S : Sto) : m__law_within [s.w, fr a b] S = .ok (.bl (decide (s.In a b))) S := by
  have e1 := lless_eval (a := s.p) (b := s.q) (p := a) (q := b) k.l.s f.s
  have e2 := lless_eval (a := a) (b := b) (p := s.p') (q := s.q') f.s k.h.s
  have e3 := an_eq f k.l
  have e4 := an_eq f k.h
  have c3 : (decide (a = s.p) && decide (b = s.q)) = decide (s.p * b = a * s.q) := by rw [← Bool.decide_and]; exact decide_eq_decide.mpr e3
  have c4 : (decide (a = s.p') && decide (b = s.q')) = decide (s.p' * b = a * s.q') := by rw [← Bool.decide_and]; exact decide_eq_decide.mpr e4
  simp only [m__law_within, b__law_within, Sp.w, p_bind, b_ok, b_exn, b_bad, b_ite, s_ok, s_exn, s_bad, s_ite, q_nx, q_rt, q_exn, q_bad, q_ite, f_nx, f_rt, f_exn, f_bad, f_ite, i_ok, i_rt, i_int, i_bl, i_tt, i_ff, p_ret, p_eC, p_eVar, p_eOp, p_eUn, p_aNil, p_aCons, p_eCall, p_isB, p_tV, p_tNot, p_tAnd, p_tOr, p_eAnd, p_eOr, p_eNot, p_eIf, p_eTup, p_eLst, p_eChain, p_sBind, p_sSeq, p_sPass, p_sRet, p_sRetN, p_sDrop, p_sSet, p_sIf, p_sRaise, p_sAug, p_sUnp, p_sPar, p_sFor, p_bdN, p_bdT, p_body, p_add, p_addS, p_addT, p_addL, p_addI, p_sub, p_mul, p_mulI, p_mulS, p_fdiv, p_mod, p_pow, p_lt, p_le, p_gt, p_ge, p_isN, p_isB2, p_isnN, p_isnB2, p_neg, p_ixT, p_ixL, p_ixO, p_ofS, p_abs, p_max2, p_lenT, p_lenL, p_lenO, p_eq, p_ne, p_isI, p_iLst, p_iTup, p_iRg1, p_iRg2, p_eNewS, p_eComp, p_inB, p_in, p_nin, p_sSto, List.map_cons, List.map_nil, List.cons_append, List.nil_append, List.append_nil, List.set_cons_zero, List.set_cons_succ, List.getElem?_cons_zero, List.getElem?_cons_succ, List.getElem?_nil, List.length_cons, List.length_nil, List.zip_cons_cons, List.zip_nil_left, List.zip_nil_right, List.foldl_cons, List.foldl_nil, List.replicate, Nat.sub_self, Nat.reduceSub, Nat.reduceAdd, Nat.reduceLeDiff, Nat.reduceLT, Nat.zero_add, Int.reduceLT, Int.reduceLE, Int.reduceNeg, Int.reduceSub, Int.reduceAdd, Int.reduceMul, Int.reduceBEq, Bool.or_true, Bool.true_or, Bool.or_false, Bool.false_or, if_true, if_false, ite_true, ite_false, reduceIte, Bool.not_true, Bool.not_false, Bool.true_and, Bool.and_true, Bool.false_and, Bool.and_false, decide_true, decide_false, Bool.false_eq_true, eq_self, reduceCtorEq, true_and, and_true, and_self, sh, shs, dat, dats, ev_int, ev_str, ev_bl, ev_tup, ev_lst, ev_nil, ev_cons, ev_nc, ev_cn, ev_nn, ev_ni, ev_in, at0, at1, at2, at3, cst0, cst1, cst2, cst3, cst4, cst7, cst9, e1, e2, beq_dec, c3, c4]
  unfold Sp.In
  have n1 : s.p * b = a * s.q → (a * s.q' ≤ s.p' * b) := fun h => by
    have z := f.q0
    have l0 := k.l.q0
    have l1 := k.h.q0
    have h0 : s.p * s.q' ≤ s.p' * s.q := by rcases hne with h | h <;> omega
    have h1 : s.q * (a * s.q') ≤ s.q * (s.p' * b) := by
      have : (s.p * s.q') * b ≤ (s.p' * s.q) * b := Int.mul_le_mul_of_nonneg_right h0 (by omega)
      have e1 : s.q * (a * s.q') = (s.p * s.q') * b := by
        rw [Int.mul_right_comm, h]; ac_rfl
      have e2 : s.q * (s.p' * b) = (s.p' * s.q) * b := by ac_rfl
      rw [e1, e2]; exact this
    exact Int.le_of_mul_le_mul_left h1 l0
  have n2 : s.p' * b = a * s.q' → (s.p * b ≤ a * s.q) := fun h => by
    have z := f.q0
    have l0 := k.l.q0
    have l1 := k.h.q0
    have h0 : s.p * s.q' ≤ s.p' * s.q := by rcases hne with h | h <;> omega
    have h1 : s.q' * (s.p * b) ≤ s.q' * (a * s.q) := by
      have : (s.p * s.q') * b ≤ (s.p' * s.q) * b := Int.mul_le_mul_of_nonneg_right h0 (by omega)
      have e1 : s.q' * (s.p * b) = (s.p * s.q') * b := by ac_rfl
      have e2 : s.q' * (a * s.q) = (s.p' * s.q) * b := by
        rw [Int.mul_right_comm s.p', h]; ac_rfl
      rw [e1, e2]; exact this
    exact Int.le_of_mul_le_mul_left h1 l1
  have e5 : (a * s.q' = s.p' * b) = (s.p' * b = a * s.q') := propext eq_comm
  rcases Bool.eq_false_or_eq_true s.lb with hl | hl <;> rcases Bool.eq_false_or_eq_true s.hb with hh | hh <;> by_cases h3 : s.p * b = a * s.q <;> by_cases h4 : s.p' * b = a * s.q' <;> simp [h3, h4, e5, hl, hh] <;> omega
end Pu
end
section
namespace Pu
open PySem Zz Mir
/-! ### denominators -/
def vp (p : Int) : Nat → Int → Int × Int
  | 0, x => (0, x)
  | n + 1, x => if x % p = 0 then ((vp p n (x / p)).1 + 1, (vp p n (x / p)).2) else (0, x)
/-- digits before the period -/
def pb (b : Int) : Int := max (vp 2 6 b).1 (vp 5 3 (vp 2 6 b).2).1
/-- what is left -/
def pl (b : Int) : Int := (vp 5 3 (vp 2 6 b).2).2
theorem sixty {b : Int} (h0 : 1 ≤ b) (h1 : b ≤ 60) : ∃ i : Fin 60, b = (i.val : Int) + 1 := ⟨⟨(b - 1).toNat, by omega⟩, by show b = ((b - 1).toNat : Int) + 1; omega⟩
theorem parts_eval {b : Int} (h0 : 1 ≤ b) (h1 : b ≤ 60) (S : Sto) : m_parts_of [.int b] S = .ok (.tup [.int (pb b), .int (pl b)]) S := by
  have : b = 1 ∨ b = 2 ∨ b = 3 ∨ b = 4 ∨ b = 5 ∨ b = 6 ∨ b = 7 ∨ b = 8 ∨ b = 9 ∨ b = 10 ∨ b = 11 ∨ b = 12 ∨ b = 13 ∨ b = 14 ∨ b = 15 ∨ b = 16 ∨ b = 17 ∨ b = 18 ∨ b = 19 ∨ b = 20 ∨ b = 21 ∨ b = 22 ∨ b = 23 ∨ b = 24 ∨ b = 25 ∨ b = 26 ∨ b = 27 ∨ b = 28 ∨ b = 29 ∨ b = 30 ∨ b = 31 ∨ b = 32 ∨ b = 33 ∨ b = 34 ∨ b = 35 ∨ b = 36 ∨ b = 37 ∨ b = 38 ∨ b = 39 ∨ b = 40 ∨ b = 41 ∨ b = 42 ∨ b = 43 ∨ b = 44 ∨ b = 45 ∨ b = 46 ∨ b = 47 ∨ b = 48 ∨ b = 49 ∨ b = 50 ∨ b = 51 ∨ b = 52 ∨ b = 53 ∨ b = 54 ∨ b = 55 ∨ b = 56 ∨ b = 57 ∨ b = 58 ∨ b = 59 ∨ b = 60 := by omega
  rcases this with rfl | rfl | rfl | rfl | rfl | rfl | rfl | rfl | rfl | rfl | rfl | rfl | rfl | rfl | rfl | rfl | rfl | rfl | rfl | rfl | rfl | rfl | rfl | rfl | rfl | rfl | rfl | rfl | rfl | rfl | rfl | rfl | rfl | rfl | rfl | rfl | rfl | rfl | rfl | rfl | rfl | rfl | rfl | rfl | rfl | rfl | rfl | rfl | rfl | rfl | rfl | rfl | rfl | rfl | rfl | rfl | rfl | rfl | rfl | rfl <;> rfl
theorem needed_eval {a b : Int} (f : Fr a b) (S : Sto) : m_digits_needed [fr a b] S = .ok (if pl b = 1 then .int (pb b) else .non) S := by
  simp only [m_digits_needed, b_digits_needed, p_bind, b_ok, b_exn, b_bad, b_ite, s_ok, s_exn, s_bad, s_ite, q_nx, q_rt, q_exn, q_bad, q_ite, f_nx, f_rt, f_exn, f_bad, f_ite, i_ok, i_rt, i_int, i_bl, i_tt, i_ff, p_ret, p_eC, p_eVar, p_eOp, p_eUn, p_aNil, p_aCons, p_eCall, p_isB, p_tV, p_tNot, p_tAnd, p_tOr, p_eAnd, p_eOr, p_eNot, p_eIf, p_eTup, p_eLst, p_eChain, p_sBind, p_sSeq, p_sPass, p_sRet, p_sRetN, p_sDrop, p_sSet, p_sIf, p_sRaise, p_sAug, p_sUnp, p_sPar, p_sFor, p_bdN, p_bdT, p_body, p_add, p_addS, p_addT, p_addL, p_addI, p_sub, p_mul, p_mulI, p_mulS, p_fdiv, p_mod, p_pow, p_lt, p_le, p_gt, p_ge, p_isN, p_isB2, p_isnN, p_isnB2, p_neg, p_ixT, p_ixL, p_ixO, p_ofS, p_abs, p_max2, p_lenT, p_lenL, p_lenO, p_eq, p_ne, p_isI, p_iLst, p_iTup, p_iRg1, p_iRg2, p_eNewS, p_eComp, p_inB, p_in, p_nin, p_sSto, List.map_cons, List.map_nil, List.cons_append, List.nil_append, List.append_nil, List.set_cons_zero, List.set_cons_succ, List.getElem?_cons_zero, List.getElem?_cons_succ, List.getElem?_nil, List.length_cons, List.length_nil, List.zip_cons_cons, List.zip_nil_left, List.zip_nil_right, List.foldl_cons, List.foldl_nil, List.replicate, Nat.sub_self, Nat.reduceSub, Nat.reduceAdd, Nat.reduceLeDiff, Nat.reduceLT, Nat.zero_add, Int.reduceLT, Int.reduceLE, Int.reduceNeg, Int.reduceSub, Int.reduceAdd, Int.reduceMul, Int.reduceBEq, Bool.or_true, Bool.true_or, Bool.or_false, Bool.false_or, if_true, if_false, ite_true, ite_false, reduceIte, Bool.not_true, Bool.not_false, Bool.true_and, Bool.and_true, Bool.false_and, Bool.and_false, decide_true, decide_false, Bool.false_eq_true, eq_self, reduceCtorEq, true_and, and_true, and_self, sh, shs, dat, dats, ev_int, ev_str, ev_bl, ev_tup, ev_lst, ev_nil, ev_cons, ev_nc, ev_cn, ev_nn, ev_ni, ev_in, at0, at1, at2, at3, cst0, cst1, cst2, cst3, cst4, cst7, cst9, check_fraction_eval f, parts_eval f.b0 f.b1, beq_dec]
  by_cases h : pl b = 1 <;> simp only [h, p_bind, b_ok, b_exn, b_bad, b_ite, s_ok, s_exn, s_bad, s_ite, q_nx, q_rt, q_exn, q_bad, q_ite, f_nx, f_rt, f_exn, f_bad, f_ite, i_ok, i_rt, i_int, i_bl, i_tt, i_ff, p_ret, p_eC, p_eVar, p_eOp, p_eUn, p_aNil, p_aCons, p_eCall, p_isB, p_tV, p_tNot, p_tAnd, p_tOr, p_eAnd, p_eOr, p_eNot, p_eIf, p_eTup, p_eLst, p_eChain, p_sBind, p_sSeq, p_sPass, p_sRet, p_sRetN, p_sDrop, p_sSet, p_sIf, p_sRaise, p_sAug, p_sUnp, p_sPar, p_sFor, p_bdN, p_bdT, p_body, p_add, p_addS, p_addT, p_addL, p_addI, p_sub, p_mul, p_mulI, p_mulS, p_fdiv, p_mod, p_pow, p_lt, p_le, p_gt, p_ge, p_isN, p_isB2, p_isnN, p_isnB2, p_neg, p_ixT, p_ixL, p_ixO, p_ofS, p_abs, p_max2, p_lenT, p_lenL, p_lenO, p_eq, p_ne, p_isI, p_iLst, p_iTup, p_iRg1, p_iRg2, p_eNewS, p_eComp, p_inB, p_in, p_nin, p_sSto, List.map_cons, List.map_nil, List.cons_append, List.nil_append, List.append_nil, List.set_cons_zero, List.set_cons_succ, List.getElem?_cons_zero, List.getElem?_cons_succ, List.getElem?_nil, List.length_cons, List.length_nil, List.zip_cons_cons, List.zip_nil_left, List.zip_nil_right, List.foldl_cons, List.foldl_nil, List.replicate, Nat.sub_self, Nat.reduceSub, Nat.reduceAdd, Nat.reduceLeDiff, Nat.reduceLT, Nat.zero_add, Int.reduceLT, Int.reduceLE, Int.reduceNeg, Int.reduceSub, Int.reduceAdd, Int.reduceMul, Int.reduceBEq, Bool.or_true, Bool.true_or, Bool.or_false, Bool.false_or, if_true, if_false, ite_true, ite_false, reduceIte, Bool.not_true, Bool.not_false, Bool.true_and, Bool.and_true, Bool.false_and, Bool.and_false, decide_true, decide_false, Bool.false_eq_true, eq_self, reduceCtorEq, true_and, and_true, and_self, sh, shs, dat, dats, ev_int, ev_str, ev_bl, ev_tup, ev_lst, ev_nil, ev_cons, ev_nc, ev_cn, ev_nn, ev_ni, ev_in, at0, at1, at2, at3, cst0, cst1, cst2, cst3, cst4, cst7, cst9]
theorem exact_fin : ∀ i : Fin 60, ∀ d : Fin 8, (((10 : Int) ^ d.val) % ((i.val : Int) + 1) = 0) ↔ (pl ((i.val : Int) + 1) = 1 ∧ pb ((i.val : Int) + 1) ≤ (d.val : Int)) := by decide +kernel
theorem exact_iff {a b d : Int} (f : Fr a b) (h0 : 0 ≤ d) (h7 : d ≤ 7) : a * pw d % b = 0 ↔ (pl b = 1 ∧ pb b ≤ d) := by
  obtain ⟨i, hi⟩ := sixty f.b0 f.b1
  have h := exact_fin i ⟨d.toNat, by omega⟩
  have b0 := f.b0
  rw [← hi] at h
  have e : (((⟨d.toNat, by omega⟩ : Fin 8).val : Nat) : Int) = d := by show ((d.toNat : Nat) : Int) = d; omega
  rw [e] at h
  rw [← h]
  show a * pw d % b = 0 ↔ pw d % b = 0
  constructor
  · intro hx
    have h1 : b ∣ a * pw d := Int.dvd_of_emod_eq_zero hx
    exact Int.emod_eq_zero_of_dvd (cop_dvd f.g h1)
  · intro hx
    have h1 : b ∣ pw d := Int.dvd_of_emod_eq_zero hx
    exact Int.emod_eq_zero_of_dvd (Int.dvd_trans h1 (Int.dvd_mul_left a (pw d)))
end Pu
end
section
namespace Pu
open PySem Zz Mir
theorem uo_scale (r : Ru) (n : Int) {g b : Int} (hg : 0 < g) (hb : 0 < b) : uo r (g * n) (g * b) = uo r n b := by
  have h := (uo_iff r n (uo r n b) hb).mp rfl
  apply (uo_iff r (g * n) (uo r n b) (Int.mul_pos hg hb)).mpr
  have e1 : ∀ x : Int, x * (g * b) = g * (x * b) := fun x => Int.mul_left_comm ..
  have e2 : 2 * (g * n) = g * (2 * n) := Int.mul_left_comm ..
  rw [e1, e1, e2]
  obtain ⟨h1, h2⟩ := h
  refine ⟨?_, ?_⟩
  · rcases h1 with h | h
    · exact .inl (Int.mul_lt_mul_of_pos_left h hg)
    · exact .inr ⟨by rw [h.1], h.2⟩
  · rcases h2 with h | h
    · exact .inl (Int.mul_lt_mul_of_pos_left h hg)
    · exact .inr ⟨by rw [h.1], h.2⟩
/-- rounded twice -/
def tw (r : Ru) (a b f t : Int) : Int := uo r (uo r (a * pw f) b * pw t) (pw f)
theorem low_q {u P : Int} (hP : 0 < P) : ∃ g p q : Int, 0 < g ∧ u = g * p ∧ P = g * q ∧ 0 < q ∧ q ≤ P ∧ low u P = fr p q := by
  obtain ⟨g, p, q, hg, h1, h2, h3, h4, _⟩ := low_parts u hP
  refine ⟨g, p, q, hg, h1, h2, h3, ?_, h4⟩
  have : 1 * q ≤ g * q := Int.mul_le_mul_of_nonneg_right (by omega) (by omega)
  omega
theorem tw_eval (r : Ru) {a b f t : Int} (S : Sto) (hb : 0 < b) (hs : s64 b) (f0 : 0 ≤ f) (f6 : f ≤ 6) (t0 : 0 ≤ t) (t6 : t ≤ 6) : m_twice_of [fr a b, .int f, .int t, .str (nm r)] S = .ok (.int (tw r a b f t)) S := by
  have p1 := pw_pos f
  have p2 := pw_le f6
  obtain ⟨g, p, q, hg, h1, h2, h3, h4, h5⟩ := low_q (u := uo r (a * pw f) b) p1
  have e1 := lowest_eval (uo r (a * pw f) b) (pw f) S p1 (by omega)
  rw [h5] at e1
  have qs : s64 q := by unfold s64; omega
  have e2 : tw r a b f t = uo r (p * pw t) q := by
    unfold tw
    rw [h1, Int.mul_assoc]
    have := uo_scale r (p * pw t) hg h3
    rw [← h2] at this
    exact this
  simp only [m_twice_of, b_twice_of, p_bind, b_ok, b_exn, b_bad, b_ite, s_ok, s_exn, s_bad, s_ite, q_nx, q_rt, q_exn, q_bad, q_ite, f_nx, f_rt, f_exn, f_bad, f_ite, i_ok, i_rt, i_int, i_bl, i_tt, i_ff, p_ret, p_eC, p_eVar, p_eOp, p_eUn, p_aNil, p_aCons, p_eCall, p_isB, p_tV, p_tNot, p_tAnd, p_tOr, p_eAnd, p_eOr, p_eNot, p_eIf, p_eTup, p_eLst, p_eChain, p_sBind, p_sSeq, p_sPass, p_sRet, p_sRetN, p_sDrop, p_sSet, p_sIf, p_sRaise, p_sAug, p_sUnp, p_sPar, p_sFor, p_bdN, p_bdT, p_body, p_add, p_addS, p_addT, p_addL, p_addI, p_sub, p_mul, p_mulI, p_mulS, p_fdiv, p_mod, p_pow, p_lt, p_le, p_gt, p_ge, p_isN, p_isB2, p_isnN, p_isnB2, p_neg, p_ixT, p_ixL, p_ixO, p_ofS, p_abs, p_max2, p_lenT, p_lenL, p_lenO, p_eq, p_ne, p_isI, p_iLst, p_iTup, p_iRg1, p_iRg2, p_eNewS, p_eComp, p_inB, p_in, p_nin, p_sSto, List.map_cons, List.map_nil, List.cons_append, List.nil_append, List.append_nil, List.set_cons_zero, List.set_cons_succ, List.getElem?_cons_zero, List.getElem?_cons_succ, List.getElem?_nil, List.length_cons, List.length_nil, List.zip_cons_cons, List.zip_nil_left, List.zip_nil_right, List.foldl_cons, List.foldl_nil, List.replicate, Nat.sub_self, Nat.reduceSub, Nat.reduceAdd, Nat.reduceLeDiff, Nat.reduceLT, Nat.zero_add, Int.reduceLT, Int.reduceLE, Int.reduceNeg, Int.reduceSub, Int.reduceAdd, Int.reduceMul, Int.reduceBEq, Bool.or_true, Bool.true_or, Bool.or_false, Bool.false_or, if_true, if_false, ite_true, ite_false, reduceIte, Bool.not_true, Bool.not_false, Bool.true_and, Bool.and_true, Bool.false_and, Bool.and_false, decide_true, decide_false, Bool.false_eq_true, eq_self, reduceCtorEq, true_and, and_true, and_self, sh, shs, dat, dats, ev_int, ev_str, ev_bl, ev_tup, ev_lst, ev_nil, ev_cons, ev_nc, ev_cn, ev_nn, ev_ni, ev_in, at0, at1, at2, at3, cst0, cst1, cst2, cst3, cst4, cst7, cst9, units_eval r a b f _ f0 f6 hb hs, power_eval f _ f0 f6, e1, units_eval r p q t _ t0 t6 h3 qs, e2]
theorem steps_eval {f t : Int} (S : Sto) (f0 : 0 ≤ f) (f6 : f ≤ 6) (t0 : 0 ≤ t) (tf : t ≤ f) : m_check_steps [.int f, .int t] S = .ok .non S := by
  have e1 : decide (0 ≤ t) = true := decide_eq_true t0
  have e2 : decide (t ≤ f) = true := decide_eq_true tf
  simp only [m_check_steps, b_check_steps, p_bind, b_ok, b_exn, b_bad, b_ite, s_ok, s_exn, s_bad, s_ite, q_nx, q_rt, q_exn, q_bad, q_ite, f_nx, f_rt, f_exn, f_bad, f_ite, i_ok, i_rt, i_int, i_bl, i_tt, i_ff, p_ret, p_eC, p_eVar, p_eOp, p_eUn, p_aNil, p_aCons, p_eCall, p_isB, p_tV, p_tNot, p_tAnd, p_tOr, p_eAnd, p_eOr, p_eNot, p_eIf, p_eTup, p_eLst, p_eChain, p_sBind, p_sSeq, p_sPass, p_sRet, p_sRetN, p_sDrop, p_sSet, p_sIf, p_sRaise, p_sAug, p_sUnp, p_sPar, p_sFor, p_bdN, p_bdT, p_body, p_add, p_addS, p_addT, p_addL, p_addI, p_sub, p_mul, p_mulI, p_mulS, p_fdiv, p_mod, p_pow, p_lt, p_le, p_gt, p_ge, p_isN, p_isB2, p_isnN, p_isnB2, p_neg, p_ixT, p_ixL, p_ixO, p_ofS, p_abs, p_max2, p_lenT, p_lenL, p_lenO, p_eq, p_ne, p_isI, p_iLst, p_iTup, p_iRg1, p_iRg2, p_eNewS, p_eComp, p_inB, p_in, p_nin, p_sSto, List.map_cons, List.map_nil, List.cons_append, List.nil_append, List.append_nil, List.set_cons_zero, List.set_cons_succ, List.getElem?_cons_zero, List.getElem?_cons_succ, List.getElem?_nil, List.length_cons, List.length_nil, List.zip_cons_cons, List.zip_nil_left, List.zip_nil_right, List.foldl_cons, List.foldl_nil, List.replicate, Nat.sub_self, Nat.reduceSub, Nat.reduceAdd, Nat.reduceLeDiff, Nat.reduceLT, Nat.zero_add, Int.reduceLT, Int.reduceLE, Int.reduceNeg, Int.reduceSub, Int.reduceAdd, Int.reduceMul, Int.reduceBEq, Bool.or_true, Bool.true_or, Bool.or_false, Bool.false_or, if_true, if_false, ite_true, ite_false, reduceIte, Bool.not_true, Bool.not_false, Bool.true_and, Bool.and_true, Bool.false_and, Bool.and_false, decide_true, decide_false, Bool.false_eq_true, eq_self, reduceCtorEq, true_and, and_true, and_self, sh, shs, dat, dats, ev_int, ev_str, ev_bl, ev_tup, ev_lst, ev_nil, ev_cons, ev_nc, ev_cn, ev_nn, ev_ni, ev_in, at0, at1, at2, at3, cst0, cst1, cst2, cst3, cst4, cst7, cst9, check_digits_eval f0 f6, is_int_eval, e1, e2]
theorem twice_eval (r : Ru) {a b f t : Int} (k : Fr a b) (S : Sto) (f0 : 0 ≤ f) (f6 : f ≤ 6) (t0 : 0 ≤ t) (tf : t ≤ f) : m_twice [fr a b, .int f, .int t, .str (nm r)] S = .ok (.int (tw r a b f t)) S := by
  have b0 := k.b0
  simp only [m_twice, b_twice, p_bind, b_ok, b_exn, b_bad, b_ite, s_ok, s_exn, s_bad, s_ite, q_nx, q_rt, q_exn, q_bad, q_ite, f_nx, f_rt, f_exn, f_bad, f_ite, i_ok, i_rt, i_int, i_bl, i_tt, i_ff, p_ret, p_eC, p_eVar, p_eOp, p_eUn, p_aNil, p_aCons, p_eCall, p_isB, p_tV, p_tNot, p_tAnd, p_tOr, p_eAnd, p_eOr, p_eNot, p_eIf, p_eTup, p_eLst, p_eChain, p_sBind, p_sSeq, p_sPass, p_sRet, p_sRetN, p_sDrop, p_sSet, p_sIf, p_sRaise, p_sAug, p_sUnp, p_sPar, p_sFor, p_bdN, p_bdT, p_body, p_add, p_addS, p_addT, p_addL, p_addI, p_sub, p_mul, p_mulI, p_mulS, p_fdiv, p_mod, p_pow, p_lt, p_le, p_gt, p_ge, p_isN, p_isB2, p_isnN, p_isnB2, p_neg, p_ixT, p_ixL, p_ixO, p_ofS, p_abs, p_max2, p_lenT, p_lenL, p_lenO, p_eq, p_ne, p_isI, p_iLst, p_iTup, p_iRg1, p_iRg2, p_eNewS, p_eComp, p_inB, p_in, p_nin, p_sSto, List.map_cons, List.map_nil, List.cons_append, List.nil_append, List.append_nil, List.set_cons_zero, List.set_cons_succ, List.getElem?_cons_zero, List.getElem?_cons_succ, List.getElem?_nil, List.length_cons, List.length_nil, List.zip_cons_cons, List.zip_nil_left, List.zip_nil_right, List.foldl_cons, List.foldl_nil, List.replicate, Nat.sub_self, Nat.reduceSub, Nat.reduceAdd, Nat.reduceLeDiff, Nat.reduceLT, Nat.zero_add, Int.reduceLT, Int.reduceLE, Int.reduceNeg, Int.reduceSub, Int.reduceAdd, Int.reduceMul, Int.reduceBEq, Bool.or_true, Bool.true_or, Bool.or_false, Bool.false_or, if_true, if_false, ite_true, ite_false, reduceIte, Bool.not_true, Bool.not_false, Bool.true_and, Bool.and_true, Bool.false_and, Bool.and_false, decide_true, decide_false, Bool.false_eq_true, eq_self, reduceCtorEq, true_and, and_true, and_self, sh, shs, dat, dats, ev_int, ev_str, ev_bl, ev_tup, ev_lst, ev_nil, ev_cons, ev_nc, ev_cn, ev_nn, ev_ni, ev_in, at0, at1, at2, at3, cst0, cst1, cst2, cst3, cst4, cst7, cst9, check_fraction_eval k, steps_eval _ f0 f6 t0 tf, check_rule_eval, tw_eval r _ (show 0 < b by omega) k.s f0 f6 t0 (show t ≤ 6 by omega)]
theorem differs_eval (r : Ru) {a b f t : Int} (k : Fr a b) (S : Sto) (f0 : 0 ≤ f) (f6 : f ≤ 6) (t0 : 0 ≤ t) (tf : t ≤ f) : m_differs [fr a b, .int f, .int t, .str (nm r)] S = .ok (.bl (!decide (tw r a b f t = uo r (a * pw t) b))) S := by
  have b0 := k.b0
  simp only [m_differs, b_differs, p_bind, b_ok, b_exn, b_bad, b_ite, s_ok, s_exn, s_bad, s_ite, q_nx, q_rt, q_exn, q_bad, q_ite, f_nx, f_rt, f_exn, f_bad, f_ite, i_ok, i_rt, i_int, i_bl, i_tt, i_ff, p_ret, p_eC, p_eVar, p_eOp, p_eUn, p_aNil, p_aCons, p_eCall, p_isB, p_tV, p_tNot, p_tAnd, p_tOr, p_eAnd, p_eOr, p_eNot, p_eIf, p_eTup, p_eLst, p_eChain, p_sBind, p_sSeq, p_sPass, p_sRet, p_sRetN, p_sDrop, p_sSet, p_sIf, p_sRaise, p_sAug, p_sUnp, p_sPar, p_sFor, p_bdN, p_bdT, p_body, p_add, p_addS, p_addT, p_addL, p_addI, p_sub, p_mul, p_mulI, p_mulS, p_fdiv, p_mod, p_pow, p_lt, p_le, p_gt, p_ge, p_isN, p_isB2, p_isnN, p_isnB2, p_neg, p_ixT, p_ixL, p_ixO, p_ofS, p_abs, p_max2, p_lenT, p_lenL, p_lenO, p_eq, p_ne, p_isI, p_iLst, p_iTup, p_iRg1, p_iRg2, p_eNewS, p_eComp, p_inB, p_in, p_nin, p_sSto, List.map_cons, List.map_nil, List.cons_append, List.nil_append, List.append_nil, List.set_cons_zero, List.set_cons_succ, List.getElem?_cons_zero, List.getElem?_cons_succ, List.getElem?_nil, List.length_cons, List.length_nil, List.zip_cons_cons, List.zip_nil_left, List.zip_nil_right, List.foldl_cons, List.foldl_nil, List.replicate, Nat.sub_self, Nat.reduceSub, Nat.reduceAdd, Nat.reduceLeDiff, Nat.reduceLT, Nat.zero_add, Int.reduceLT, Int.reduceLE, Int.reduceNeg, Int.reduceSub, Int.reduceAdd, Int.reduceMul, Int.reduceBEq, Bool.or_true, Bool.true_or, Bool.or_false, Bool.false_or, if_true, if_false, ite_true, ite_false, reduceIte, Bool.not_true, Bool.not_false, Bool.true_and, Bool.and_true, Bool.false_and, Bool.and_false, decide_true, decide_false, Bool.false_eq_true, eq_self, reduceCtorEq, true_and, and_true, and_self, sh, shs, dat, dats, ev_int, ev_str, ev_bl, ev_tup, ev_lst, ev_nil, ev_cons, ev_nc, ev_cn, ev_nn, ev_ni, ev_in, at0, at1, at2, at3, cst0, cst1, cst2, cst3, cst4, cst7, cst9, check_fraction_eval k, steps_eval _ f0 f6 t0 tf, check_rule_eval, tw_eval r _ (show 0 < b by omega) k.s f0 f6 t0 (show t ≤ 6 by omega), units_eval r a b t _ t0 (show t ≤ 6 by omega) (show 0 < b by omega) k.s, beq_dec]
/-! the first trap -/
def trapL (r : Ru) (a b t : Int) : List W → W
  | [] => .non
  | .int f :: l => if tw r a b f t = uo r (a * pw t) b then trapL r a b t l else .int f
  | _ :: l => trapL r a b t l
theorem u_trap (env : En) (S : Sto) : b_first_trap_L0 env S = (sIf (tV (eOp opNe (eCall m_twice_of (aCons (eVar 0) (aCons (eVar 3) (aCons (eVar 1) (aCons (eVar 2) aNil))))) (eCall m_units_of (aCons (eVar 0) (aCons (eVar 1) (aCons (eVar 2) aNil))))))
  (sRet (eVar 3))
  sPass) env S := rfl
theorem trap_loop (r : Ru) {a b t : Int} (hb : 0 < b) (hs : s64 b) (t0 : 0 ≤ t) (t6 : t ≤ 6) (S : Sto) : ∀ (ws : List W) (x : Sl), (∀ w ∈ ws, ∃ f, w = .int f ∧ 0 ≤ f ∧ f ≤ 6) → (∃ x', loopL (bdN 3) b_first_trap_L0 ws [.val (fr a b), .val (.int t), .val (.str (nm r)), x] S = .nx [.val (fr a b), .val (.int t), .val (.str (nm r)), x'] S ∧ trapL r a b t ws = .non) ∨ loopL (bdN 3) b_first_trap_L0 ws [.val (fr a b), .val (.int t), .val (.str (nm r)), x] S = .rt (trapL r a b t ws) S
  | [], x, _ => .inl ⟨x, rfl, rfl⟩
  | w :: l, x, h => by
    obtain ⟨f, rfl, f0, f6⟩ := h w List.mem_cons_self
    have ih := trap_loop r (a := a) hb hs t0 t6 S l (.val (.int f)) fun w hw => h w (List.mem_cons_of_mem _ hw)
    have e : b_first_trap_L0 [.val (fr a b), .val (.int t), .val (.str (nm r)), .val (.int f)] S = if tw r a b f t = uo r (a * pw t) b then .nx [.val (fr a b), .val (.int t), .val (.str (nm r)), .val (.int f)] S else .rt (.int f) S := by
      rw [u_trap]
      simp only [p_bind, b_ok, b_exn, b_bad, b_ite, s_ok, s_exn, s_bad, s_ite, q_nx, q_rt, q_exn, q_bad, q_ite, f_nx, f_rt, f_exn, f_bad, f_ite, i_ok, i_rt, i_int, i_bl, i_tt, i_ff, p_ret, p_eC, p_eVar, p_eOp, p_eUn, p_aNil, p_aCons, p_eCall, p_isB, p_tV, p_tNot, p_tAnd, p_tOr, p_eAnd, p_eOr, p_eNot, p_eIf, p_eTup, p_eLst, p_eChain, p_sBind, p_sSeq, p_sPass, p_sRet, p_sRetN, p_sDrop, p_sSet, p_sIf, p_sRaise, p_sAug, p_sUnp, p_sPar, p_sFor, p_bdN, p_bdT, p_body, p_add, p_addS, p_addT, p_addL, p_addI, p_sub, p_mul, p_mulI, p_mulS, p_fdiv, p_mod, p_pow, p_lt, p_le, p_gt, p_ge, p_isN, p_isB2, p_isnN, p_isnB2, p_neg, p_ixT, p_ixL, p_ixO, p_ofS, p_abs, p_max2, p_lenT, p_lenL, p_lenO, p_eq, p_ne, p_isI, p_iLst, p_iTup, p_iRg1, p_iRg2, p_eNewS, p_eComp, p_inB, p_in, p_nin, p_sSto, List.map_cons, List.map_nil, List.cons_append, List.nil_append, List.append_nil, List.set_cons_zero, List.set_cons_succ, List.getElem?_cons_zero, List.getElem?_cons_succ, List.getElem?_nil, List.length_cons, List.length_nil, List.zip_cons_cons, List.zip_nil_left, List.zip_nil_right, List.foldl_cons, List.foldl_nil, List.replicate, Nat.sub_self, Nat.reduceSub, Nat.reduceAdd, Nat.reduceLeDiff, Nat.reduceLT, Nat.zero_add, Int.reduceLT, Int.reduceLE, Int.reduceNeg, Int.reduceSub, Int.reduceAdd, Int.reduceMul, Int.reduceBEq, Bool.or_true, Bool.true_or, Bool.or_false, Bool.false_or, if_true, if_false, ite_true, ite_false, reduceIte, Bool.not_true, Bool.not_false, Bool.true_and, Bool.and_true, Bool.false_and, Bool.and_false, decide_true, decide_false, Bool.false_eq_true, eq_self, reduceCtorEq, true_and, and_true, and_self, sh, shs, dat, dats, ev_int, ev_str, ev_bl, ev_tup, ev_lst, ev_nil, ev_cons, ev_nc, ev_cn, ev_nn, ev_ni, ev_in, at0, at1, at2, at3, cst0, cst1, cst2, cst3, cst4, cst7, cst9, tw_eval r _ hb hs f0 f6 t0 t6, units_eval r a b t _ t0 t6 hb hs, beq_dec]
      by_cases hh : tw r a b f t = uo r (a * pw t) b <;> simp only [hh, p_bind, b_ok, b_exn, b_bad, b_ite, s_ok, s_exn, s_bad, s_ite, q_nx, q_rt, q_exn, q_bad, q_ite, f_nx, f_rt, f_exn, f_bad, f_ite, i_ok, i_rt, i_int, i_bl, i_tt, i_ff, p_ret, p_eC, p_eVar, p_eOp, p_eUn, p_aNil, p_aCons, p_eCall, p_isB, p_tV, p_tNot, p_tAnd, p_tOr, p_eAnd, p_eOr, p_eNot, p_eIf, p_eTup, p_eLst, p_eChain, p_sBind, p_sSeq, p_sPass, p_sRet, p_sRetN, p_sDrop, p_sSet, p_sIf, p_sRaise, p_sAug, p_sUnp, p_sPar, p_sFor, p_bdN, p_bdT, p_body, p_add, p_addS, p_addT, p_addL, p_addI, p_sub, p_mul, p_mulI, p_mulS, p_fdiv, p_mod, p_pow, p_lt, p_le, p_gt, p_ge, p_isN, p_isB2, p_isnN, p_isnB2, p_neg, p_ixT, p_ixL, p_ixO, p_ofS, p_abs, p_max2, p_lenT, p_lenL, p_lenO, p_eq, p_ne, p_isI, p_iLst, p_iTup, p_iRg1, p_iRg2, p_eNewS, p_eComp, p_inB, p_in, p_nin, p_sSto, List.map_cons, List.map_nil, List.cons_append, List.nil_append, List.append_nil, List.set_cons_zero, List.set_cons_succ, List.getElem?_cons_zero, List.getElem?_cons_succ, List.getElem?_nil, List.length_cons, List.length_nil, List.zip_cons_cons, List.zip_nil_left, List.zip_nil_right, List.foldl_cons, List.foldl_nil, List.replicate, Nat.sub_self, Nat.reduceSub, Nat.reduceAdd, Nat.reduceLeDiff, Nat.reduceLT, Nat.zero_add, Int.reduceLT, Int.reduceLE, Int.reduceNeg, Int.reduceSub, Int.reduceAdd, Int.reduceMul, Int.reduceBEq, Bool.or_true, Bool.true_or, Bool.or_false, Bool.false_or, if_true, if_false, ite_true, ite_false, reduceIte, Bool.not_true, Bool.not_false, Bool.true_and, Bool.and_true, Bool.false_and, Bool.and_false, decide_true, decide_false, Bool.false_eq_true, eq_self, reduceCtorEq, true_and, and_true, and_self, sh, shs, dat, dats, ev_int, ev_str, ev_bl, ev_tup, ev_lst, ev_nil, ev_cons, ev_nc, ev_cn, ev_nn, ev_ni, ev_in, at0, at1, at2, at3, cst0, cst1, cst2, cst3, cst4, cst7, cst9]
    simp only [l_nx, l_rt, l_ite, p_loopN, p_loop0, List.set_cons_zero, List.set_cons_succ, e, trapL]
    by_cases hh : tw r a b f t = uo r (a * pw t) b
    · simp only [hh, if_true, l_nx, l_rt, l_ite, p_loopN, p_loop0]
      exact ih
    · simp only [hh, if_false, l_nx, l_rt, l_ite, p_loopN, p_loop0]
      exact .inr trivial
theorem trap_eval (r : Ru) {a b t : Int} (k : Fr a b) (S : Sto) (t0 : 0 ≤ t) (t6 : t ≤ 6) : m_first_trap [fr a b, .int t, .str (nm r)] S = .ok (trapL r a b t (rgW t (7 - t).toNat)) S := by
  have b0 := k.b0
  have s1 : smI t := by unfold smI; omega
  have s2 : smI 7 := by decide
  rcases trap_loop r (a := a) (show 0 < b by omega) k.s t0 t6 S (rgW t (7 - t).toNat) .no (fun w hw => by
    obtain ⟨f, rfl, h1, h2⟩ := mem_rgW hw
    exact ⟨f, rfl, by omega, by omega⟩) with ⟨x', h, hn⟩ | h
  · simp only [m_first_trap, b_first_trap, p_bind, b_ok, b_exn, b_bad, b_ite, s_ok, s_exn, s_bad, s_ite, q_nx, q_rt, q_exn, q_bad, q_ite, f_nx, f_rt, f_exn, f_bad, f_ite, i_ok, i_rt, i_int, i_bl, i_tt, i_ff, p_ret, p_eC, p_eVar, p_eOp, p_eUn, p_aNil, p_aCons, p_eCall, p_isB, p_tV, p_tNot, p_tAnd, p_tOr, p_eAnd, p_eOr, p_eNot, p_eIf, p_eTup, p_eLst, p_eChain, p_sBind, p_sSeq, p_sPass, p_sRet, p_sRetN, p_sDrop, p_sSet, p_sIf, p_sRaise, p_sAug, p_sUnp, p_sPar, p_sFor, p_bdN, p_bdT, p_body, p_add, p_addS, p_addT, p_addL, p_addI, p_sub, p_mul, p_mulI, p_mulS, p_fdiv, p_mod, p_pow, p_lt, p_le, p_gt, p_ge, p_isN, p_isB2, p_isnN, p_isnB2, p_neg, p_ixT, p_ixL, p_ixO, p_ofS, p_abs, p_max2, p_lenT, p_lenL, p_lenO, p_eq, p_ne, p_isI, p_iLst, p_iTup, p_iRg1, p_iRg2, p_eNewS, p_eComp, p_inB, p_in, p_nin, p_sSto, List.map_cons, List.map_nil, List.cons_append, List.nil_append, List.append_nil, List.set_cons_zero, List.set_cons_succ, List.getElem?_cons_zero, List.getElem?_cons_succ, List.getElem?_nil, List.length_cons, List.length_nil, List.zip_cons_cons, List.zip_nil_left, List.zip_nil_right, List.foldl_cons, List.foldl_nil, List.replicate, Nat.sub_self, Nat.reduceSub, Nat.reduceAdd, Nat.reduceLeDiff, Nat.reduceLT, Nat.zero_add, Int.reduceLT, Int.reduceLE, Int.reduceNeg, Int.reduceSub, Int.reduceAdd, Int.reduceMul, Int.reduceBEq, Bool.or_true, Bool.true_or, Bool.or_false, Bool.false_or, if_true, if_false, ite_true, ite_false, reduceIte, Bool.not_true, Bool.not_false, Bool.true_and, Bool.and_true, Bool.false_and, Bool.and_false, decide_true, decide_false, Bool.false_eq_true, eq_self, reduceCtorEq, true_and, and_true, and_self, sh, shs, dat, dats, ev_int, ev_str, ev_bl, ev_tup, ev_lst, ev_nil, ev_cons, ev_nc, ev_cn, ev_nn, ev_ni, ev_in, at0, at1, at2, at3, cst0, cst1, cst2, cst3, cst4, cst7, cst9, check_fraction_eval k, check_digits_eval t0 t6, check_rule_eval, s1, s2, h, hn]
  · simp only [m_first_trap, b_first_trap, p_bind, b_ok, b_exn, b_bad, b_ite, s_ok, s_exn, s_bad, s_ite, q_nx, q_rt, q_exn, q_bad, q_ite, f_nx, f_rt, f_exn, f_bad, f_ite, i_ok, i_rt, i_int, i_bl, i_tt, i_ff, p_ret, p_eC, p_eVar, p_eOp, p_eUn, p_aNil, p_aCons, p_eCall, p_isB, p_tV, p_tNot, p_tAnd, p_tOr, p_eAnd, p_eOr, p_eNot, p_eIf, p_eTup, p_eLst, p_eChain, p_sBind, p_sSeq, p_sPass, p_sRet, p_sRetN, p_sDrop, p_sSet, p_sIf, p_sRaise, p_sAug, p_sUnp, p_sPar, p_sFor, p_bdN, p_bdT, p_body, p_add, p_addS, p_addT, p_addL, p_addI, p_sub, p_mul, p_mulI, p_mulS, p_fdiv, p_mod, p_pow, p_lt, p_le, p_gt, p_ge, p_isN, p_isB2, p_isnN, p_isnB2, p_neg, p_ixT, p_ixL, p_ixO, p_ofS, p_abs, p_max2, p_lenT, p_lenL, p_lenO, p_eq, p_ne, p_isI, p_iLst, p_iTup, p_iRg1, p_iRg2, p_eNewS, p_eComp, p_inB, p_in, p_nin, p_sSto, List.map_cons, List.map_nil, List.cons_append, List.nil_append, List.append_nil, List.set_cons_zero, List.set_cons_succ, List.getElem?_cons_zero, List.getElem?_cons_succ, List.getElem?_nil, List.length_cons, List.length_nil, List.zip_cons_cons, List.zip_nil_left, List.zip_nil_right, List.foldl_cons, List.foldl_nil, List.replicate, Nat.sub_self, Nat.reduceSub, Nat.reduceAdd, Nat.reduceLeDiff, Nat.reduceLT, Nat.zero_add, Int.reduceLT, Int.reduceLE, Int.reduceNeg, Int.reduceSub, Int.reduceAdd, Int.reduceMul, Int.reduceBEq, Bool.or_true, Bool.true_or, Bool.or_false, Bool.false_or, if_true, if_false, ite_true, ite_false, reduceIte, Bool.not_true, Bool.not_false, Bool.true_and, Bool.and_true, Bool.false_and, Bool.and_false, decide_true, decide_false, Bool.false_eq_true, eq_self, reduceCtorEq, true_and, and_true, and_self, sh, shs, dat, dats, ev_int, ev_str, ev_bl, ev_tup, ev_lst, ev_nil, ev_cons, ev_nc, ev_cn, ev_nn, ev_ni, ev_in, at0, at1, at2, at3, cst0, cst1, cst2, cst3, cst4, cst7, cst9, check_fraction_eval k, check_digits_eval t0 t6, check_rule_eval, s1, s2, h]
/-! step by step down -/
def sdn (r : Ru) : Int → Int → Nat → List Int
  | n, b, 0 => [uo r (n * pw 0) b]
  | n, b, k + 1 => uo r (n * pw (k + 1 : Nat)) b :: sdn r (uo r (n * pw (k + 1 : Nat)) b) (pw (k + 1 : Nat)) k
theorem sdn_scale (r : Ru) (n : Int) {g b : Int} (hg : 0 < g) (hb : 0 < b) : ∀ k, sdn r (g * n) (g * b) k = sdn r n b k
  | 0 => by unfold sdn; rw [Int.mul_assoc, uo_scale r _ hg hb]
  | k + 1 => by unfold sdn; rw [Int.mul_assoc, uo_scale r _ hg hb]
theorem u_step (env : En) (S : Sto) : b_step_down_L0 env S = (sSeq (sSet 6 (eCall m_units_of (aCons (eVar 4) (aCons (eVar 5) (aCons (eVar 2) aNil)))))
  (sSeq (sApp 3 (eVar 6))
  (sSet 4 (eCall m_lowest (aCons (eVar 6) (aCons (eCall m_power_of (aCons (eVar 5) aNil)) aNil)))))) env S := rfl
def rgD : Nat → List W
  | 0 => [.int 0]
  | k + 1 => .int (k + 1 : Nat) :: rgD k
def rg3R (x y z : W) : M (List W) := match x, y, z with
  | .int i, .int j, .int k => fun S => if smI i ∧ smI j ∧ k = -1 then .ok (rgC i (-1) (i - j).toNat) S else .bad
  | _, _, _ => fun _ => .bad
theorem rg3_ev {env : En} {S : Sto} {a b c : EM} {i j : Int} (h1 : a env S = .ok (.int i) S) (h2 : b env S = .ok (.int j) S) (h3 : c env S = .ok (.int (-1)) S) (s1 : smI i) (s2 : smI j) : iRg3 a b c env S = .ok (rgC i (-1) (i - j).toNat) S := by
  unfold iRg3 M.bind
  simp only [h1, h2, h3, s1, s2, true_and, if_true]
theorem rg3_int (S : Sto) (i j k : Int) : rg3R (.int i) (.int j) (.int k) S = if smI i ∧ smI j ∧ k = -1 then .ok (rgC i (-1) (i - j).toNat) S else .bad := rfl
theorem rgC_succ (lo : Int) (n : Nat) : rgC lo (-1) (n + 1) = .int lo :: rgC (lo - 1) (-1) n := by
  unfold rgC
  rw [List.range_succ_eq_map, List.map_cons, List.map_map]
  congr 1
  · simp
  · apply List.map_congr_left
    intro a _
    simp only [Function.comp, Nat.succ_eq_add_one]
    congr 1
    omega
theorem rgC_eq : ∀ k : Nat, rgC (k : Int) (-1) (k + 1) = rgD k
  | 0 => rfl
  | k + 1 => by
    rw [rgC_succ, show (((k + 1 : Nat) : Int) - 1) = (k : Int) by omega, rgC_eq k]
    rfl
theorem step_one (r : Ru) (z0 z1 : Sl) (S : Sto) (d n m : Int) (own : List W) (x6 : Sl) (d0 : 0 ≤ d) (d6 : d ≤ 6) (hm : 0 < m) (hs : s64 m) (hl : own.length < 1000000) : b_step_down_L0 [z0, z1, .val (.str (nm r)), .own own, .val (fr n m), .val (.int d), x6] S = .nx [z0, z1, .val (.str (nm r)), .own (own ++ [.int (uo r (n * pw d) m)]), .val (low (uo r (n * pw d) m) (pw d)), .val (.int d), .val (.int (uo r (n * pw d) m))] S := by
  have p1 := pw_pos d
  have p2 := pw_le d6
  have e1 := units_eval r n m d S d0 d6 hm hs
  have e2 := power_eval d S d0 d6
  have e3 := lowest_eval (uo r (n * pw d) m) (pw d) S p1 (by omega)
  rw [u_step]
  simp only [p_bind, b_ok, b_exn, b_bad, b_ite, s_ok, s_exn, s_bad, s_ite, q_nx, q_rt, q_exn, q_bad, q_ite, f_nx, f_rt, f_exn, f_bad, f_ite, i_ok, i_rt, i_int, i_bl, i_tt, i_ff, p_ret, p_eC, p_eVar, p_eOp, p_eUn, p_aNil, p_aCons, p_eCall, p_isB, p_tV, p_tNot, p_tAnd, p_tOr, p_eAnd, p_eOr, p_eNot, p_eIf, p_eTup, p_eLst, p_eChain, p_sBind, p_sSeq, p_sPass, p_sRet, p_sRetN, p_sDrop, p_sSet, p_sIf, p_sRaise, p_sAug, p_sUnp, p_sPar, p_sFor, p_bdN, p_bdT, p_body, p_add, p_addS, p_addT, p_addL, p_addI, p_sub, p_mul, p_mulI, p_mulS, p_fdiv, p_mod, p_pow, p_lt, p_le, p_gt, p_ge, p_isN, p_isB2, p_isnN, p_isnB2, p_neg, p_ixT, p_ixL, p_ixO, p_ofS, p_abs, p_max2, p_lenT, p_lenL, p_lenO, p_eq, p_ne, p_isI, p_iLst, p_iTup, p_iRg1, p_iRg2, p_eNewS, p_eComp, p_inB, p_in, p_nin, p_sSto, List.map_cons, List.map_nil, List.cons_append, List.nil_append, List.append_nil, List.set_cons_zero, List.set_cons_succ, List.getElem?_cons_zero, List.getElem?_cons_succ, List.getElem?_nil, List.length_cons, List.length_nil, List.zip_cons_cons, List.zip_nil_left, List.zip_nil_right, List.foldl_cons, List.foldl_nil, List.replicate, Nat.sub_self, Nat.reduceSub, Nat.reduceAdd, Nat.reduceLeDiff, Nat.reduceLT, Nat.zero_add, Int.reduceLT, Int.reduceLE, Int.reduceNeg, Int.reduceSub, Int.reduceAdd, Int.reduceMul, Int.reduceBEq, Bool.or_true, Bool.true_or, Bool.or_false, Bool.false_or, if_true, if_false, ite_true, ite_false, reduceIte, Bool.not_true, Bool.not_false, Bool.true_and, Bool.and_true, Bool.false_and, Bool.and_false, decide_true, decide_false, Bool.false_eq_true, eq_self, reduceCtorEq, true_and, and_true, and_self, sh, shs, dat, dats, ev_int, ev_str, ev_bl, ev_tup, ev_lst, ev_nil, ev_cons, ev_nc, ev_cn, ev_nn, ev_ni, ev_in, at0, at1, at2, at3, cst0, cst1, cst2, cst3, cst4, cst7, cst9, nO_nil, nO_cons, kl_nil, kl_cons, p_eSl, p_oNone, p_oSome, p_oI, p_slL, p_eLenSet, p_sOwn, p_sFrz, z_own, z_val, z_no, p_sApp, a_own, p_eOix, x_own, x_int, beq_self_eq_true, e1, e2, e3, hl]
end Pu
end
section
namespace Pu
open PySem Zz Mir
theorem step_loop (r : Ru) (z0 z1 : Sl) (S : Sto) : ∀ (k : Nat) (n m : Int) (own : List W) (x5 x6 : Sl), k ≤ 6 → 0 < m → s64 m → own.length + k + 1 ≤ 100 →
    ∃ y4 y5 y6, loopL (bdN 5) b_step_down_L0 (rgD k) [z0, z1, .val (.str (nm r)), .own own, .val (fr n m), x5, x6] S = .nx [z0, z1, .val (.str (nm r)), .own (own ++ (sdn r n m k).map W.int), y4, y5, y6] S := by
  intro k
  induction k with
  | zero =>
    intro n m own x5 x6 hk hm hs hl
    have h := step_one r z0 z1 S 0 n m own x6 (by decide) (by decide) hm hs (by omega)
    refine ⟨.val (low (uo r (n * pw 0) m) (pw 0)), .val (.int 0), .val (.int (uo r (n * pw 0) m)), ?_⟩
    simp only [rgD, l_nx, l_rt, l_ite, p_loopN, p_loop0, List.set_cons_zero, List.set_cons_succ, h, sdn, List.map_cons, List.map_nil]
  | succ k ih =>
    intro n m own x5 x6 hk hm hs hl
    have p1 := pw_pos ((k + 1 : Nat) : Int)
    have p2 := pw_le (d := ((k + 1 : Nat) : Int)) (by omega)
    have h := step_one r z0 z1 S ((k + 1 : Nat) : Int) n m own x6 (by omega) (by omega) hm hs (by omega)
    obtain ⟨g, p, q, hg, h1, h2, h3, h4, h5⟩ := low_q (u := uo r (n * pw (k + 1 : Nat)) m) p1
    rw [h5] at h
    obtain ⟨y4, y5, y6, hI⟩ := ih p q (own ++ [.int (uo r (n * pw (k + 1 : Nat)) m)]) (.val (.int (k + 1 : Nat))) (.val (.int (uo r (n * pw (k + 1 : Nat)) m))) (by omega) h3 (by unfold s64; omega) (by rw [List.length_append]; simp only [List.length_cons, List.length_nil]; omega)
    refine ⟨y4, y5, y6, ?_⟩
    rw [show rgD (k + 1) = .int ((k + 1 : Nat) : Int) :: rgD k from rfl, p_loopN]
    rw [show ([z0, z1, .val (.str (nm r)), .own own, .val (fr n m), x5, x6] : En).set 5 (.val (.int ((k + 1 : Nat) : Int))) = [z0, z1, .val (.str (nm r)), .own own, .val (fr n m), .val (.int ((k + 1 : Nat) : Int)), x6] from rfl]
    rw [h, l_nx, hI]
    have e : sdn r p q k = sdn r (uo r (n * pw (k + 1 : Nat)) m) (pw (k + 1 : Nat)) k := by
      have := sdn_scale r p hg h3 k
      rw [← h1, ← h2] at this
      exact this.symm
    rw [e]
    simp only [sdn, List.map_cons, List.append_assoc, List.cons_append, List.nil_append]
theorem down_body (r : Ru) {a b F : Int} {l : List W} {own : List W} {y4 y5 y6 : Sl} (k : Fr a b) (S : Sto) (c1 : ∀ S, m_check_digits [.int F] S = .ok .non S)
    (hr : iRg3 (eVar 1) (eUn opNeg (eC (.int 1))) (eUn opNeg (eC (.int 1))) [.val (fr a b), .val (.int F), .val (.str (nm r)), .own [], .val (fr a b), .no, .no] S = .ok l S)
    (h : loopL (bdN 5) b_step_down_L0 l [.val (fr a b), .val (.int F), .val (.str (nm r)), .own [], .val (fr a b), .no, .no] S = .nx [.val (fr a b), .val (.int F), .val (.str (nm r)), .own own, y4, y5, y6] S) : m_step_down [fr a b, .int F, .str (nm r)] S = .ok (.lst own) S := by
  simp only [m_step_down, b_step_down, p_bind, b_ok, b_exn, b_bad, b_ite, s_ok, s_exn, s_bad, s_ite, q_nx, q_rt, q_exn, q_bad, q_ite, f_nx, f_rt, f_exn, f_bad, f_ite, i_ok, i_rt, i_int, i_bl, i_tt, i_ff, p_ret, p_eC, p_eVar, p_eOp, p_eUn, p_aNil, p_aCons, p_eCall, p_isB, p_tV, p_tNot, p_tAnd, p_tOr, p_eAnd, p_eOr, p_eNot, p_eIf, p_eTup, p_eLst, p_eChain, p_sBind, p_sSeq, p_sPass, p_sRet, p_sRetN, p_sDrop, p_sSet, p_sIf, p_sRaise, p_sAug, p_sUnp, p_sPar, p_sFor, p_bdN, p_bdT, p_body, p_add, p_addS, p_addT, p_addL, p_addI, p_sub, p_mul, p_mulI, p_mulS, p_fdiv, p_mod, p_pow, p_lt, p_le, p_gt, p_ge, p_isN, p_isB2, p_isnN, p_isnB2, p_neg, p_ixT, p_ixL, p_ixO, p_ofS, p_abs, p_max2, p_lenT, p_lenL, p_lenO, p_eq, p_ne, p_isI, p_iLst, p_iTup, p_iRg1, p_iRg2, p_eNewS, p_eComp, p_inB, p_in, p_nin, p_sSto, List.map_cons, List.map_nil, List.cons_append, List.nil_append, List.append_nil, List.set_cons_zero, List.set_cons_succ, List.getElem?_cons_zero, List.getElem?_cons_succ, List.getElem?_nil, List.length_cons, List.length_nil, List.zip_cons_cons, List.zip_nil_left, List.zip_nil_right, List.foldl_cons, List.foldl_nil, List.replicate, Nat.sub_self, Nat.reduceSub, Nat.reduceAdd, Nat.reduceLeDiff, Nat.reduceLT, Nat.zero_add, Int.reduceLT, Int.reduceLE, Int.reduceNeg, Int.reduceSub, Int.reduceAdd, Int.reduceMul, Int.reduceBEq, Bool.or_true, Bool.true_or, Bool.or_false, Bool.false_or, if_true, if_false, ite_true, ite_false, reduceIte, Bool.not_true, Bool.not_false, Bool.true_and, Bool.and_true, Bool.false_and, Bool.and_false, decide_true, decide_false, Bool.false_eq_true, eq_self, reduceCtorEq, true_and, and_true, and_self, sh, shs, dat, dats, ev_int, ev_str, ev_bl, ev_tup, ev_lst, ev_nil, ev_cons, ev_nc, ev_cn, ev_nn, ev_ni, ev_in, at0, at1, at2, at3, cst0, cst1, cst2, cst3, cst4, cst7, cst9, nO_nil, nO_cons, kl_nil, kl_cons, p_eSl, p_oNone, p_oSome, p_oI, p_slL, p_eLenSet, p_sOwn, p_sFrz, z_own, z_val, z_no, p_sApp, a_own, p_eOix, x_own, x_int, beq_self_eq_true, check_fraction_eval k, c1, check_rule_eval, hr, h]
theorem down_eval (r : Ru) {a b : Int} (k : Fr a b) {f : Nat} (f6 : f ≤ 6) (S : Sto) : m_step_down [fr a b, .int f, .str (nm r)] S = .ok (.lst ((sdn r a b f).map W.int)) S := by
  have b0 := k.b0
  obtain ⟨y4, y5, y6, h⟩ := step_loop r (.val (fr a b)) (.val (.int f)) S f a b [] .no .no f6 (by omega) k.s (by simp only [List.length_nil]; omega)
  have s1 : smI (f : Int) := by unfold smI; omega
  have s2 : smI (-1) := by decide
  have e : (((f : Int) - (-1)).toNat) = f + 1 := by omega
  have hr := rg3_ev (env := [.val (fr a b), .val (.int f), .val (.str (nm r)), .own [], .val (fr a b), .no, .no]) (S := S) (a := eVar 1) (b := eUn opNeg (eC (.int 1))) (c := eUn opNeg (eC (.int 1))) (i := f) (j := -1) rfl rfl rfl s1 s2
  rw [e, rgC_eq] at hr
  rw [List.nil_append] at h
  exact down_body r k S (fun S => check_digits_eval (d := (f : Int)) (by omega) (by omega) S) hr h
end Pu
end
section
namespace Pu
open PySem Zz Mir
theorem uo_exact (r : Ru) {n b : Int} (h : n % b = 0) : b * uo r n b = n := by
  have hdm := Int.mul_ediv_add_emod n b
  unfold uo
  simp only [h, true_or, if_true]
  omega
theorem tw_exact (r : Ru) {a b f t : Int} (hb : 0 < b) (h : a * pw f % b = 0) : tw r a b f t = uo r (a * pw t) b := by
  have p1 := pw_pos f
  have e := uo_exact r h
  unfold tw
  rw [← uo_scale r _ hb p1, ← Int.mul_assoc, e, show a * pw f * pw t = pw f * (a * pw t) by ac_rfl, Int.mul_comm b (pw f), uo_scale r _ p1 hb]
theorem tw_same (r : Ru) {a b t : Int} : tw r a b t t = uo r (a * pw t) b := by
  have p1 := pw_pos t
  unfold tw
  rw [Int.mul_comm _ (pw t)]
  have h : pw t * uo r (a * pw t) b % pw t = 0 := Int.mul_emod_right ..
  have e := uo_exact r h
  exact Int.eq_of_mul_eq_mul_left (by omega) e
theorem pw_split {f t : Int} (t0 : 0 ≤ t) (tf : t ≤ f) : pw f = pw t * pw (f - t) := by
  unfold pw
  rw [← Int.pow_add]
  congr 1
  omega
theorem down_le (x n : Int) {b : Int} (hb : 0 < b) : x ≤ uo .down n b ↔ x * b ≤ n := by
  have h := lo_iff .down n x hb
  simp only [xl, bl, and_true] at h
  rw [← h, Int.mul_assoc]
  omega
theorem up_le (x n : Int) {b : Int} (hb : 0 < b) : uo .up n b ≤ x ↔ n ≤ x * b := by
  have h := hi_iff .up n x hb
  simp only [xh, bh, and_true] at h
  rw [← h, Int.mul_assoc]
  omega
theorem tw_down {a b f t : Int} (hb : 0 < b) (t0 : 0 ≤ t) (tf : t ≤ f) : tw .down a b f t = uo .down (a * pw t) b := by
  have p1 := pw_pos f
  have p2 := pw_pos t
  have p3 := pw_pos (f - t)
  have hs := pw_split t0 tf
  have key : ∀ x, x ≤ tw .down a b f t ↔ x ≤ uo .down (a * pw t) b := fun x => by
    unfold tw
    rw [down_le x _ p1, down_le x _ hb]
    have e1 : x * pw f ≤ uo .down (a * pw f) b * pw t ↔ x * pw (f - t) ≤ uo .down (a * pw f) b := by
      rw [hs, show x * (pw t * pw (f - t)) = (x * pw (f - t)) * pw t by ac_rfl]
      exact ⟨fun h => Int.le_of_mul_le_mul_right h p2, fun h => Int.mul_le_mul_of_nonneg_right h (Int.le_of_lt p2)⟩
    rw [e1, down_le _ _ hb, hs, show x * pw (f - t) * b = (x * b) * pw (f - t) by ac_rfl, show a * (pw t * pw (f - t)) = (a * pw t) * pw (f - t) by ac_rfl]
    exact ⟨fun h => Int.le_of_mul_le_mul_right h p3, fun h => Int.mul_le_mul_of_nonneg_right h (Int.le_of_lt p3)⟩
  have h1 := (key _).mp (Int.le_refl _)
  have h2 := (key _).mpr (Int.le_refl _)
  omega
theorem tw_up {a b f t : Int} (hb : 0 < b) (t0 : 0 ≤ t) (tf : t ≤ f) : tw .up a b f t = uo .up (a * pw t) b := by
  have p1 := pw_pos f
  have p2 := pw_pos t
  have p3 := pw_pos (f - t)
  have hs := pw_split t0 tf
  have key : ∀ x, tw .up a b f t ≤ x ↔ uo .up (a * pw t) b ≤ x := fun x => by
    unfold tw
    rw [up_le x _ p1, up_le x _ hb]
    have e1 : uo .up (a * pw f) b * pw t ≤ x * pw f ↔ uo .up (a * pw f) b ≤ x * pw (f - t) := by
      rw [hs, show x * (pw t * pw (f - t)) = (x * pw (f - t)) * pw t by ac_rfl]
      exact ⟨fun h => Int.le_of_mul_le_mul_right h p2, fun h => Int.mul_le_mul_of_nonneg_right h (Int.le_of_lt p2)⟩
    rw [e1, up_le _ _ hb, hs, show x * pw (f - t) * b = (x * b) * pw (f - t) by ac_rfl, show a * (pw t * pw (f - t)) = (a * pw t) * pw (f - t) by ac_rfl]
    exact ⟨fun h => Int.le_of_mul_le_mul_right h p3, fun h => Int.mul_le_mul_of_nonneg_right h (Int.le_of_lt p3)⟩
  have h1 := (key _).mp (Int.le_refl _)
  have h2 := (key _).mpr (Int.le_refl _)
  omega
end Pu
end
section
namespace Pu
open PySem Zz Mir
theorem zero_pos {n b : Int} (h : 0 ≤ n) : uo .zero n b = uo .down n b := by
  unfold uo
  by_cases h0 : n % b = 0
  · simp [h0]
  · have : 0 < n := by
      rcases Int.lt_or_eq_of_le h with h | h
      · exact h
      · subst h; simp at h0
    simp [h0, this]
theorem zero_neg {n b : Int} (h : n ≤ 0) : uo .zero n b = uo .up n b := by
  unfold uo
  have : ¬ 0 < n := by omega
  by_cases h0 : n % b = 0 <;> simp [h0, this]
theorem tw_zero {a b f t : Int} (hb : 0 < b) (t0 : 0 ≤ t) (tf : t ≤ f) : tw .zero a b f t = uo .zero (a * pw t) b := by
  have p1 := pw_pos f
  have p2 := pw_pos t
  by_cases h : 0 ≤ a
  · have n0 : 0 ≤ a * pw f := Int.mul_nonneg h (Int.le_of_lt p1)
    have u0 : 0 ≤ uo .down (a * pw f) b := (down_le 0 _ hb).mpr (by omega)
    have e := tw_down (a := a) hb t0 tf
    unfold tw at e ⊢
    rw [zero_pos n0, zero_pos (Int.mul_nonneg u0 (Int.le_of_lt p2)), zero_pos (Int.mul_nonneg h (Int.le_of_lt p2)), e]
  · have n0 : a * pw f ≤ 0 := Int.mul_nonpos_of_nonpos_of_nonneg (by omega) (Int.le_of_lt p1)
    have n1 : a * pw t ≤ 0 := Int.mul_nonpos_of_nonpos_of_nonneg (by omega) (Int.le_of_lt p2)
    have u0 : uo .up (a * pw f) b ≤ 0 := (up_le 0 _ hb).mpr (by omega)
    have e := tw_up (a := a) hb t0 tf
    unfold tw at e ⊢
    rw [zero_neg n0, zero_neg (Int.mul_nonpos_of_nonpos_of_nonneg u0 (Int.le_of_lt p2)), zero_neg n1, e]
theorem pw_even {k : Int} (h : 1 ≤ k) : ∃ m, pw k = 2 * m := by
  refine ⟨5 * pw (k - 1), ?_⟩
  have e : pw k = pw (k - 1) * 10 := by
    unfold pw
    rw [← Int.pow_succ]
    congr 1
    omega
  omega
theorem tw_near (r : Ru) (hr : r ≠ .down ∧ r ≠ .up ∧ r ≠ .zero) {a b f t : Int} (hb : 0 < b) (t0 : 0 ≤ t) (tf : t < f) (hd : tw r a b f t ≠ uo r (a * pw t) b) :
    2 * (uo r (a * pw f) b % pw (f - t)) = pw (f - t) ∧ (tw r a b f t = uo r (a * pw t) b + 1 ∨ tw r a b f t = uo r (a * pw t) b - 1) := by
  have p1 := pw_pos f
  have p2 := pw_pos t
  have p3 := pw_pos (f - t)
  have hs := pw_split t0 (Int.le_of_lt tf)
  obtain ⟨m, hm⟩ := pw_even (k := f - t) (by omega)
  have etw : tw r a b f t = uo r (uo r (a * pw f) b) (pw (f - t)) := by
    unfold tw
    rw [hs, Int.mul_comm _ (pw t), uo_scale r _ p2 p3]
  have eX : a * pw f = (a * pw t) * pw (f - t) := by rw [hs]; ac_rfl
  rw [etw] at hd ⊢
  rw [eX] at hd ⊢
  have n1 := uo_near r ((a * pw t) * pw (f - t)) hb hr
  have n3 := uo_near r (a * pw t) hb hr
  generalize a * pw t = X at *
  generalize pw (f - t) = ps at *
  have n2 := uo_near r (uo r (X * ps) b) p3 hr
  generalize uo r (X * ps) b = U at *
  generalize uo r U ps = w at *
  generalize uo r X b = v at *
  have hdm := Int.mul_ediv_add_emod U ps
  have hm0 := Int.emod_nonneg U (by omega : ps ≠ 0)
  have hm1 := Int.emod_lt_of_pos U p3
  generalize U / ps = Q at *
  generalize U % ps = R at *
  obtain ⟨A, hA⟩ : ∃ A, A = w * ps - U := ⟨_, rfl⟩
  obtain ⟨C, hC⟩ : ∃ C, C = v * b - X := ⟨_, rfl⟩
  obtain ⟨D, hD⟩ : ∃ D, D = w - v := ⟨_, rfl⟩
  rw [← hA] at n2
  rw [← hC] at n3
  have idn : D * (b * ps) = A * b + (U * b - X * ps) - C * ps := by
    rw [hD, hA, hC, Int.sub_mul, Int.sub_mul, Int.sub_mul, show w * ps * b = w * (b * ps) by ac_rfl, show v * b * ps = v * (b * ps) by ac_rfl]
    omega
  have bp : 0 < b * ps := Int.mul_pos hb p3
  have bb : b * 1 ≤ b * ps := Int.mul_le_mul_of_nonneg_left (by omega) (by omega)
  have c1 : (2 * C) * ps ≤ b * ps := Int.mul_le_mul_of_nonneg_right n3.2 (by omega)
  have c2 : (-b) * ps ≤ (2 * C) * ps := Int.mul_le_mul_of_nonneg_right n3.1 (by omega)
  have c3 : (2 * C) * ps = 2 * (C * ps) := Int.mul_assoc ..
  have c4 : (-b) * ps = -(b * ps) := Int.neg_mul ..
  have dcase : D = 0 ∨ D = 1 ∨ D = -1 ∨ (2 ≤ D ∧ 2 * (b * ps) ≤ D * (b * ps)) ∨ (D ≤ -2 ∧ D * (b * ps) ≤ -2 * (b * ps)) := by
    by_cases h1 : 2 ≤ D
    · exact .inr (.inr (.inr (.inl ⟨h1, Int.mul_le_mul_of_nonneg_right h1 (by omega)⟩)))
    · by_cases h2 : D ≤ -2
      · exact .inr (.inr (.inr (.inr ⟨h2, Int.mul_le_mul_of_nonneg_right h2 (by omega)⟩)))
      · omega
  have a1 : (2 * A) * b ≤ ps * b := Int.mul_le_mul_of_nonneg_right n2.2 (by omega)
  have a2 : (-ps) * b ≤ (2 * A) * b := Int.mul_le_mul_of_nonneg_right n2.1 (by omega)
  have a3 : (2 * A) * b = 2 * (A * b) := Int.mul_assoc ..
  have a4 : (-ps) * b = -(b * ps) := by rw [Int.neg_mul, Int.mul_comm]
  have a5 : ps * b = b * ps := Int.mul_comm ..
  constructor
  · refine Decidable.byContradiction fun hne => ?_
    have am : A ≠ m ∧ A ≠ -m := by
      have e1 : w * ps = ps * (w - Q) + ps * Q := by rw [Int.mul_sub, Int.mul_comm w]; omega
      have ec : (w - Q ≤ -1 ∧ ps * (w - Q) ≤ -ps) ∨ (w - Q = 0 ∧ ps * (w - Q) = 0) ∨ (w - Q = 1 ∧ ps * (w - Q) = ps) ∨ (2 ≤ w - Q ∧ 2 * ps ≤ ps * (w - Q)) := by
        generalize w - Q = z
        by_cases h1 : z ≤ -1
        · left
          have : ps * z ≤ ps * (-1) := Int.mul_le_mul_of_nonneg_left h1 (by omega)
          omega
        · by_cases h2 : 2 ≤ z
          · right; right; right
            have : ps * 2 ≤ ps * z := Int.mul_le_mul_of_nonneg_left h2 (by omega)
            omega
          · have : z = 0 ∨ z = 1 := by omega
            rcases this with rfl | rfl
            · right; left; simp
            · right; right; left; simp
      constructor <;> intro h <;> omega
    have a6 : (2 * A) * b ≤ (ps - 2) * b := Int.mul_le_mul_of_nonneg_right (by omega) (by omega)
    have a7 : (-(ps - 2)) * b ≤ (2 * A) * b := Int.mul_le_mul_of_nonneg_right (by omega) (by omega)
    have a8 : (ps - 2) * b = b * ps - 2 * b := by rw [Int.sub_mul, a5]
    have a9 : (-(ps - 2)) * b = -(b * ps - 2 * b) := by rw [Int.neg_mul, a8]
    rcases dcase with h | h | h | h | h
    · omega
    · rw [h] at idn; omega
    · rw [h] at idn; omega
    · omega
    · omega
  · rcases dcase with h | h | h | h | h <;> omega
end Pu
end
section
namespace Pu
open PySem Zz Mir
/-- one top of traps_under: whether it counts -/
def trapOne (r : Ru) (under f t : Int) : W → Nat
  | .int x => if Int.gcd x under = 1 ∧ tw r x under f t ≠ uo r (x * pw t) under then 1 else 0
  | _ => 0
theorem u_under (env : En) (S : Sto) : b_traps_under_L0 env S = (sSeq (sSet 6 (eCall m_lowest (aCons (eVar 5) (aCons (eVar 0) aNil))))
  (sIf (Zz.tAnd (tV (eOp opEq (eOp opIx (eVar 6) (eC (.int 1))) (eVar 0))) (tV (eOp opNe (eCall m_twice_of (aCons (eVar 6) (aCons (eVar 1) (aCons (eVar 2) (aCons (eVar 3) aNil))))) (eCall m_units_of (aCons (eVar 6) (aCons (eVar 2) (aCons (eVar 3) aNil)))))))
  (sAug 4 opAddI (eC (.int 1)))
  sPass)) env S := rfl
theorem gcd_div_one (x : Int) {k : Int} (hk : 0 < k) : (k / (Int.gcd x k : Nat) == k) = decide (Int.gcd x k = 1) := by
  by_cases h : Int.gcd x k = 1
  · rw [h]
    simp
  · rw [decide_eq_false h, beq_dec]
    apply decide_eq_false
    intro e
    have h1 := gcd_pos (a := x) hk
    have h3 : k / ((Int.gcd x k : Nat) : Int) < k := Int.ediv_lt_self_of_pos_of_ne_one hk (by omega)
    omega
theorem under_one (r : Ru) {u f t : Int} (u0 : 1 ≤ u) (u1 : u ≤ 60) (f0 : 0 ≤ f) (f6 : f ≤ 6) (t0 : 0 ≤ t) (t6 : t ≤ 6) (c x : Int) (z6 : Sl) (S : Sto) :
    ∃ y6, b_traps_under_L0 [.val (.int u), .val (.int f), .val (.int t), .val (.str (nm r)), .val (.int c), .val (.int x), z6] S = .nx [.val (.int u), .val (.int f), .val (.int t), .val (.str (nm r)), .val (.int (c + (trapOne r u f t (.int x) : Nat))), .val (.int x), y6] S := by
  have hk : s64 u := by unfold s64; omega
  have e1 := lowest_eval x u S (by omega) (by omega)
  have e3 := gcd_div_one x (k := u) (by omega)
  unfold low at e1
  unfold trapOne
  by_cases hg : Int.gcd x u = 1
  · have e4 := tw_eval r (a := x) (b := u) S (by omega) hk f0 f6 t0 t6
    have e5 := units_eval r x u t S t0 t6 (by omega) hk
    have d1 : x / ((1 : Nat) : Int) = x := by simp
    have d2 : u / ((1 : Nat) : Int) = u := by simp
    rw [hg, d1, d2] at e1
    refine ⟨.val (fr x u), ?_⟩
    rw [u_under]
    by_cases h : tw r x u f t = uo r (x * pw t) u
    · simp only [p_bind, b_ok, b_exn, b_bad, b_ite, s_ok, s_exn, s_bad, s_ite, q_nx, q_rt, q_exn, q_bad, q_ite, f_nx, f_rt, f_exn, f_bad, f_ite, i_ok, i_rt, i_int, i_bl, i_tt, i_ff, p_ret, p_eC, p_eVar, p_eOp, p_eUn, p_aNil, p_aCons, p_eCall, p_isB, p_tV, p_tNot, p_tAnd, p_tOr, p_eAnd, p_eOr, p_eNot, p_eIf, p_eTup, p_eLst, p_eChain, p_sBind, p_sSeq, p_sPass, p_sRet, p_sRetN, p_sDrop, p_sSet, p_sIf, p_sRaise, p_sAug, p_sUnp, p_sPar, p_sFor, p_bdN, p_bdT, p_body, p_add, p_addS, p_addT, p_addL, p_addI, p_sub, p_mul, p_mulI, p_mulS, p_fdiv, p_mod, p_pow, p_lt, p_le, p_gt, p_ge, p_isN, p_isB2, p_isnN, p_isnB2, p_neg, p_ixT, p_ixL, p_ixO, p_ofS, p_abs, p_max2, p_lenT, p_lenL, p_lenO, p_eq, p_ne, p_isI, p_iLst, p_iTup, p_iRg1, p_iRg2, p_eNewS, p_eComp, p_inB, p_in, p_nin, p_sSto, List.map_cons, List.map_nil, List.cons_append, List.nil_append, List.append_nil, List.set_cons_zero, List.set_cons_succ, List.getElem?_cons_zero, List.getElem?_cons_succ, List.getElem?_nil, List.length_cons, List.length_nil, List.zip_cons_cons, List.zip_nil_left, List.zip_nil_right, List.foldl_cons, List.foldl_nil, List.replicate, Nat.sub_self, Nat.reduceSub, Nat.reduceAdd, Nat.reduceLeDiff, Nat.reduceLT, Nat.zero_add, Int.reduceLT, Int.reduceLE, Int.reduceNeg, Int.reduceSub, Int.reduceAdd, Int.reduceMul, Int.reduceBEq, Bool.or_true, Bool.true_or, Bool.or_false, Bool.false_or, if_true, if_false, ite_true, ite_false, reduceIte, Bool.not_true, Bool.not_false, Bool.true_and, Bool.and_true, Bool.false_and, Bool.and_false, decide_true, decide_false, Bool.false_eq_true, eq_self, reduceCtorEq, true_and, and_true, and_self, sh, shs, dat, dats, ev_int, ev_str, ev_bl, ev_tup, ev_lst, ev_nil, ev_cons, ev_nc, ev_cn, ev_nn, ev_ni, ev_in, at0, at1, at2, at3, cst0, cst1, cst2, cst3, cst4, cst7, cst9, nO_nil, nO_cons, kl_nil, kl_cons, p_eSl, p_oNone, p_oSome, p_oI, p_slL, p_eLenSet, p_sOwn, p_sFrz, z_own, z_val, z_no, p_sApp, a_own, p_eOix, x_own, x_int, beq_self_eq_true, e1, e4, e5, hg, h, beq_dec, ne_eq, Int.add_zero, not_true_eq_false]
    · simp only [p_bind, b_ok, b_exn, b_bad, b_ite, s_ok, s_exn, s_bad, s_ite, q_nx, q_rt, q_exn, q_bad, q_ite, f_nx, f_rt, f_exn, f_bad, f_ite, i_ok, i_rt, i_int, i_bl, i_tt, i_ff, p_ret, p_eC, p_eVar, p_eOp, p_eUn, p_aNil, p_aCons, p_eCall, p_isB, p_tV, p_tNot, p_tAnd, p_tOr, p_eAnd, p_eOr, p_eNot, p_eIf, p_eTup, p_eLst, p_eChain, p_sBind, p_sSeq, p_sPass, p_sRet, p_sRetN, p_sDrop, p_sSet, p_sIf, p_sRaise, p_sAug, p_sUnp, p_sPar, p_sFor, p_bdN, p_bdT, p_body, p_add, p_addS, p_addT, p_addL, p_addI, p_sub, p_mul, p_mulI, p_mulS, p_fdiv, p_mod, p_pow, p_lt, p_le, p_gt, p_ge, p_isN, p_isB2, p_isnN, p_isnB2, p_neg, p_ixT, p_ixL, p_ixO, p_ofS, p_abs, p_max2, p_lenT, p_lenL, p_lenO, p_eq, p_ne, p_isI, p_iLst, p_iTup, p_iRg1, p_iRg2, p_eNewS, p_eComp, p_inB, p_in, p_nin, p_sSto, List.map_cons, List.map_nil, List.cons_append, List.nil_append, List.append_nil, List.set_cons_zero, List.set_cons_succ, List.getElem?_cons_zero, List.getElem?_cons_succ, List.getElem?_nil, List.length_cons, List.length_nil, List.zip_cons_cons, List.zip_nil_left, List.zip_nil_right, List.foldl_cons, List.foldl_nil, List.replicate, Nat.sub_self, Nat.reduceSub, Nat.reduceAdd, Nat.reduceLeDiff, Nat.reduceLT, Nat.zero_add, Int.reduceLT, Int.reduceLE, Int.reduceNeg, Int.reduceSub, Int.reduceAdd, Int.reduceMul, Int.reduceBEq, Bool.or_true, Bool.true_or, Bool.or_false, Bool.false_or, if_true, if_false, ite_true, ite_false, reduceIte, Bool.not_true, Bool.not_false, Bool.true_and, Bool.and_true, Bool.false_and, Bool.and_false, decide_true, decide_false, Bool.false_eq_true, eq_self, reduceCtorEq, true_and, and_true, and_self, sh, shs, dat, dats, ev_int, ev_str, ev_bl, ev_tup, ev_lst, ev_nil, ev_cons, ev_nc, ev_cn, ev_nn, ev_ni, ev_in, at0, at1, at2, at3, cst0, cst1, cst2, cst3, cst4, cst7, cst9, nO_nil, nO_cons, kl_nil, kl_cons, p_eSl, p_oNone, p_oSome, p_oI, p_slL, p_eLenSet, p_sOwn, p_sFrz, z_own, z_val, z_no, p_sApp, a_own, p_eOix, x_own, x_int, beq_self_eq_true, e1, e4, e5, hg, h, beq_dec, ne_eq, not_false_eq_true]
  · refine ⟨.val (.tup [.int (x / (Int.gcd x u : Nat)), .int (u / (Int.gcd x u : Nat))]), ?_⟩
    rw [u_under]
    simp only [p_bind, b_ok, b_exn, b_bad, b_ite, s_ok, s_exn, s_bad, s_ite, q_nx, q_rt, q_exn, q_bad, q_ite, f_nx, f_rt, f_exn, f_bad, f_ite, i_ok, i_rt, i_int, i_bl, i_tt, i_ff, p_ret, p_eC, p_eVar, p_eOp, p_eUn, p_aNil, p_aCons, p_eCall, p_isB, p_tV, p_tNot, p_tAnd, p_tOr, p_eAnd, p_eOr, p_eNot, p_eIf, p_eTup, p_eLst, p_eChain, p_sBind, p_sSeq, p_sPass, p_sRet, p_sRetN, p_sDrop, p_sSet, p_sIf, p_sRaise, p_sAug, p_sUnp, p_sPar, p_sFor, p_bdN, p_bdT, p_body, p_add, p_addS, p_addT, p_addL, p_addI, p_sub, p_mul, p_mulI, p_mulS, p_fdiv, p_mod, p_pow, p_lt, p_le, p_gt, p_ge, p_isN, p_isB2, p_isnN, p_isnB2, p_neg, p_ixT, p_ixL, p_ixO, p_ofS, p_abs, p_max2, p_lenT, p_lenL, p_lenO, p_eq, p_ne, p_isI, p_iLst, p_iTup, p_iRg1, p_iRg2, p_eNewS, p_eComp, p_inB, p_in, p_nin, p_sSto, List.map_cons, List.map_nil, List.cons_append, List.nil_append, List.append_nil, List.set_cons_zero, List.set_cons_succ, List.getElem?_cons_zero, List.getElem?_cons_succ, List.getElem?_nil, List.length_cons, List.length_nil, List.zip_cons_cons, List.zip_nil_left, List.zip_nil_right, List.foldl_cons, List.foldl_nil, List.replicate, Nat.sub_self, Nat.reduceSub, Nat.reduceAdd, Nat.reduceLeDiff, Nat.reduceLT, Nat.zero_add, Int.reduceLT, Int.reduceLE, Int.reduceNeg, Int.reduceSub, Int.reduceAdd, Int.reduceMul, Int.reduceBEq, Bool.or_true, Bool.true_or, Bool.or_false, Bool.false_or, if_true, if_false, ite_true, ite_false, reduceIte, Bool.not_true, Bool.not_false, Bool.true_and, Bool.and_true, Bool.false_and, Bool.and_false, decide_true, decide_false, Bool.false_eq_true, eq_self, reduceCtorEq, true_and, and_true, and_self, sh, shs, dat, dats, ev_int, ev_str, ev_bl, ev_tup, ev_lst, ev_nil, ev_cons, ev_nc, ev_cn, ev_nn, ev_ni, ev_in, at0, at1, at2, at3, cst0, cst1, cst2, cst3, cst4, cst7, cst9, nO_nil, nO_cons, kl_nil, kl_cons, p_eSl, p_oNone, p_oSome, p_oI, p_slL, p_eLenSet, p_sOwn, p_sFrz, z_own, z_val, z_no, p_sApp, a_own, p_eOix, x_own, x_int, beq_self_eq_true, e1, e3, hg, false_and, Int.add_zero]
theorem loop_sum {X : Type} {bd : Bd} {body : SM} {S : Sto} (F : X → Int → En) (g : W → Nat) : ∀ (ws : List W) (x : X) (c : Int), (∀ w ∈ ws, ∀ x c, ∃ env1 x', bd w (F x c) = some env1 ∧ body env1 S = .nx (F x' (c + (g w : Nat))) S) →
    ∃ x', loopL bd body ws (F x c) S = .nx (F x' (c + ((ws.map g).sum : Nat))) S
  | [], x, c, _ => ⟨x, by simp only [List.map_nil, List.sum_nil]; rw [show c + ((0 : Nat) : Int) = c by omega]; rfl⟩
  | w :: r, x, c, h => by
    obtain ⟨env1, x', h1, h2⟩ := h w List.mem_cons_self x c
    obtain ⟨x2, h4⟩ := loop_sum F g r x' (c + (g w : Nat)) (fun w hw => h w (List.mem_cons_of_mem _ hw))
    refine ⟨x2, ?_⟩
    rw [p_loop1, h1]
    simp only [h2]
    rw [h4, List.map_cons, List.sum_cons]
    congr 2
    omega
theorem under_eval (r : Ru) {u f t : Int} (u0 : 1 ≤ u) (u1 : u ≤ 60) (f0 : 0 ≤ f) (f6 : f ≤ 6) (t0 : 0 ≤ t) (tf : t ≤ f) (S : Sto) : m_traps_under [.int u, .int f, .int t, .str (nm r)] S = .ok (.int (((rgW 0 (u + 1).toNat).map (trapOne r u f t)).sum : Nat)) S := by
  obtain ⟨x', h⟩ := loop_sum (bd := bdN 5) (body := b_traps_under_L0) (S := S) (fun (x : Sl × Sl) c => [.val (.int u), .val (.int f), .val (.int t), .val (.str (nm r)), .val (.int c), x.1, x.2]) (trapOne r u f t) (rgW 0 (u + 1).toNat) (.no, .no) 0 (fun w hw x c => by
    obtain ⟨k, rfl, _⟩ := mem_rgW hw
    obtain ⟨y6, hy⟩ := under_one r u0 u1 f0 f6 t0 (show t ≤ 6 by omega) c k x.2 S
    exact ⟨_, (.val (.int k), y6), rfl, hy⟩)
  have e1 : decide (1 ≤ u) = true := decide_eq_true u0
  have e2 : decide (u ≤ 60) = true := decide_eq_true u1
  have s1 : smI (u + 1) := by unfold smI; omega
  rw [Int.zero_add] at h
  simp only [m_traps_under, b_traps_under, p_bind, b_ok, b_exn, b_bad, b_ite, s_ok, s_exn, s_bad, s_ite, q_nx, q_rt, q_exn, q_bad, q_ite, f_nx, f_rt, f_exn, f_bad, f_ite, i_ok, i_rt, i_int, i_bl, i_tt, i_ff, p_ret, p_eC, p_eVar, p_eOp, p_eUn, p_aNil, p_aCons, p_eCall, p_isB, p_tV, p_tNot, p_tAnd, p_tOr, p_eAnd, p_eOr, p_eNot, p_eIf, p_eTup, p_eLst, p_eChain, p_sBind, p_sSeq, p_sPass, p_sRet, p_sRetN, p_sDrop, p_sSet, p_sIf, p_sRaise, p_sAug, p_sUnp, p_sPar, p_sFor, p_bdN, p_bdT, p_body, p_add, p_addS, p_addT, p_addL, p_addI, p_sub, p_mul, p_mulI, p_mulS, p_fdiv, p_mod, p_pow, p_lt, p_le, p_gt, p_ge, p_isN, p_isB2, p_isnN, p_isnB2, p_neg, p_ixT, p_ixL, p_ixO, p_ofS, p_abs, p_max2, p_lenT, p_lenL, p_lenO, p_eq, p_ne, p_isI, p_iLst, p_iTup, p_iRg1, p_iRg2, p_eNewS, p_eComp, p_inB, p_in, p_nin, p_sSto, List.map_cons, List.map_nil, List.cons_append, List.nil_append, List.append_nil, List.set_cons_zero, List.set_cons_succ, List.getElem?_cons_zero, List.getElem?_cons_succ, List.getElem?_nil, List.length_cons, List.length_nil, List.zip_cons_cons, List.zip_nil_left, List.zip_nil_right, List.foldl_cons, List.foldl_nil, List.replicate, Nat.sub_self, Nat.reduceSub, Nat.reduceAdd, Nat.reduceLeDiff, Nat.reduceLT, Nat.zero_add, Int.reduceLT, Int.reduceLE, Int.reduceNeg, Int.reduceSub, Int.reduceAdd, Int.reduceMul, Int.reduceBEq, Bool.or_true, Bool.true_or, Bool.or_false, Bool.false_or, if_true, if_false, ite_true, ite_false, reduceIte, Bool.not_true, Bool.not_false, Bool.true_and, Bool.and_true, Bool.false_and, Bool.and_false, decide_true, decide_false, Bool.false_eq_true, eq_self, reduceCtorEq, true_and, and_true, and_self, sh, shs, dat, dats, ev_int, ev_str, ev_bl, ev_tup, ev_lst, ev_nil, ev_cons, ev_nc, ev_cn, ev_nn, ev_ni, ev_in, at0, at1, at2, at3, cst0, cst1, cst2, cst3, cst4, cst7, cst9, nO_nil, nO_cons, kl_nil, kl_cons, p_eSl, p_oNone, p_oSome, p_oI, p_slL, p_eLenSet, p_sOwn, p_sFrz, z_own, z_val, z_no, p_sApp, a_own, p_eOix, x_own, x_int, beq_self_eq_true, is_int_eval, e1, e2, steps_eval _ f0 f6 t0 tf, check_rule_eval, s1, h]
/-! the end of the steps -/
theorem sdn_len (r : Ru) : ∀ (k : Nat) (n b : Int), (sdn r n b k).length = k + 1
  | 0, n, b => rfl
  | k + 1, n, b => by unfold sdn; rw [List.length_cons, sdn_len r k]
def sdl (r : Ru) : Int → Int → Nat → Int
  | n, b, 0 => uo r (n * pw 0) b
  | n, b, k + 1 => sdl r (uo r (n * pw (k + 1 : Nat)) b) (pw (k + 1 : Nat)) k
theorem sdn_last (r : Ru) : ∀ (k : Nat) (n b : Int), ∃ init, sdn r n b k = init ++ [sdl r n b k] ∧ init.length = k
  | 0, n, b => ⟨[], rfl, rfl⟩
  | k + 1, n, b => by
    obtain ⟨init, h1, h2⟩ := sdn_last r k (uo r (n * pw (k + 1 : Nat)) b) (pw (k + 1 : Nat))
    refine ⟨uo r (n * pw (k + 1 : Nat)) b :: init, ?_, by rw [List.length_cons, h2]⟩
    unfold sdn sdl
    rw [h1]
    rfl
theorem at_last (ws : List W) (w : W) : L2.atI (ws ++ [w]) (-1) = some w := by
  unfold L2.atI L2.ixN
  simp
  rw [if_pos (by omega), show (-1 + ((ws.length : Int) + 1)).toNat = ws.length by omega]
  simp
theorem chain_eval (r : Ru) {a b : Int} (k : Fr a b) {f : Nat} (f6 : f ≤ 6) (S : Sto) : m_chain_error [fr a b, .int f, .str (nm r)] S = .ok (low (sdl r a b f * b - a * 1) (1 * b)) S := by
  have b0 := k.b0
  have hd := down_eval r k f6 S
  obtain ⟨init, h1, _⟩ := sdn_last r f a b
  rw [h1, List.map_append, List.map_cons, List.map_nil] at hd
  have hm := minus_eval (sdl r a b f) 1 a b S (by decide) (by omega) (by decide) k.s
  have ha := at_last (init.map W.int) (.int (sdl r a b f))
  generalize (f : Int) = F at *
  simp only [m_chain_error, b_chain_error, p_bind, b_ok, b_exn, b_bad, b_ite, s_ok, s_exn, s_bad, s_ite, q_nx, q_rt, q_exn, q_bad, q_ite, f_nx, f_rt, f_exn, f_bad, f_ite, i_ok, i_rt, i_int, i_bl, i_tt, i_ff, p_ret, p_eC, p_eVar, p_eOp, p_eUn, p_aNil, p_aCons, p_eCall, p_isB, p_tV, p_tNot, p_tAnd, p_tOr, p_eAnd, p_eOr, p_eNot, p_eIf, p_eTup, p_eLst, p_eChain, p_sBind, p_sSeq, p_sPass, p_sRet, p_sRetN, p_sDrop, p_sSet, p_sIf, p_sRaise, p_sAug, p_sUnp, p_sPar, p_sFor, p_bdN, p_bdT, p_body, p_add, p_addS, p_addT, p_addL, p_addI, p_sub, p_mul, p_mulI, p_mulS, p_fdiv, p_mod, p_pow, p_lt, p_le, p_gt, p_ge, p_isN, p_isB2, p_isnN, p_isnB2, p_neg, p_ixT, p_ixL, p_ixO, p_ofS, p_abs, p_max2, p_lenT, p_lenL, p_lenO, p_eq, p_ne, p_isI, p_iLst, p_iTup, p_iRg1, p_iRg2, p_eNewS, p_eComp, p_inB, p_in, p_nin, p_sSto, List.map_cons, List.map_nil, List.cons_append, List.nil_append, List.append_nil, List.set_cons_zero, List.set_cons_succ, List.getElem?_cons_zero, List.getElem?_cons_succ, List.getElem?_nil, List.length_cons, List.length_nil, List.zip_cons_cons, List.zip_nil_left, List.zip_nil_right, List.foldl_cons, List.foldl_nil, List.replicate, Nat.sub_self, Nat.reduceSub, Nat.reduceAdd, Nat.reduceLeDiff, Nat.reduceLT, Nat.zero_add, Int.reduceLT, Int.reduceLE, Int.reduceNeg, Int.reduceSub, Int.reduceAdd, Int.reduceMul, Int.reduceBEq, Bool.or_true, Bool.true_or, Bool.or_false, Bool.false_or, if_true, if_false, ite_true, ite_false, reduceIte, Bool.not_true, Bool.not_false, Bool.true_and, Bool.and_true, Bool.false_and, Bool.and_false, decide_true, decide_false, Bool.false_eq_true, eq_self, reduceCtorEq, true_and, and_true, and_self, sh, shs, dat, dats, ev_int, ev_str, ev_bl, ev_tup, ev_lst, ev_nil, ev_cons, ev_nc, ev_cn, ev_nn, ev_ni, ev_in, at0, at1, at2, at3, cst0, cst1, cst2, cst3, cst4, cst7, cst9, nO_nil, nO_cons, kl_nil, kl_cons, p_eSl, p_oNone, p_oSome, p_oI, p_slL, p_eLenSet, p_sOwn, p_sFrz, z_own, z_val, z_no, p_sApp, a_own, p_eOix, x_own, x_int, beq_self_eq_true, hd, ha, hm]
end Pu
end
section
namespace Pu
open PySem Zz Mir
theorem loop_keep {X : Type} {bd : Bd} {body : SM} {S : Sto} (F : X → En) : ∀ (ws : List W) (x : X), (∀ w ∈ ws, ∀ x, ∃ env1 x', bd w (F x) = some env1 ∧ body env1 S = .nx (F x') S) → ∃ x', loopL bd body ws (F x) S = .nx (F x') S
  | [], x, _ => ⟨x, rfl⟩
  | w :: r, x, h => by
    obtain ⟨env1, x', h1, h2⟩ := h w List.mem_cons_self x
    obtain ⟨x2, h4⟩ := loop_keep F r x' fun w hw => h w (List.mem_cons_of_mem _ hw)
    refine ⟨x2, ?_⟩
    rw [p_loop1, h1]
    simp only [h2]
    exact h4
/-- a loop whose turns keep P of frame and store -/
theorem loop_P {bd : Bd} {body : SM} (P : En → Sto → Prop) : ∀ (ws : List W) (env : En) (S : Sto), P env S → (∀ w ∈ ws, ∀ env S, P env S → ∃ env1 env' S', bd w env = some env1 ∧ body env1 S = .nx env' S' ∧ P env' S') → ∃ env' S', loopL bd body ws env S = .nx env' S' ∧ P env' S'
  | [], env, S, p, _ => ⟨env, S, rfl, p⟩
  | w :: r, env, S, p, h => by
    obtain ⟨env1, env', S', h1, h2, h3⟩ := h w List.mem_cons_self env S p
    obtain ⟨e2, S2, h4, h5⟩ := loop_P P r env' S' h3 fun w hw => h w (List.mem_cons_of_mem _ hw)
    refine ⟨e2, S2, ?_, h5⟩
    rw [p_loop1, h1]
    simp only [h2]
    exact h4
theorem at_get {α : Type} {xs : List α} {i : Nat} {w : α} (h : xs[i]? = some w) : L2.atI xs (i : Int) = some w := by
  have hl := (List.getElem?_eq_some_iff.mp h).1
  unfold L2.atI
  rw [ixN_ok (by omega) (by omega)]
  exact h
theorem in3_flat (r : Ru) : (flatW (.str (nm r)) && [W.str "down", W.str "up", W.str "zero"].all flatW) = true := by
  cases r <;> rfl
theorem in3_isin (r : Ru) : isin (.str (nm r)) [W.str "down", W.str "up", W.str "zero"] = (decide (r = .down) || (decide (r = .up) || decide (r = .zero))) := by
  cases r <;> rfl
theorem p_sParO {env : En} {S : Sto} (i j : Nat) (a : EM) (bs : AM) : sParO i j a bs env S = sBind a (fun w => sBind bs fun zs env S => if zs.length ≤ 1000 then .nx ((env.set i (.val w)).set j (.own zs)) S else .bad) env S := rfl
/-- how far the first trap is looked for -/
def trapP (r : Ru) (a b t : Int) : W → Bool
  | .int g => !decide (tw r a b g t = uo r (a * pw t) b)
  | _ => false
def bad (r : Ru) (a b t : Int) (ws : List W) : List W := ws.filter (trapP r a b t)
def hdW : List W → W
  | [] => .non
  | w :: _ => w
theorem trap_filter (r : Ru) (a b t : Int) : ∀ ws : List W, (∀ w ∈ ws, ∃ g, w = .int g) → trapL r a b t ws = hdW (bad r a b t ws)
  | [], _ => rfl
  | w :: l, h => by
    obtain ⟨g, rfl⟩ := h w List.mem_cons_self
    unfold trapL bad
    by_cases e : tw r a b g t = uo r (a * pw t) b
    · rw [if_pos e, List.filter_cons_of_neg (by simp [trapP, e])]
      exact trap_filter r a b t l fun w hw => h w (List.mem_cons_of_mem _ hw)
    · rw [if_neg e, List.filter_cons_of_pos (by simp [trapP, e])]
      rfl
theorem bad_sh (r : Ru) (a b t : Int) (ws : List W) (h : ∀ w ∈ ws, ∃ g, w = .int g) : shs 7 (bad r a b t ws) = true := shs_of _ fun w hw => by
  obtain ⟨g, rfl⟩ := h w ((List.mem_filter.mp hw).1)
  rfl
end Pu
end
section
namespace Pu
open PySem Zz Mir
/-! ### the period's length -/
def plS : Nat → Int → Int → Int → Int
  | 0, _, _, len => len
  | k + 1, l, rest, len => if rest = 1 then len else plS k l (rest * 10 % l) (len + 1)
def endsIn : Nat → Int → Int → Bool
  | 0, _, _ => false
  | k + 1, l, rest => decide (rest = 1) || endsIn k l (rest * 10 % l)
def plen (b : Int) : Int := if pl b = 1 then 0 else plS 60 (pl b) (10 % pl b) 1
theorem u_period (env : En) (S : Sto) : b_period_L0 env S = (sSeq (sSet 4 (eOp opMod (eOp opMul (eVar 4) (eC (.int 10))) (eVar 2)))
  (sAug 3 opAddI (eC (.int 1)))) env S := rfl
theorem per_loop {l : Int} (hl : 0 < l) (z0 z1 : Sl) (S : Sto) : ∀ (k n : Nat) (rest len : Int), endsIn k l rest = true → k ≤ n →
    loopW (tV (eOp opNe (eVar 4) (eC (.int 1)))) b_period_L0 n [z0, z1, .val (.int l), .val (.int len), .val (.int rest)] S = .nx [z0, z1, .val (.int l), .val (.int (plS k l rest len)), .val (.int 1)] S := by
  intro k
  induction k with
  | zero => intro n rest len h; exact absurd h (by simp [endsIn])
  | succ k ih =>
    intro n rest len h hn
    obtain ⟨m, rfl⟩ : ∃ m, n = m + 1 := ⟨n - 1, by omega⟩
    have g1 : ∀ x : Int, gMul x 10 := fun x => .inr (.inl (by decide))
    by_cases hr : rest = 1
    · subst hr
      simp only [p_while, p_bind, b_ok, b_exn, b_bad, b_ite, s_ok, s_exn, s_bad, s_ite, q_nx, q_rt, q_exn, q_bad, q_ite, f_nx, f_rt, f_exn, f_bad, f_ite, i_ok, i_rt, i_int, i_bl, i_tt, i_ff, p_ret, p_eC, p_eVar, p_eOp, p_eUn, p_aNil, p_aCons, p_eCall, p_isB, p_tV, p_tNot, p_tAnd, p_tOr, p_eAnd, p_eOr, p_eNot, p_eIf, p_eTup, p_eLst, p_eChain, p_sBind, p_sSeq, p_sPass, p_sRet, p_sRetN, p_sDrop, p_sSet, p_sIf, p_sRaise, p_sAug, p_sUnp, p_sPar, p_sFor, p_bdN, p_bdT, p_body, p_add, p_addS, p_addT, p_addL, p_addI, p_sub, p_mul, p_mulI, p_mulS, p_fdiv, p_mod, p_pow, p_lt, p_le, p_gt, p_ge, p_isN, p_isB2, p_isnN, p_isnB2, p_neg, p_ixT, p_ixL, p_ixO, p_ofS, p_abs, p_max2, p_lenT, p_lenL, p_lenO, p_eq, p_ne, p_isI, p_iLst, p_iTup, p_iRg1, p_iRg2, p_eNewS, p_eComp, p_inB, p_in, p_nin, p_sSto, List.map_cons, List.map_nil, List.cons_append, List.nil_append, List.append_nil, List.set_cons_zero, List.set_cons_succ, List.getElem?_cons_zero, List.getElem?_cons_succ, List.getElem?_nil, List.length_cons, List.length_nil, List.zip_cons_cons, List.zip_nil_left, List.zip_nil_right, List.foldl_cons, List.foldl_nil, List.replicate, Nat.sub_self, Nat.reduceSub, Nat.reduceAdd, Nat.reduceLeDiff, Nat.reduceLT, Nat.zero_add, Int.reduceLT, Int.reduceLE, Int.reduceNeg, Int.reduceSub, Int.reduceAdd, Int.reduceMul, Int.reduceBEq, Bool.or_true, Bool.true_or, Bool.or_false, Bool.false_or, if_true, if_false, ite_true, ite_false, reduceIte, Bool.not_true, Bool.not_false, Bool.true_and, Bool.and_true, Bool.false_and, Bool.and_false, decide_true, decide_false, Bool.false_eq_true, eq_self, reduceCtorEq, true_and, and_true, and_self, sh, shs, dat, dats, ev_int, ev_str, ev_bl, ev_tup, ev_lst, ev_nil, ev_cons, ev_nc, ev_cn, ev_nn, ev_ni, ev_in, at0, at1, at2, at3, cst0, cst1, cst2, cst3, cst4, cst7, cst9, beq_dec]
      rfl
    · have h2 : endsIn k l (rest * 10 % l) = true := by simpa [endsIn, hr] using h
      have h3 := ih m (rest * 10 % l) (len + 1) h2 (by omega)
      simp only [p_while, p_bind, b_ok, b_exn, b_bad, b_ite, s_ok, s_exn, s_bad, s_ite, q_nx, q_rt, q_exn, q_bad, q_ite, f_nx, f_rt, f_exn, f_bad, f_ite, i_ok, i_rt, i_int, i_bl, i_tt, i_ff, p_ret, p_eC, p_eVar, p_eOp, p_eUn, p_aNil, p_aCons, p_eCall, p_isB, p_tV, p_tNot, p_tAnd, p_tOr, p_eAnd, p_eOr, p_eNot, p_eIf, p_eTup, p_eLst, p_eChain, p_sBind, p_sSeq, p_sPass, p_sRet, p_sRetN, p_sDrop, p_sSet, p_sIf, p_sRaise, p_sAug, p_sUnp, p_sPar, p_sFor, p_bdN, p_bdT, p_body, p_add, p_addS, p_addT, p_addL, p_addI, p_sub, p_mul, p_mulI, p_mulS, p_fdiv, p_mod, p_pow, p_lt, p_le, p_gt, p_ge, p_isN, p_isB2, p_isnN, p_isnB2, p_neg, p_ixT, p_ixL, p_ixO, p_ofS, p_abs, p_max2, p_lenT, p_lenL, p_lenO, p_eq, p_ne, p_isI, p_iLst, p_iTup, p_iRg1, p_iRg2, p_eNewS, p_eComp, p_inB, p_in, p_nin, p_sSto, List.map_cons, List.map_nil, List.cons_append, List.nil_append, List.append_nil, List.set_cons_zero, List.set_cons_succ, List.getElem?_cons_zero, List.getElem?_cons_succ, List.getElem?_nil, List.length_cons, List.length_nil, List.zip_cons_cons, List.zip_nil_left, List.zip_nil_right, List.foldl_cons, List.foldl_nil, List.replicate, Nat.sub_self, Nat.reduceSub, Nat.reduceAdd, Nat.reduceLeDiff, Nat.reduceLT, Nat.zero_add, Int.reduceLT, Int.reduceLE, Int.reduceNeg, Int.reduceSub, Int.reduceAdd, Int.reduceMul, Int.reduceBEq, Bool.or_true, Bool.true_or, Bool.or_false, Bool.false_or, if_true, if_false, ite_true, ite_false, reduceIte, Bool.not_true, Bool.not_false, Bool.true_and, Bool.and_true, Bool.false_and, Bool.and_false, decide_true, decide_false, Bool.false_eq_true, eq_self, reduceCtorEq, true_and, and_true, and_self, sh, shs, dat, dats, ev_int, ev_str, ev_bl, ev_tup, ev_lst, ev_nil, ev_cons, ev_nc, ev_cn, ev_nn, ev_ni, ev_in, at0, at1, at2, at3, cst0, cst1, cst2, cst3, cst4, cst7, cst9, beq_dec, hr, u_period, g1, hl, h3]
      rw [show plS (k + 1) l rest len = plS k l (rest * 10 % l) (len + 1) from by rw [plS, if_neg hr]]
theorem ends_fin : ∀ i : Fin 60, pl ((i.val : Int) + 1) ≠ 1 → (0 < pl ((i.val : Int) + 1) ∧ endsIn 60 (pl ((i.val : Int) + 1)) (10 % pl ((i.val : Int) + 1)) = true) := by decide +kernel
/-- what is known of the period -/
theorem per_fin : ∀ i : Fin 60, (0 ≤ pb ((i.val : Int) + 1) ∧ pb ((i.val : Int) + 1) ≤ 5) ∧ (0 ≤ plen ((i.val : Int) + 1) ∧ plen ((i.val : Int) + 1) ≤ 58) ∧ (plen ((i.val : Int) + 1) = 0 ↔ pl ((i.val : Int) + 1) = 1) ∧
    ((10 : Int) ^ (pb ((i.val : Int) + 1)).toNat * (10 ^ (plen ((i.val : Int) + 1)).toNat - 1)) % ((i.val : Int) + 1) = 0 ∧ (pl ((i.val : Int) + 1) = 1 → (10 : Int) ^ (pb ((i.val : Int) + 1)).toNat % ((i.val : Int) + 1) = 0) := by decide +kernel
structure Per (b : Int) : Prop where
  p0 : 0 ≤ pb b
  p1 : pb b ≤ 5
  l0 : 0 ≤ plen b
  l1 : plen b ≤ 58
  z : plen b = 0 ↔ pl b = 1
  d : b ∣ 10 ^ (pb b).toNat * (10 ^ (plen b).toNat - 1)
  e : pl b = 1 → b ∣ 10 ^ (pb b).toNat
theorem per {b : Int} (b0 : 1 ≤ b) (b1 : b ≤ 60) : Per b := by
  obtain ⟨i, hi⟩ := sixty b0 b1
  have h := per_fin i
  rw [← hi] at h
  exact ⟨h.1.1, h.1.2, h.2.1.1, h.2.1.2, h.2.2.1, Int.dvd_of_emod_eq_zero h.2.2.2.1, fun x => Int.dvd_of_emod_eq_zero (h.2.2.2.2 x)⟩
theorem period_eval {a b : Int} (f : Fr a b) (S : Sto) : m_period [fr a b] S = .ok (.tup [.int (pb b), .int (plen b)]) S := by
  by_cases h : pl b = 1
  · have e : plen b = 0 := by unfold plen; rw [if_pos h]
    rw [e]
    simp only [m_period, b_period, p_bind, b_ok, b_exn, b_bad, b_ite, s_ok, s_exn, s_bad, s_ite, q_nx, q_rt, q_exn, q_bad, q_ite, f_nx, f_rt, f_exn, f_bad, f_ite, i_ok, i_rt, i_int, i_bl, i_tt, i_ff, p_ret, p_eC, p_eVar, p_eOp, p_eUn, p_aNil, p_aCons, p_eCall, p_isB, p_tV, p_tNot, p_tAnd, p_tOr, p_eAnd, p_eOr, p_eNot, p_eIf, p_eTup, p_eLst, p_eChain, p_sBind, p_sSeq, p_sPass, p_sRet, p_sRetN, p_sDrop, p_sSet, p_sIf, p_sRaise, p_sAug, p_sUnp, p_sPar, p_sFor, p_bdN, p_bdT, p_body, p_add, p_addS, p_addT, p_addL, p_addI, p_sub, p_mul, p_mulI, p_mulS, p_fdiv, p_mod, p_pow, p_lt, p_le, p_gt, p_ge, p_isN, p_isB2, p_isnN, p_isnB2, p_neg, p_ixT, p_ixL, p_ixO, p_ofS, p_abs, p_max2, p_lenT, p_lenL, p_lenO, p_eq, p_ne, p_isI, p_iLst, p_iTup, p_iRg1, p_iRg2, p_eNewS, p_eComp, p_inB, p_in, p_nin, p_sSto, List.map_cons, List.map_nil, List.cons_append, List.nil_append, List.append_nil, List.set_cons_zero, List.set_cons_succ, List.getElem?_cons_zero, List.getElem?_cons_succ, List.getElem?_nil, List.length_cons, List.length_nil, List.zip_cons_cons, List.zip_nil_left, List.zip_nil_right, List.foldl_cons, List.foldl_nil, List.replicate, Nat.sub_self, Nat.reduceSub, Nat.reduceAdd, Nat.reduceLeDiff, Nat.reduceLT, Nat.zero_add, Int.reduceLT, Int.reduceLE, Int.reduceNeg, Int.reduceSub, Int.reduceAdd, Int.reduceMul, Int.reduceBEq, Bool.or_true, Bool.true_or, Bool.or_false, Bool.false_or, if_true, if_false, ite_true, ite_false, reduceIte, Bool.not_true, Bool.not_false, Bool.true_and, Bool.and_true, Bool.false_and, Bool.and_false, decide_true, decide_false, Bool.false_eq_true, eq_self, reduceCtorEq, true_and, and_true, and_self, sh, shs, dat, dats, ev_int, ev_str, ev_bl, ev_tup, ev_lst, ev_nil, ev_cons, ev_nc, ev_cn, ev_nn, ev_ni, ev_in, at0, at1, at2, at3, cst0, cst1, cst2, cst3, cst4, cst7, cst9, check_fraction_eval f, parts_eval f.b0 f.b1, beq_dec, h]
  · obtain ⟨i, hi⟩ := sixty f.b0 f.b1
    have h2 := ends_fin i
    rw [← hi] at h2
    obtain ⟨hl, he⟩ := h2 h
    have e : plen b = plS 60 (pl b) (10 % pl b) 1 := by unfold plen; rw [if_neg h]
    rw [e]
    have hw := per_loop hl (.val (fr a b)) (.val (.int (pb b))) S 60 fuelN (10 % pl b) 1 he (by decide)
    simp only [m_period, b_period, p_bind, b_ok, b_exn, b_bad, b_ite, s_ok, s_exn, s_bad, s_ite, q_nx, q_rt, q_exn, q_bad, q_ite, f_nx, f_rt, f_exn, f_bad, f_ite, i_ok, i_rt, i_int, i_bl, i_tt, i_ff, p_ret, p_eC, p_eVar, p_eOp, p_eUn, p_aNil, p_aCons, p_eCall, p_isB, p_tV, p_tNot, p_tAnd, p_tOr, p_eAnd, p_eOr, p_eNot, p_eIf, p_eTup, p_eLst, p_eChain, p_sBind, p_sSeq, p_sPass, p_sRet, p_sRetN, p_sDrop, p_sSet, p_sIf, p_sRaise, p_sAug, p_sUnp, p_sPar, p_sFor, p_bdN, p_bdT, p_body, p_add, p_addS, p_addT, p_addL, p_addI, p_sub, p_mul, p_mulI, p_mulS, p_fdiv, p_mod, p_pow, p_lt, p_le, p_gt, p_ge, p_isN, p_isB2, p_isnN, p_isnB2, p_neg, p_ixT, p_ixL, p_ixO, p_ofS, p_abs, p_max2, p_lenT, p_lenL, p_lenO, p_eq, p_ne, p_isI, p_iLst, p_iTup, p_iRg1, p_iRg2, p_eNewS, p_eComp, p_inB, p_in, p_nin, p_sSto, List.map_cons, List.map_nil, List.cons_append, List.nil_append, List.append_nil, List.set_cons_zero, List.set_cons_succ, List.getElem?_cons_zero, List.getElem?_cons_succ, List.getElem?_nil, List.length_cons, List.length_nil, List.zip_cons_cons, List.zip_nil_left, List.zip_nil_right, List.foldl_cons, List.foldl_nil, List.replicate, Nat.sub_self, Nat.reduceSub, Nat.reduceAdd, Nat.reduceLeDiff, Nat.reduceLT, Nat.zero_add, Int.reduceLT, Int.reduceLE, Int.reduceNeg, Int.reduceSub, Int.reduceAdd, Int.reduceMul, Int.reduceBEq, Bool.or_true, Bool.true_or, Bool.or_false, Bool.false_or, if_true, if_false, ite_true, ite_false, reduceIte, Bool.not_true, Bool.not_false, Bool.true_and, Bool.and_true, Bool.false_and, Bool.and_false, decide_true, decide_false, Bool.false_eq_true, eq_self, reduceCtorEq, true_and, and_true, and_self, sh, shs, dat, dats, ev_int, ev_str, ev_bl, ev_tup, ev_lst, ev_nil, ev_cons, ev_nc, ev_cn, ev_nn, ev_ni, ev_in, at0, at1, at2, at3, cst0, cst1, cst2, cst3, cst4, cst7, cst9, check_fraction_eval f, parts_eval f.b0 f.b1, beq_dec, h, hl, hw]
/-! ### digits -/
/-- the digit at place k of r / b -/
def dg (b r : Int) (k : Nat) : Int := r * 10 ^ k % b * 10 / b
def dgs (b r : Int) (i n : Nat) : List Int := (List.range' i n).map (dg b r)
theorem u_digits (env : En) (S : Sto) : b_digits_of_L0 env S = (sSeq (sApp 3 (eOp opFdiv (eOp opMul (eVar 2) (eC (.int 10))) (eOp opIx (eVar 0) (eC (.int 1)))))
  (sSet 2 (eOp opMod (eOp opMul (eVar 2) (eC (.int 10))) (eOp opIx (eVar 0) (eC (.int 1)))))) env S := rfl
theorem dig_loop {b r : Int} (a : Int) (hb : 0 < b) (hs : s64 b) (z1 : Sl) (S : Sto) : ∀ (n i : Nat) (lo : Int) (acc : List W) (x : Sl), acc.length + n ≤ 1000 →
    ∃ y, loopL (bdN 4) b_digits_of_L0 (rgW lo n) [.val (fr a b), z1, .val (.int (r * 10 ^ i % b)), .own acc, x] S = .nx [.val (fr a b), z1, .val (.int (r * 10 ^ (i + n) % b)), .own (acc ++ (dgs b r i n).map W.int), y] S := by
  intro n
  induction n with
  | zero =>
    intro i lo acc x _
    refine ⟨x, ?_⟩
    have e : rgW lo 0 = [] := rfl
    rw [e, p_loop0]
    simp [dgs]
  | succ n ih =>
    intro i lo acc x hl
    have g1 : ∀ x : Int, gMul x 10 := fun x => .inr (.inl (by decide))
    have k2 : sml b := sml_of (by omega) (by have := hs.2; omega)
    have hlen : acc.length < 1000000 := by omega
    have e1 : r * 10 ^ i % b * 10 % b = r * 10 ^ (i + 1) % b := by
      rw [Int.pow_succ, ← Int.mul_assoc, Int.mul_emod (r * 10 ^ i) 10 b, Int.mul_emod (r * 10 ^ i % b) 10 b, Int.emod_emod_of_dvd _ (Int.dvd_refl b)]
    obtain ⟨y, hy⟩ := ih (i + 1) (lo + 1) (acc ++ [.int (dg b r i)]) (.val (.int lo)) (by rw [List.length_append]; simp only [List.length_cons, List.length_nil]; omega)
    refine ⟨y, ?_⟩
    have e2 : (dgs b r i (n + 1)).map W.int = .int (dg b r i) :: (dgs b r (i + 1) n).map W.int := by
      unfold dgs
      rw [List.range'_succ]
      rfl
    rw [rgW_succ, p_loopN, e2]
    have e3 : b_digits_of_L0 (([.val (fr a b), z1, .val (.int (r * 10 ^ i % b)), .own acc, x] : En).set 4 (.val (.int lo))) S = .nx [.val (fr a b), z1, .val (.int (r * 10 ^ (i + 1) % b)), .own (acc ++ [.int (dg b r i)]), .val (.int lo)] S := by
      rw [u_digits]
      simp only [p_bind, b_ok, b_exn, b_bad, b_ite, s_ok, s_exn, s_bad, s_ite, q_nx, q_rt, q_exn, q_bad, q_ite, f_nx, f_rt, f_exn, f_bad, f_ite, i_ok, i_rt, i_int, i_bl, i_tt, i_ff, p_ret, p_eC, p_eVar, p_eOp, p_eUn, p_aNil, p_aCons, p_eCall, p_isB, p_tV, p_tNot, p_tAnd, p_tOr, p_eAnd, p_eOr, p_eNot, p_eIf, p_eTup, p_eLst, p_eChain, p_sBind, p_sSeq, p_sPass, p_sRet, p_sRetN, p_sDrop, p_sSet, p_sIf, p_sRaise, p_sAug, p_sUnp, p_sPar, p_sFor, p_bdN, p_bdT, p_body, p_add, p_addS, p_addT, p_addL, p_addI, p_sub, p_mul, p_mulI, p_mulS, p_fdiv, p_mod, p_pow, p_lt, p_le, p_gt, p_ge, p_isN, p_isB2, p_isnN, p_isnB2, p_neg, p_ixT, p_ixL, p_ixO, p_ofS, p_abs, p_max2, p_lenT, p_lenL, p_lenO, p_eq, p_ne, p_isI, p_iLst, p_iTup, p_iRg1, p_iRg2, p_eNewS, p_eComp, p_inB, p_in, p_nin, p_sSto, List.map_cons, List.map_nil, List.cons_append, List.nil_append, List.append_nil, List.set_cons_zero, List.set_cons_succ, List.getElem?_cons_zero, List.getElem?_cons_succ, List.getElem?_nil, List.length_cons, List.length_nil, List.zip_cons_cons, List.zip_nil_left, List.zip_nil_right, List.foldl_cons, List.foldl_nil, List.replicate, Nat.sub_self, Nat.reduceSub, Nat.reduceAdd, Nat.reduceLeDiff, Nat.reduceLT, Nat.zero_add, Int.reduceLT, Int.reduceLE, Int.reduceNeg, Int.reduceSub, Int.reduceAdd, Int.reduceMul, Int.reduceBEq, Bool.or_true, Bool.true_or, Bool.or_false, Bool.false_or, if_true, if_false, ite_true, ite_false, reduceIte, Bool.not_true, Bool.not_false, Bool.true_and, Bool.and_true, Bool.false_and, Bool.and_false, decide_true, decide_false, Bool.false_eq_true, eq_self, reduceCtorEq, true_and, and_true, and_self, sh, shs, dat, dats, ev_int, ev_str, ev_bl, ev_tup, ev_lst, ev_nil, ev_cons, ev_nc, ev_cn, ev_nn, ev_ni, ev_in, at0, at1, at2, at3, cst0, cst1, cst2, cst3, cst4, cst7, cst9, nO_nil, nO_cons, kl_nil, kl_cons, p_eSl, p_oNone, p_oSome, p_oI, p_slL, p_eLenSet, p_sOwn, p_sFrz, z_own, z_val, z_no, p_sApp, a_own, p_eOix, x_own, x_int, beq_self_eq_true, g1, k2, hb, hlen, e1]
      rfl
    rw [e3, l_nx, hy, List.append_assoc]
    have e4 : i + 1 + n = i + (n + 1) := by omega
    rw [e4]
    rfl
/-- the rest that a fraction begins with -/
def r0 (a b : Int) : Int := (if a < 0 then -a else a) % b
theorem digits_eval {a b m : Int} (f : Fr a b) (S : Sto) (m0 : 0 ≤ m) (m1 : m ≤ 200) : m_digits_of [fr a b, .int m] S = .ok (.lst ((dgs b (r0 a b) 0 m.toNat).map W.int)) S := by
  have b0 := f.b0
  have hb : 0 < b := by omega
  have h0 : 0 ≤ r0 a b := Int.emod_nonneg _ (by omega)
  have h1 : r0 a b < b := Int.emod_lt_of_pos _ hb
  obtain ⟨y, hy⟩ := dig_loop (b := b) (r := r0 a b) a hb f.s (.val (.int m)) S m.toNat 0 0 [] .no (by simp only [List.length_nil]; omega)
  rw [Int.pow_zero, Int.mul_one, Int.emod_eq_of_lt h0 h1, List.nil_append] at hy
  have e1 : decide (0 ≤ m) = true := decide_eq_true m0
  have e2 : decide (m ≤ 200) = true := decide_eq_true m1
  have s1 : smI m := by unfold smI; omega
  unfold r0 at hy ⊢
  simp only [m_digits_of, b_digits_of, p_bind, b_ok, b_exn, b_bad, b_ite, s_ok, s_exn, s_bad, s_ite, q_nx, q_rt, q_exn, q_bad, q_ite, f_nx, f_rt, f_exn, f_bad, f_ite, i_ok, i_rt, i_int, i_bl, i_tt, i_ff, p_ret, p_eC, p_eVar, p_eOp, p_eUn, p_aNil, p_aCons, p_eCall, p_isB, p_tV, p_tNot, p_tAnd, p_tOr, p_eAnd, p_eOr, p_eNot, p_eIf, p_eTup, p_eLst, p_eChain, p_sBind, p_sSeq, p_sPass, p_sRet, p_sRetN, p_sDrop, p_sSet, p_sIf, p_sRaise, p_sAug, p_sUnp, p_sPar, p_sFor, p_bdN, p_bdT, p_body, p_add, p_addS, p_addT, p_addL, p_addI, p_sub, p_mul, p_mulI, p_mulS, p_fdiv, p_mod, p_pow, p_lt, p_le, p_gt, p_ge, p_isN, p_isB2, p_isnN, p_isnB2, p_neg, p_ixT, p_ixL, p_ixO, p_ofS, p_abs, p_max2, p_lenT, p_lenL, p_lenO, p_eq, p_ne, p_isI, p_iLst, p_iTup, p_iRg1, p_iRg2, p_eNewS, p_eComp, p_inB, p_in, p_nin, p_sSto, List.map_cons, List.map_nil, List.cons_append, List.nil_append, List.append_nil, List.set_cons_zero, List.set_cons_succ, List.getElem?_cons_zero, List.getElem?_cons_succ, List.getElem?_nil, List.length_cons, List.length_nil, List.zip_cons_cons, List.zip_nil_left, List.zip_nil_right, List.foldl_cons, List.foldl_nil, List.replicate, Nat.sub_self, Nat.reduceSub, Nat.reduceAdd, Nat.reduceLeDiff, Nat.reduceLT, Nat.zero_add, Int.reduceLT, Int.reduceLE, Int.reduceNeg, Int.reduceSub, Int.reduceAdd, Int.reduceMul, Int.reduceBEq, Bool.or_true, Bool.true_or, Bool.or_false, Bool.false_or, if_true, if_false, ite_true, ite_false, reduceIte, Bool.not_true, Bool.not_false, Bool.true_and, Bool.and_true, Bool.false_and, Bool.and_false, decide_true, decide_false, Bool.false_eq_true, eq_self, reduceCtorEq, true_and, and_true, and_self, sh, shs, dat, dats, ev_int, ev_str, ev_bl, ev_tup, ev_lst, ev_nil, ev_cons, ev_nc, ev_cn, ev_nn, ev_ni, ev_in, at0, at1, at2, at3, cst0, cst1, cst2, cst3, cst4, cst7, cst9, nO_nil, nO_cons, kl_nil, kl_cons, p_eSl, p_oNone, p_oSome, p_oI, p_slL, p_eLenSet, p_sOwn, p_sFrz, z_own, z_val, z_no, p_sApp, a_own, p_eOix, x_own, x_int, beq_self_eq_true, check_fraction_eval f, is_int_eval, e1, e2, s1, hb, hy]
theorem dgs_len (b r : Int) (i n : Nat) : (dgs b r i n).length = n := by unfold dgs; simp
theorem dgs_get {b r : Int} {i n k : Nat} (h : k < n) : (dgs b r i n)[k]? = some (dg b r (i + k)) := by
  unfold dgs
  rw [List.getElem?_map, List.getElem?_range' h]
  simp
theorem dgs_drop (b r : Int) (i n k : Nat) : (dgs b r i n).drop k = dgs b r (i + k) (n - k) := by
  unfold dgs
  rw [← List.map_drop, List.drop_range']
  simp
theorem dgs_app (b r : Int) (i m n : Nat) : dgs b r i (m + n) = dgs b r i m ++ dgs b r (i + m) n := by
  unfold dgs
  rw [← List.map_append, List.range'_append_1]
theorem dgs_take (b r : Int) (i n k : Nat) (h : k ≤ n) : (dgs b r i n).take k = dgs b r i k := by
  obtain ⟨m, rfl⟩ : ∃ m, n = k + m := ⟨n - k, by omega⟩
  rw [dgs_app, List.take_append_of_le_length (by rw [dgs_len]; exact Nat.le_refl _), List.take_of_length_le (by rw [dgs_len]; exact Nat.le_refl _)]
/-! ### slices of lists -/
theorem cut_from {α : Type} (xs : List α) {i : Int} (h0 : 0 ≤ i) : cutW xs (some i) none = xs.drop i.toNat := by
  unfold cutW
  show (xs.drop (if i < 0 then (i + (xs.length : Int)).toNat else min i.toNat xs.length)).take (xs.length - (if i < 0 then (i + (xs.length : Int)).toNat else min i.toNat xs.length)) = _
  rw [if_neg (by omega)]
  rw [List.take_of_length_le (by rw [List.length_drop]; exact Nat.le_refl _)]
  by_cases h : i.toNat ≤ xs.length
  · rw [Nat.min_eq_left h]
  · rw [Nat.min_eq_right (by omega), List.drop_eq_nil_of_le (Nat.le_refl _), List.drop_eq_nil_of_le (by omega)]
theorem cut_to {α : Type} (xs : List α) {i : Int} (h0 : 0 ≤ i) : cutW xs none (some i) = xs.take i.toNat := by
  unfold cutW
  show (xs.drop 0).take ((if i < 0 then (i + (xs.length : Int)).toNat else min i.toNat xs.length) - 0) = _
  rw [if_neg (by omega), List.drop_zero, Nat.sub_zero]
  by_cases h : i.toNat ≤ xs.length
  · rw [Nat.min_eq_left h]
  · rw [Nat.min_eq_right (by omega), List.take_of_length_le (Nat.le_refl _), List.take_of_length_le (by omega)]
theorem cut_mid {α : Type} (xs : List α) {i j : Int} (h0 : 0 ≤ i) (h1 : i ≤ j) (h2 : j ≤ xs.length) : cutW xs (some i) (some j) = (xs.drop i.toNat).take (j.toNat - i.toNat) := by
  unfold cutW
  show (xs.drop (if i < 0 then (i + (xs.length : Int)).toNat else min i.toNat xs.length)).take ((if j < 0 then (j + (xs.length : Int)).toNat else min j.toNat xs.length) - (if i < 0 then (i + (xs.length : Int)).toNat else min i.toNat xs.length)) = _
  rw [if_neg (by omega), if_neg (by omega), Nat.min_eq_left (by omega), Nat.min_eq_left (by omega)]
theorem cut_map {α β : Type} (f : α → β) (xs : List α) (lo hi : Option Int) : cutW (xs.map f) lo hi = (cutW xs lo hi).map f := by
  unfold cutW
  rw [List.length_map, ← List.map_drop, ← List.map_take]
theorem p_sum {S : Sto} (ns : List Int) : cSum [.lst (ns.map W.int)] S = .ok (.int ns.sum) S := by
  unfold cSum
  simp only [toInts_map]
/-! ### the digits come again -/
theorem rest_again {b : Int} (p : Per b) (r : Int) {k : Nat} (h : (pb b).toNat ≤ k) : r * 10 ^ (k + (plen b).toNat) % b = r * 10 ^ k % b := by
  obtain ⟨m, rfl⟩ : ∃ m, k = (pb b).toNat + m := ⟨k - (pb b).toNat, by omega⟩
  have e : r * 10 ^ ((pb b).toNat + m + (plen b).toNat) = r * 10 ^ ((pb b).toNat + m) + (r * 10 ^ m) * (10 ^ (pb b).toNat * (10 ^ (plen b).toNat - 1)) := by
    rw [Int.pow_add, Int.pow_add, Int.mul_sub, Int.mul_sub, Int.mul_one]
    have e1 : r * (10 ^ (pb b).toNat * 10 ^ m * 10 ^ (plen b).toNat) = r * 10 ^ m * (10 ^ (pb b).toNat * 10 ^ (plen b).toNat) := by ac_rfl
    have e2 : r * (10 ^ (pb b).toNat * 10 ^ m) = r * 10 ^ m * 10 ^ (pb b).toNat := by ac_rfl
    rw [e1, e2]
    omega
  rw [e]
  obtain ⟨c, hc⟩ := Int.dvd_trans p.d (Int.dvd_mul_left (r * 10 ^ m) (10 ^ (pb b).toNat * (10 ^ (plen b).toNat - 1)))
  rw [hc, Int.add_mul_emod_self_left]
theorem dg_again {b : Int} (p : Per b) (r : Int) {k : Nat} (h : (pb b).toNat ≤ k) : dg b r (k + (plen b).toNat) = dg b r k := by
  unfold dg
  rw [rest_again p r h]
theorem rest_end {b : Int} (p : Per b) (hl : pl b = 1) (r : Int) {k : Nat} (h : (pb b).toNat ≤ k) : r * 10 ^ k % b = 0 := by
  obtain ⟨m, rfl⟩ : ∃ m, k = (pb b).toNat + m := ⟨k - (pb b).toNat, by omega⟩
  rw [Int.pow_add]
  apply Int.emod_eq_zero_of_dvd
  exact Int.dvd_trans (p.e hl) (Int.dvd_trans (Int.dvd_mul_right _ _) (Int.dvd_mul_left _ _))
theorem dg_end {b : Int} (p : Per b) (hl : pl b = 1) (r : Int) {k : Nat} (h : (pb b).toNat ≤ k) : dg b r k = 0 := by
  unfold dg
  rw [rest_end p hl r h, Int.zero_mul, Int.zero_ediv]
theorem dg_turns {b : Int} (p : Per b) (r : Int) {k : Nat} (h : (pb b).toNat ≤ k) : ∀ q : Nat, dg b r (k + q * (plen b).toNat) = dg b r k
  | 0 => by rw [Nat.zero_mul, Nat.add_zero]
  | q + 1 => by
    rw [Nat.succ_mul, ← Nat.add_assoc, dg_again p r (by omega), dg_turns p r h q]
theorem dg_mod {b : Int} (p : Per b) (r : Int) {k : Nat} (h : (pb b).toNat ≤ k) : dg b r ((pb b).toNat + (k - (pb b).toNat) % (plen b).toNat) = dg b r k := by
  have e := dg_turns p r (k := (pb b).toNat + (k - (pb b).toNat) % (plen b).toNat) (by omega) ((k - (pb b).toNat) / (plen b).toNat)
  rw [← e]
  congr 1
  have := Nat.mod_add_div (k - (pb b).toNat) (plen b).toNat
  rw [Nat.mul_comm] at this
  omega
theorem dgs_again {b : Int} (p : Per b) (r : Int) {i : Nat} (h : (pb b).toNat ≤ i) (n : Nat) : dgs b r (i + (plen b).toNat) n = dgs b r i n := by
  apply List.ext_getElem?
  intro k
  by_cases hk : k < n
  · rw [dgs_get hk, dgs_get hk, show i + (plen b).toNat + k = i + k + (plen b).toNat by omega, dg_again p r (by omega)]
  · rw [List.getElem?_eq_none (by rw [dgs_len]; omega), List.getElem?_eq_none (by rw [dgs_len]; omega)]
theorem sum_turns {b : Int} (p : Per b) (r : Int) (t : Nat) : ∀ q : Nat, (dgs b r (pb b).toNat (q * (plen b).toNat + t)).sum = q * (dgs b r (pb b).toNat (plen b).toNat).sum + (dgs b r (pb b).toNat t).sum
  | 0 => by rw [Nat.zero_mul, Nat.zero_add]; simp
  | q + 1 => by
    rw [show (q + 1) * (plen b).toNat + t = (plen b).toNat + (q * (plen b).toNat + t) by rw [Nat.succ_mul]; omega, dgs_app, List.sum_append, dgs_again p r (Nat.le_refl _), sum_turns p r t q]
    rw [show (((q + 1 : Nat) : Int)) = (q : Int) + 1 from rfl, Int.add_mul, Int.one_mul]
    omega
theorem sum_end {b : Int} (p : Per b) (hl : pl b = 1) (r : Int) {i : Nat} (h : (pb b).toNat ≤ i) : ∀ n : Nat, (dgs b r i n).sum = 0
  | 0 => rfl
  | n + 1 => by
    rw [dgs_app, List.sum_append, sum_end p hl r h n]
    show 0 + (dg b r (i + n) + 0) = 0
    rw [dg_end p hl r (by omega)]
    rfl
/-! ### the functions -/
theorem pdigits_eval {a b : Int} (f : Fr a b) (S : Sto) : m_period_digits [fr a b] S = .ok (.lst ((dgs b (r0 a b) (pb b).toNat (plen b).toNat).map W.int)) S := by
  have p := per f.b0 f.b1
  have := p.p0
  have := p.p1
  have := p.l0
  have := p.l1
  have e1 := digits_eval f (m := pb b + plen b) S (by omega) (by omega)
  have e2 := cut_from ((dgs b (r0 a b) 0 (pb b + plen b).toNat)) (i := pb b) p.p0
  rw [dgs_drop, Nat.zero_add, show (pb b + plen b).toNat - (pb b).toNat = (plen b).toNat by omega] at e2
  simp only [m_period_digits, b_period_digits, p_bind, b_ok, b_exn, b_bad, b_ite, s_ok, s_exn, s_bad, s_ite, q_nx, q_rt, q_exn, q_bad, q_ite, f_nx, f_rt, f_exn, f_bad, f_ite, i_ok, i_rt, i_int, i_bl, i_tt, i_ff, p_ret, p_eC, p_eVar, p_eOp, p_eUn, p_aNil, p_aCons, p_eCall, p_isB, p_tV, p_tNot, p_tAnd, p_tOr, p_eAnd, p_eOr, p_eNot, p_eIf, p_eTup, p_eLst, p_eChain, p_sBind, p_sSeq, p_sPass, p_sRet, p_sRetN, p_sDrop, p_sSet, p_sIf, p_sRaise, p_sAug, p_sUnp, p_sPar, p_sFor, p_bdN, p_bdT, p_body, p_add, p_addS, p_addT, p_addL, p_addI, p_sub, p_mul, p_mulI, p_mulS, p_fdiv, p_mod, p_pow, p_lt, p_le, p_gt, p_ge, p_isN, p_isB2, p_isnN, p_isnB2, p_neg, p_ixT, p_ixL, p_ixO, p_ofS, p_abs, p_max2, p_lenT, p_lenL, p_lenO, p_eq, p_ne, p_isI, p_iLst, p_iTup, p_iRg1, p_iRg2, p_eNewS, p_eComp, p_inB, p_in, p_nin, p_sSto, List.map_cons, List.map_nil, List.cons_append, List.nil_append, List.append_nil, List.set_cons_zero, List.set_cons_succ, List.getElem?_cons_zero, List.getElem?_cons_succ, List.getElem?_nil, List.length_cons, List.length_nil, List.zip_cons_cons, List.zip_nil_left, List.zip_nil_right, List.foldl_cons, List.foldl_nil, List.replicate, Nat.sub_self, Nat.reduceSub, Nat.reduceAdd, Nat.reduceLeDiff, Nat.reduceLT, Nat.zero_add, Int.reduceLT, Int.reduceLE, Int.reduceNeg, Int.reduceSub, Int.reduceAdd, Int.reduceMul, Int.reduceBEq, Bool.or_true, Bool.true_or, Bool.or_false, Bool.false_or, if_true, if_false, ite_true, ite_false, reduceIte, Bool.not_true, Bool.not_false, Bool.true_and, Bool.and_true, Bool.false_and, Bool.and_false, decide_true, decide_false, Bool.false_eq_true, eq_self, reduceCtorEq, true_and, and_true, and_self, sh, shs, dat, dats, ev_int, ev_str, ev_bl, ev_tup, ev_lst, ev_nil, ev_cons, ev_nc, ev_cn, ev_nn, ev_ni, ev_in, at0, at1, at2, at3, cst0, cst1, cst2, cst3, cst4, cst7, cst9, nO_nil, nO_cons, kl_nil, kl_cons, p_eSl, p_oNone, p_oSome, p_oI, p_slL, p_eLenSet, p_sOwn, p_sFrz, z_own, z_val, z_no, p_sApp, a_own, p_eOix, x_own, x_int, beq_self_eq_true, check_fraction_eval f, period_eval f, e1, cut_map, e2]
theorem at_dgs {b r : Int} {n k : Int} (h0 : 0 ≤ k) (h1 : k < n) : L2.atI ((dgs b r 0 n.toNat).map W.int) k = some (.int (dg b r k.toNat)) := by
  obtain ⟨m, rfl⟩ := Int.eq_ofNat_of_zero_le h0
  refine at_get ?_
  rw [List.getElem?_map, dgs_get (by omega)]
  simp
theorem digit_at_eval {a b m : Int} (f : Fr a b) (S : Sto) (m0 : 0 ≤ m) (m1 : m ≤ 100000) : m_digit_at [fr a b, .int m] S = .ok (.int (dg b (r0 a b) m.toNat)) S := by
  have p := per f.b0 f.b1
  have p0 := p.p0
  have p1 := p.p1
  have l0 := p.l0
  have l1 := p.l1
  have e1 : decide (0 ≤ m) = true := decide_eq_true m0
  have e2 : decide (m ≤ 100000) = true := decide_eq_true m1
  by_cases h : pb b + plen b ≤ m
  · by_cases hz : plen b = 0
    · have hl := p.z.mp hz
      have e3 : ¬ 0 < plen b := by omega
      have e4 : pb b ≤ m := by omega
      have e5 := dg_end p hl (r0 a b) (k := m.toNat) (by omega)
      rw [e5]
      simp only [m_digit_at, b_digit_at, p_bind, b_ok, b_exn, b_bad, b_ite, s_ok, s_exn, s_bad, s_ite, q_nx, q_rt, q_exn, q_bad, q_ite, f_nx, f_rt, f_exn, f_bad, f_ite, i_ok, i_rt, i_int, i_bl, i_tt, i_ff, p_ret, p_eC, p_eVar, p_eOp, p_eUn, p_aNil, p_aCons, p_eCall, p_isB, p_tV, p_tNot, p_tAnd, p_tOr, p_eAnd, p_eOr, p_eNot, p_eIf, p_eTup, p_eLst, p_eChain, p_sBind, p_sSeq, p_sPass, p_sRet, p_sRetN, p_sDrop, p_sSet, p_sIf, p_sRaise, p_sAug, p_sUnp, p_sPar, p_sFor, p_bdN, p_bdT, p_body, p_add, p_addS, p_addT, p_addL, p_addI, p_sub, p_mul, p_mulI, p_mulS, p_fdiv, p_mod, p_pow, p_lt, p_le, p_gt, p_ge, p_isN, p_isB2, p_isnN, p_isnB2, p_neg, p_ixT, p_ixL, p_ixO, p_ofS, p_abs, p_max2, p_lenT, p_lenL, p_lenO, p_eq, p_ne, p_isI, p_iLst, p_iTup, p_iRg1, p_iRg2, p_eNewS, p_eComp, p_inB, p_in, p_nin, p_sSto, List.map_cons, List.map_nil, List.cons_append, List.nil_append, List.append_nil, List.set_cons_zero, List.set_cons_succ, List.getElem?_cons_zero, List.getElem?_cons_succ, List.getElem?_nil, List.length_cons, List.length_nil, List.zip_cons_cons, List.zip_nil_left, List.zip_nil_right, List.foldl_cons, List.foldl_nil, List.replicate, Nat.sub_self, Nat.reduceSub, Nat.reduceAdd, Nat.reduceLeDiff, Nat.reduceLT, Nat.zero_add, Int.reduceLT, Int.reduceLE, Int.reduceNeg, Int.reduceSub, Int.reduceAdd, Int.reduceMul, Int.reduceBEq, Bool.or_true, Bool.true_or, Bool.or_false, Bool.false_or, if_true, if_false, ite_true, ite_false, reduceIte, Bool.not_true, Bool.not_false, Bool.true_and, Bool.and_true, Bool.false_and, Bool.and_false, decide_true, decide_false, Bool.false_eq_true, eq_self, reduceCtorEq, true_and, and_true, and_self, sh, shs, dat, dats, ev_int, ev_str, ev_bl, ev_tup, ev_lst, ev_nil, ev_cons, ev_nc, ev_cn, ev_nn, ev_ni, ev_in, at0, at1, at2, at3, cst0, cst1, cst2, cst3, cst4, cst7, cst9, nO_nil, nO_cons, kl_nil, kl_cons, p_eSl, p_oNone, p_oSome, p_oI, p_slL, p_eLenSet, p_sOwn, p_sFrz, z_own, z_val, z_no, p_sApp, a_own, p_eOix, x_own, x_int, beq_self_eq_true, check_fraction_eval f, is_int_eval, e1, e2, period_eval f, h, e3, e4, hz, Int.add_zero]
    · have e3 : 0 < plen b := by omega
      have q0 := Int.emod_nonneg (m - pb b) hz
      have q1 := Int.emod_lt_of_pos (m - pb b) e3
      have e4 := digits_eval f (m := pb b + (m - pb b) % plen b + 1) S (by omega) (by omega)
      have e5 := at_dgs (b := b) (r := r0 a b) (n := pb b + (m - pb b) % plen b + 1) (k := pb b + (m - pb b) % plen b) (by omega) (by omega)
      have e6 : (pb b + (m - pb b) % plen b).toNat = (pb b).toNat + (m.toNat - (pb b).toNat) % (plen b).toNat := by
        have : (((m.toNat - (pb b).toNat) % (plen b).toNat : Nat) : Int) = (m - pb b) % plen b := by
          rw [Int.natCast_emod]
          congr 1 <;> omega
        omega
      rw [e6, dg_mod p (r0 a b) (by omega)] at e5
      have e7 : (plen b == 0) = false := by simp [hz]
      simp only [m_digit_at, b_digit_at, p_bind, b_ok, b_exn, b_bad, b_ite, s_ok, s_exn, s_bad, s_ite, q_nx, q_rt, q_exn, q_bad, q_ite, f_nx, f_rt, f_exn, f_bad, f_ite, i_ok, i_rt, i_int, i_bl, i_tt, i_ff, p_ret, p_eC, p_eVar, p_eOp, p_eUn, p_aNil, p_aCons, p_eCall, p_isB, p_tV, p_tNot, p_tAnd, p_tOr, p_eAnd, p_eOr, p_eNot, p_eIf, p_eTup, p_eLst, p_eChain, p_sBind, p_sSeq, p_sPass, p_sRet, p_sRetN, p_sDrop, p_sSet, p_sIf, p_sRaise, p_sAug, p_sUnp, p_sPar, p_sFor, p_bdN, p_bdT, p_body, p_add, p_addS, p_addT, p_addL, p_addI, p_sub, p_mul, p_mulI, p_mulS, p_fdiv, p_mod, p_pow, p_lt, p_le, p_gt, p_ge, p_isN, p_isB2, p_isnN, p_isnB2, p_neg, p_ixT, p_ixL, p_ixO, p_ofS, p_abs, p_max2, p_lenT, p_lenL, p_lenO, p_eq, p_ne, p_isI, p_iLst, p_iTup, p_iRg1, p_iRg2, p_eNewS, p_eComp, p_inB, p_in, p_nin, p_sSto, List.map_cons, List.map_nil, List.cons_append, List.nil_append, List.append_nil, List.set_cons_zero, List.set_cons_succ, List.getElem?_cons_zero, List.getElem?_cons_succ, List.getElem?_nil, List.length_cons, List.length_nil, List.zip_cons_cons, List.zip_nil_left, List.zip_nil_right, List.foldl_cons, List.foldl_nil, List.replicate, Nat.sub_self, Nat.reduceSub, Nat.reduceAdd, Nat.reduceLeDiff, Nat.reduceLT, Nat.zero_add, Int.reduceLT, Int.reduceLE, Int.reduceNeg, Int.reduceSub, Int.reduceAdd, Int.reduceMul, Int.reduceBEq, Bool.or_true, Bool.true_or, Bool.or_false, Bool.false_or, if_true, if_false, ite_true, ite_false, reduceIte, Bool.not_true, Bool.not_false, Bool.true_and, Bool.and_true, Bool.false_and, Bool.and_false, decide_true, decide_false, Bool.false_eq_true, eq_self, reduceCtorEq, true_and, and_true, and_self, sh, shs, dat, dats, ev_int, ev_str, ev_bl, ev_tup, ev_lst, ev_nil, ev_cons, ev_nc, ev_cn, ev_nn, ev_ni, ev_in, at0, at1, at2, at3, cst0, cst1, cst2, cst3, cst4, cst7, cst9, nO_nil, nO_cons, kl_nil, kl_cons, p_eSl, p_oNone, p_oSome, p_oI, p_slL, p_eLenSet, p_sOwn, p_sFrz, z_own, z_val, z_no, p_sApp, a_own, p_eOix, x_own, x_int, beq_self_eq_true, check_fraction_eval f, is_int_eval, e1, e2, period_eval f, h, e3, e7, e4, e5]
  · have e4 := digits_eval f (m := m + 1) S (by omega) (by omega)
    have e5 := at_dgs (b := b) (r := r0 a b) (n := m + 1) (k := m) (by omega) (by omega)
    by_cases hz : plen b = 0
    · have e6 : ¬ pb b ≤ m := by omega
      simp only [m_digit_at, b_digit_at, p_bind, b_ok, b_exn, b_bad, b_ite, s_ok, s_exn, s_bad, s_ite, q_nx, q_rt, q_exn, q_bad, q_ite, f_nx, f_rt, f_exn, f_bad, f_ite, i_ok, i_rt, i_int, i_bl, i_tt, i_ff, p_ret, p_eC, p_eVar, p_eOp, p_eUn, p_aNil, p_aCons, p_eCall, p_isB, p_tV, p_tNot, p_tAnd, p_tOr, p_eAnd, p_eOr, p_eNot, p_eIf, p_eTup, p_eLst, p_eChain, p_sBind, p_sSeq, p_sPass, p_sRet, p_sRetN, p_sDrop, p_sSet, p_sIf, p_sRaise, p_sAug, p_sUnp, p_sPar, p_sFor, p_bdN, p_bdT, p_body, p_add, p_addS, p_addT, p_addL, p_addI, p_sub, p_mul, p_mulI, p_mulS, p_fdiv, p_mod, p_pow, p_lt, p_le, p_gt, p_ge, p_isN, p_isB2, p_isnN, p_isnB2, p_neg, p_ixT, p_ixL, p_ixO, p_ofS, p_abs, p_max2, p_lenT, p_lenL, p_lenO, p_eq, p_ne, p_isI, p_iLst, p_iTup, p_iRg1, p_iRg2, p_eNewS, p_eComp, p_inB, p_in, p_nin, p_sSto, List.map_cons, List.map_nil, List.cons_append, List.nil_append, List.append_nil, List.set_cons_zero, List.set_cons_succ, List.getElem?_cons_zero, List.getElem?_cons_succ, List.getElem?_nil, List.length_cons, List.length_nil, List.zip_cons_cons, List.zip_nil_left, List.zip_nil_right, List.foldl_cons, List.foldl_nil, List.replicate, Nat.sub_self, Nat.reduceSub, Nat.reduceAdd, Nat.reduceLeDiff, Nat.reduceLT, Nat.zero_add, Int.reduceLT, Int.reduceLE, Int.reduceNeg, Int.reduceSub, Int.reduceAdd, Int.reduceMul, Int.reduceBEq, Bool.or_true, Bool.true_or, Bool.or_false, Bool.false_or, if_true, if_false, ite_true, ite_false, reduceIte, Bool.not_true, Bool.not_false, Bool.true_and, Bool.and_true, Bool.false_and, Bool.and_false, decide_true, decide_false, Bool.false_eq_true, eq_self, reduceCtorEq, true_and, and_true, and_self, sh, shs, dat, dats, ev_int, ev_str, ev_bl, ev_tup, ev_lst, ev_nil, ev_cons, ev_nc, ev_cn, ev_nn, ev_ni, ev_in, at0, at1, at2, at3, cst0, cst1, cst2, cst3, cst4, cst7, cst9, nO_nil, nO_cons, kl_nil, kl_cons, p_eSl, p_oNone, p_oSome, p_oI, p_slL, p_eLenSet, p_sOwn, p_sFrz, z_own, z_val, z_no, p_sApp, a_own, p_eOix, x_own, x_int, beq_self_eq_true, check_fraction_eval f, is_int_eval, e1, e2, period_eval f, h, e6, hz, e4, e5, beq_self_eq_true, Int.add_zero, ite_self]
    · have e7 : (plen b == 0) = false := by simp [hz]
      simp only [m_digit_at, b_digit_at, p_bind, b_ok, b_exn, b_bad, b_ite, s_ok, s_exn, s_bad, s_ite, q_nx, q_rt, q_exn, q_bad, q_ite, f_nx, f_rt, f_exn, f_bad, f_ite, i_ok, i_rt, i_int, i_bl, i_tt, i_ff, p_ret, p_eC, p_eVar, p_eOp, p_eUn, p_aNil, p_aCons, p_eCall, p_isB, p_tV, p_tNot, p_tAnd, p_tOr, p_eAnd, p_eOr, p_eNot, p_eIf, p_eTup, p_eLst, p_eChain, p_sBind, p_sSeq, p_sPass, p_sRet, p_sRetN, p_sDrop, p_sSet, p_sIf, p_sRaise, p_sAug, p_sUnp, p_sPar, p_sFor, p_bdN, p_bdT, p_body, p_add, p_addS, p_addT, p_addL, p_addI, p_sub, p_mul, p_mulI, p_mulS, p_fdiv, p_mod, p_pow, p_lt, p_le, p_gt, p_ge, p_isN, p_isB2, p_isnN, p_isnB2, p_neg, p_ixT, p_ixL, p_ixO, p_ofS, p_abs, p_max2, p_lenT, p_lenL, p_lenO, p_eq, p_ne, p_isI, p_iLst, p_iTup, p_iRg1, p_iRg2, p_eNewS, p_eComp, p_inB, p_in, p_nin, p_sSto, List.map_cons, List.map_nil, List.cons_append, List.nil_append, List.append_nil, List.set_cons_zero, List.set_cons_succ, List.getElem?_cons_zero, List.getElem?_cons_succ, List.getElem?_nil, List.length_cons, List.length_nil, List.zip_cons_cons, List.zip_nil_left, List.zip_nil_right, List.foldl_cons, List.foldl_nil, List.replicate, Nat.sub_self, Nat.reduceSub, Nat.reduceAdd, Nat.reduceLeDiff, Nat.reduceLT, Nat.zero_add, Int.reduceLT, Int.reduceLE, Int.reduceNeg, Int.reduceSub, Int.reduceAdd, Int.reduceMul, Int.reduceBEq, Bool.or_true, Bool.true_or, Bool.or_false, Bool.false_or, if_true, if_false, ite_true, ite_false, reduceIte, Bool.not_true, Bool.not_false, Bool.true_and, Bool.and_true, Bool.false_and, Bool.and_false, decide_true, decide_false, Bool.false_eq_true, eq_self, reduceCtorEq, true_and, and_true, and_self, sh, shs, dat, dats, ev_int, ev_str, ev_bl, ev_tup, ev_lst, ev_nil, ev_cons, ev_nc, ev_cn, ev_nn, ev_ni, ev_in, at0, at1, at2, at3, cst0, cst1, cst2, cst3, cst4, cst7, cst9, nO_nil, nO_cons, kl_nil, kl_cons, p_eSl, p_oNone, p_oSome, p_oI, p_slL, p_eLenSet, p_sOwn, p_sFrz, z_own, z_val, z_no, p_sApp, a_own, p_eOix, x_own, x_int, beq_self_eq_true, check_fraction_eval f, is_int_eval, e1, e2, period_eval f, h, e7, e4, e5]
/-- the sum of the first digits -/
def ds (b r : Int) (m : Int) : Int := (dgs b r 0 m.toNat).sum
theorem digit_sum_eval {a b m : Int} (f : Fr a b) (S : Sto) (m0 : 0 ≤ m) (m1 : m ≤ 100000) : m_digit_sum [fr a b, .int m] S = .ok (.int (ds b (r0 a b) m)) S := by
  have p := per f.b0 f.b1
  have p0 := p.p0
  have p1 := p.p1
  have l0 := p.l0
  have l1 := p.l1
  have e1 : decide (0 ≤ m) = true := decide_eq_true m0
  have e2 : decide (m ≤ 100000) = true := decide_eq_true m1
  unfold ds
  by_cases h : m ≤ pb b + plen b
  · have e4 := digits_eval f (m := m) S (by omega) (by omega)
    simp only [m_digit_sum, b_digit_sum, p_bind, b_ok, b_exn, b_bad, b_ite, s_ok, s_exn, s_bad, s_ite, q_nx, q_rt, q_exn, q_bad, q_ite, f_nx, f_rt, f_exn, f_bad, f_ite, i_ok, i_rt, i_int, i_bl, i_tt, i_ff, p_ret, p_eC, p_eVar, p_eOp, p_eUn, p_aNil, p_aCons, p_eCall, p_isB, p_tV, p_tNot, p_tAnd, p_tOr, p_eAnd, p_eOr, p_eNot, p_eIf, p_eTup, p_eLst, p_eChain, p_sBind, p_sSeq, p_sPass, p_sRet, p_sRetN, p_sDrop, p_sSet, p_sIf, p_sRaise, p_sAug, p_sUnp, p_sPar, p_sFor, p_bdN, p_bdT, p_body, p_add, p_addS, p_addT, p_addL, p_addI, p_sub, p_mul, p_mulI, p_mulS, p_fdiv, p_mod, p_pow, p_lt, p_le, p_gt, p_ge, p_isN, p_isB2, p_isnN, p_isnB2, p_neg, p_ixT, p_ixL, p_ixO, p_ofS, p_abs, p_max2, p_lenT, p_lenL, p_lenO, p_eq, p_ne, p_isI, p_iLst, p_iTup, p_iRg1, p_iRg2, p_eNewS, p_eComp, p_inB, p_in, p_nin, p_sSto, List.map_cons, List.map_nil, List.cons_append, List.nil_append, List.append_nil, List.set_cons_zero, List.set_cons_succ, List.getElem?_cons_zero, List.getElem?_cons_succ, List.getElem?_nil, List.length_cons, List.length_nil, List.zip_cons_cons, List.zip_nil_left, List.zip_nil_right, List.foldl_cons, List.foldl_nil, List.replicate, Nat.sub_self, Nat.reduceSub, Nat.reduceAdd, Nat.reduceLeDiff, Nat.reduceLT, Nat.zero_add, Int.reduceLT, Int.reduceLE, Int.reduceNeg, Int.reduceSub, Int.reduceAdd, Int.reduceMul, Int.reduceBEq, Bool.or_true, Bool.true_or, Bool.or_false, Bool.false_or, if_true, if_false, ite_true, ite_false, reduceIte, Bool.not_true, Bool.not_false, Bool.true_and, Bool.and_true, Bool.false_and, Bool.and_false, decide_true, decide_false, Bool.false_eq_true, eq_self, reduceCtorEq, true_and, and_true, and_self, sh, shs, dat, dats, ev_int, ev_str, ev_bl, ev_tup, ev_lst, ev_nil, ev_cons, ev_nc, ev_cn, ev_nn, ev_ni, ev_in, at0, at1, at2, at3, cst0, cst1, cst2, cst3, cst4, cst7, cst9, nO_nil, nO_cons, kl_nil, kl_cons, p_eSl, p_oNone, p_oSome, p_oI, p_slL, p_eLenSet, p_sOwn, p_sFrz, z_own, z_val, z_no, p_sApp, a_own, p_eOix, x_own, x_int, beq_self_eq_true, check_fraction_eval f, is_int_eval, e1, e2, period_eval f, h, e4, p_sum]
  · have e4 := digits_eval f (m := pb b + plen b) S (by omega) (by omega)
    by_cases hz : plen b = 0
    · have hl := p.z.mp hz
      have e5 : (dgs b (r0 a b) 0 m.toNat).sum = (dgs b (r0 a b) 0 (pb b + 0).toNat).sum := by
        rw [show m.toNat = (pb b + 0).toNat + (m.toNat - (pb b).toNat) by omega, dgs_app, List.sum_append, sum_end p hl (r0 a b) (i := 0 + (pb b + 0).toNat) (by omega), Int.add_zero]
      rw [hz] at e4 h
      rw [e5]
      simp only [m_digit_sum, b_digit_sum, p_bind, b_ok, b_exn, b_bad, b_ite, s_ok, s_exn, s_bad, s_ite, q_nx, q_rt, q_exn, q_bad, q_ite, f_nx, f_rt, f_exn, f_bad, f_ite, i_ok, i_rt, i_int, i_bl, i_tt, i_ff, p_ret, p_eC, p_eVar, p_eOp, p_eUn, p_aNil, p_aCons, p_eCall, p_isB, p_tV, p_tNot, p_tAnd, p_tOr, p_eAnd, p_eOr, p_eNot, p_eIf, p_eTup, p_eLst, p_eChain, p_sBind, p_sSeq, p_sPass, p_sRet, p_sRetN, p_sDrop, p_sSet, p_sIf, p_sRaise, p_sAug, p_sUnp, p_sPar, p_sFor, p_bdN, p_bdT, p_body, p_add, p_addS, p_addT, p_addL, p_addI, p_sub, p_mul, p_mulI, p_mulS, p_fdiv, p_mod, p_pow, p_lt, p_le, p_gt, p_ge, p_isN, p_isB2, p_isnN, p_isnB2, p_neg, p_ixT, p_ixL, p_ixO, p_ofS, p_abs, p_max2, p_lenT, p_lenL, p_lenO, p_eq, p_ne, p_isI, p_iLst, p_iTup, p_iRg1, p_iRg2, p_eNewS, p_eComp, p_inB, p_in, p_nin, p_sSto, List.map_cons, List.map_nil, List.cons_append, List.nil_append, List.append_nil, List.set_cons_zero, List.set_cons_succ, List.getElem?_cons_zero, List.getElem?_cons_succ, List.getElem?_nil, List.length_cons, List.length_nil, List.zip_cons_cons, List.zip_nil_left, List.zip_nil_right, List.foldl_cons, List.foldl_nil, List.replicate, Nat.sub_self, Nat.reduceSub, Nat.reduceAdd, Nat.reduceLeDiff, Nat.reduceLT, Nat.zero_add, Int.reduceLT, Int.reduceLE, Int.reduceNeg, Int.reduceSub, Int.reduceAdd, Int.reduceMul, Int.reduceBEq, Bool.or_true, Bool.true_or, Bool.or_false, Bool.false_or, if_true, if_false, ite_true, ite_false, reduceIte, Bool.not_true, Bool.not_false, Bool.true_and, Bool.and_true, Bool.false_and, Bool.and_false, decide_true, decide_false, Bool.false_eq_true, eq_self, reduceCtorEq, true_and, and_true, and_self, sh, shs, dat, dats, ev_int, ev_str, ev_bl, ev_tup, ev_lst, ev_nil, ev_cons, ev_nc, ev_cn, ev_nn, ev_ni, ev_in, at0, at1, at2, at3, cst0, cst1, cst2, cst3, cst4, cst7, cst9, nO_nil, nO_cons, kl_nil, kl_cons, p_eSl, p_oNone, p_oSome, p_oI, p_slL, p_eLenSet, p_sOwn, p_sFrz, z_own, z_val, z_no, p_sApp, a_own, p_eOix, x_own, x_int, beq_self_eq_true, check_fraction_eval f, is_int_eval, e1, e2, period_eval f, hz, h, e4, p_sum, beq_self_eq_true]
    · have e3 : 0 < plen b := by omega
      have k2 : sml (plen b) := sml_of (by omega) (by omega)
      have e7 : (plen b == 0) = false := by simp [hz]
      have q0 := Int.emod_nonneg (m - pb b) hz
      have q1 := Int.emod_lt_of_pos (m - pb b) e3
      have c1 := cut_to (dgs b (r0 a b) 0 (pb b + plen b).toNat) (i := pb b) p0
      rw [dgs_take _ _ _ _ _ (by omega)] at c1
      have c2 := cut_from (dgs b (r0 a b) 0 (pb b + plen b).toNat) (i := pb b) p0
      rw [dgs_drop, Nat.zero_add, show (pb b + plen b).toNat - (pb b).toNat = (plen b).toNat by omega] at c2
      have c3 := cut_mid (dgs b (r0 a b) 0 (pb b + plen b).toNat) (i := pb b) (j := pb b + (m - pb b) % plen b) p0 (by omega) (by rw [dgs_len]; omega)
      rw [dgs_drop, Nat.zero_add, dgs_take _ _ _ _ _ (by omega)] at c3
      have hq : 0 ≤ (m - pb b) / plen b := Int.ediv_nonneg (by omega) l0
      obtain ⟨q, hq⟩ := Int.eq_ofNat_of_zero_le hq
      have hm := Int.mul_ediv_add_emod (m - pb b) (plen b)
      rw [hq] at hm
      have ht : (pb b + (m - pb b) % plen b).toNat - (pb b).toNat = ((m - pb b) % plen b).toNat := by omega
      rw [ht] at c3
      have hm2 : m.toNat = (pb b).toNat + (q * (plen b).toNat + ((m - pb b) % plen b).toNat) := by
        have e8 : ((q * (plen b).toNat : Nat) : Int) = plen b * q := by
          rw [Int.natCast_mul, Int.toNat_of_nonneg l0, Int.mul_comm]
        omega
      have e5 : (dgs b (r0 a b) 0 m.toNat).sum = (dgs b (r0 a b) 0 (pb b).toNat).sum + (q : Int) * (dgs b (r0 a b) (pb b).toNat (plen b).toNat).sum + (dgs b (r0 a b) (pb b).toNat ((m - pb b) % plen b).toNat).sum := by
        rw [hm2, dgs_app, List.sum_append, Nat.zero_add, sum_turns p (r0 a b) _ q, Int.add_assoc]
      have g1 : s64 ((m - pb b) / plen b) := by
        have : (m - pb b) / plen b ≤ m - pb b := Int.ediv_le_self _ (by omega)
        unfold s64
        omega
      have g2 : ∀ x, gMul ((m - pb b) / plen b) x := fun x => .inl g1
      rw [e5, ← hq]
      simp only [m_digit_sum, b_digit_sum, p_bind, b_ok, b_exn, b_bad, b_ite, s_ok, s_exn, s_bad, s_ite, q_nx, q_rt, q_exn, q_bad, q_ite, f_nx, f_rt, f_exn, f_bad, f_ite, i_ok, i_rt, i_int, i_bl, i_tt, i_ff, p_ret, p_eC, p_eVar, p_eOp, p_eUn, p_aNil, p_aCons, p_eCall, p_isB, p_tV, p_tNot, p_tAnd, p_tOr, p_eAnd, p_eOr, p_eNot, p_eIf, p_eTup, p_eLst, p_eChain, p_sBind, p_sSeq, p_sPass, p_sRet, p_sRetN, p_sDrop, p_sSet, p_sIf, p_sRaise, p_sAug, p_sUnp, p_sPar, p_sFor, p_bdN, p_bdT, p_body, p_add, p_addS, p_addT, p_addL, p_addI, p_sub, p_mul, p_mulI, p_mulS, p_fdiv, p_mod, p_pow, p_lt, p_le, p_gt, p_ge, p_isN, p_isB2, p_isnN, p_isnB2, p_neg, p_ixT, p_ixL, p_ixO, p_ofS, p_abs, p_max2, p_lenT, p_lenL, p_lenO, p_eq, p_ne, p_isI, p_iLst, p_iTup, p_iRg1, p_iRg2, p_eNewS, p_eComp, p_inB, p_in, p_nin, p_sSto, List.map_cons, List.map_nil, List.cons_append, List.nil_append, List.append_nil, List.set_cons_zero, List.set_cons_succ, List.getElem?_cons_zero, List.getElem?_cons_succ, List.getElem?_nil, List.length_cons, List.length_nil, List.zip_cons_cons, List.zip_nil_left, List.zip_nil_right, List.foldl_cons, List.foldl_nil, List.replicate, Nat.sub_self, Nat.reduceSub, Nat.reduceAdd, Nat.reduceLeDiff, Nat.reduceLT, Nat.zero_add, Int.reduceLT, Int.reduceLE, Int.reduceNeg, Int.reduceSub, Int.reduceAdd, Int.reduceMul, Int.reduceBEq, Bool.or_true, Bool.true_or, Bool.or_false, Bool.false_or, if_true, if_false, ite_true, ite_false, reduceIte, Bool.not_true, Bool.not_false, Bool.true_and, Bool.and_true, Bool.false_and, Bool.and_false, decide_true, decide_false, Bool.false_eq_true, eq_self, reduceCtorEq, true_and, and_true, and_self, sh, shs, dat, dats, ev_int, ev_str, ev_bl, ev_tup, ev_lst, ev_nil, ev_cons, ev_nc, ev_cn, ev_nn, ev_ni, ev_in, at0, at1, at2, at3, cst0, cst1, cst2, cst3, cst4, cst7, cst9, nO_nil, nO_cons, kl_nil, kl_cons, p_eSl, p_oNone, p_oSome, p_oI, p_slL, p_eLenSet, p_sOwn, p_sFrz, z_own, z_val, z_no, p_sApp, a_own, p_eOix, x_own, x_int, beq_self_eq_true, check_fraction_eval f, is_int_eval, e1, e2, period_eval f, h, e7, e3, e4, k2, g2, cut_map, c1, c2, c3, p_sum]
end Pu
end
section
namespace Pu
open PySem Zz Mir
/-! ### opposites -/
theorem neg_dm (n : Int) {b : Int} (hb : 0 < b) : (n % b = 0 ∧ (-n) / b = -(n / b) ∧ (-n) % b = 0) ∨ (n % b ≠ 0 ∧ (-n) / b = -(n / b) - 1 ∧ (-n) % b = b - n % b) := by
  have hdm := Int.mul_ediv_add_emod n b
  have m0 := Int.emod_nonneg n (by omega : b ≠ 0)
  have m1 := Int.emod_lt_of_pos n hb
  by_cases h : n % b = 0
  · left
    exact ⟨h, (Int.ediv_emod_unique (a := -n) (b := b) (q := -(n / b)) (r := 0) hb).mpr ⟨by rw [Int.mul_neg]; omega, by omega, hb⟩⟩
  · right
    exact ⟨h, (Int.ediv_emod_unique (a := -n) (b := b) (q := -(n / b) - 1) (r := b - n % b) hb).mpr ⟨by rw [Int.mul_sub, Int.mul_neg]; omega, by omega, by omega⟩⟩
def mr : Ru → Ru
  | .down => .up
  | .up => .down
  | r => r
theorem uo_neg (r : Ru) (hr : r ≠ .nup) (n : Int) {b : Int} (hb : 0 < b) : uo (mr r) (-n) b = -(uo r n b) := by
  have m0 := Int.emod_nonneg n (by omega : b ≠ 0)
  have m1 := Int.emod_lt_of_pos n hb
  have hz : n % b ≠ 0 → n ≠ 0 := fun h e => h (by rw [e, Int.zero_emod])
  unfold uo
  rcases neg_dm n hb with ⟨h1, h2, h3⟩ | ⟨h1, h2, h3⟩
  · cases r <;> simp only [mr, h1, h2, h3, true_or, if_true]
  · have hz := hz h1
    have h4 : ¬ (b - n % b = 0) := by omega
    cases r <;> first | exact absurd rfl hr | (simp only [mr, h1, h2, h3, h4, reduceCtorEq, false_or, or_true, or_false, if_true, if_false] <;> (repeat' split) <;> omega)
theorem uo_nup_neg (n : Int) {b : Int} (hb : 0 < b) : uo .nup (-n) b = if 2 * (n % b) = b then -(uo .down n b) else -(uo .nup n b) := by
  have m0 := Int.emod_nonneg n (by omega : b ≠ 0)
  have m1 := Int.emod_lt_of_pos n hb
  unfold uo
  rcases neg_dm n hb with ⟨h1, h2, h3⟩ | ⟨h1, h2, h3⟩
  · have h4 : ¬ ((2 : Int) * 0 = b) := by omega
    simp only [h1, h2, h3, h4, true_or, if_true, if_false]
  · have h4 : ¬ (b - n % b = 0) := by omega
    simp only [h1, h2, h3, h4, reduceCtorEq, false_or, or_true, or_false, if_true, if_false]
    (repeat' split) <;> omega
theorem uo_nup_mid (n : Int) {b : Int} (hb : 0 < b) (h : 2 * (n % b) = b) : uo .nup n b = uo .up n b := by
  unfold uo
  have h1 : ¬ (n % b = 0) := by omega
  simp only [h1, h, reduceCtorEq, false_or, or_false, if_true, if_false, ne_eq, not_true_eq_false]
theorem uo_key (r : Ru) (n : Int) {b : Int} : uo r n b = n / b ∨ (uo r n b = n / b + 1 ∧ n % b ≠ 0) := by
  unfold uo
  by_cases h : n % b = 0
  · left; simp only [h, true_or, if_true]
  · simp only [h, false_or]
    (repeat' split) <;> first | exact .inl rfl | exact .inr ⟨rfl, h⟩
theorem uo_dn (n b : Int) : uo .down n b = n / b := by unfold uo; simp
theorem uo_up (n b : Int) : uo .up n b = if n % b = 0 then n / b else n / b + 1 := by
  unfold uo
  by_cases h : n % b = 0 <;> simp [h]
theorem uo_between (r : Ru) (n : Int) {b : Int} : uo .down n b ≤ uo r n b ∧ uo r n b ≤ uo .up n b ∧ uo .up n b - uo .down n b ≤ 1 := by
  rw [uo_dn, uo_up]
  rcases uo_key r n (b := b) with h | ⟨h, h2⟩
  · rw [h]; split <;> omega
  · rw [h, if_neg h2]; omega
theorem neg_mod (n : Int) {b : Int} (hb : 0 < b) : ((-n) % b = 0 ↔ n % b = 0) ∧ (2 * ((-n) % b) = b ↔ 2 * (n % b) = b) := by
  rcases neg_dm n hb with ⟨h1, h2, h3⟩ | ⟨h1, h2, h3⟩
  · rw [h3, h1]; exact ⟨Iff.rfl, Iff.rfl⟩
  · have m0 := Int.emod_nonneg n (by omega : b ≠ 0)
    have m1 := Int.emod_lt_of_pos n hb
    rw [h3]; omega
theorem Fr.neg {a b : Int} (f : Fr a b) : Fr (-a) b := ⟨f.b0, f.b1, by have := f.hi; omega, by have := f.lo; omega, by rw [Int.neg_gcd]; exact f.g⟩
theorem Fr.shift {a b : Int} (f : Fr a b) (h : a ≤ 99 * b) : Fr (a + b) b := by
  have b0 := f.b0
  have lo := f.lo
  refine ⟨f.b0, f.b1, by omega, by omega, ?_⟩
  rw [Int.gcd_add_self_left]
  exact f.g
/-! ### one more -/
theorem uo_shift (r : Ru) (n P : Int) {b : Int} (hb : 0 < b) (h : r = .down ∨ r = .up ∨ r = .nup ∨ (r = .neven ∧ P % 2 = 0)) : uo r (n + b * P) b = uo r n b + P := by
  have e1 : (n + b * P) / b = n / b + P := Int.add_mul_ediv_left _ _ (by omega)
  have e2 : (n + b * P) % b = n % b := Int.add_mul_emod_self_left ..
  unfold uo
  rw [e1, e2]
  rcases h with h | h | h | ⟨h, h2⟩ <;> subst h <;> simp only [reduceCtorEq, false_or, or_true, or_false, if_true, if_false] <;> (repeat' split) <;> omega
theorem r0_neg (a b : Int) : r0 (-a) b = r0 a b := by
  unfold r0
  congr 1
  split <;> split <;> omega
theorem r0_shift {a b : Int} (h : 0 ≤ a) (hb : 0 < b) : r0 (a + b) b = r0 a b := by
  unfold r0
  rw [if_neg (by omega), if_neg (by omega), Int.add_emod_right]
theorem in3b_flat (r : Ru) : (flatW (.str (nm r)) && [W.str "zero", W.str "near-zero", W.str "near-away"].all flatW) = true := by
  cases r <;> rfl
theorem in3b_isin (r : Ru) : isin (.str (nm r)) [W.str "zero", W.str "near-zero", W.str "near-away"] = (decide (r = .zero) || (decide (r = .nzero) || decide (r = .naway))) := by
  cases r <;> rfl
def tailA : SM := (sSeq (sIf (Zz.tOr (tV (eOp opNe (eCall m_is_exact (aCons (eVar 5) (aCons (eVar 3) aNil))) (eCall m_is_exact (aCons (eVar 1) (aCons (eVar 3) aNil))))) (tV (eOp opNe (eCall m_is_middle (aCons (eVar 5) (aCons (eVar 3) aNil))) (eCall m_is_middle (aCons (eVar 1) (aCons (eVar 3) aNil))))))
  (sRet (eC (.bl false)))
  sPass)
  (sIf (Zz.tAnd (tV (eOp opGe (eOp opIx (eVar 1) (eC (.int 0))) (eC (.int 0)))) (Zz.tOr (tV (eOp opNe (eCall m_period (aCons (eVar 5) aNil)) (eCall m_period (aCons (eVar 1) aNil)))) (tV (eOp opNe (eCall m_digits_of (aCons (eVar 5) (aCons (eC (.int 20)) aNil))) (eCall m_digits_of (aCons (eVar 1) (aCons (eC (.int 20)) aNil)))))))
  (sRet (eC (.bl false)))
  sPass))
def shiftA : SM := (sSeq (sSet 5 (eTup (aCons (eOp opAdd (eOp opIx (eVar 1) (eC (.int 0))) (eOp opIx (eVar 1) (eC (.int 1)))) (aCons (eOp opIx (eVar 1) (eC (.int 1))) aNil))))
  (sSeq (sIf (Zz.tAnd (tV (eOp opNin (eVar 4) (eTup (aCons (eC (.str "zero")) (aCons (eC (.str "near-zero")) (aCons (eC (.str "near-away")) aNil)))))) (Zz.tNot (Zz.tAnd (tV (eOp opEq (eVar 4) (eC (.str "near-even")))) (tV (eOp opEq (eVar 3) (eC (.int 0)))))))
  (sIf (tV (eOp opNe (eCall m_rounded (aCons (eVar 5) (aCons (eVar 3) (aCons (eVar 4) aNil)))) (eOp opAdd (eCall m_rounded (aCons (eVar 1) (aCons (eVar 3) (aCons (eVar 4) aNil)))) (eCall m__law_ten (aCons (eVar 3) aNil)))))
  (sRet (eC (.bl false)))
  sPass)
  sPass)
  tailA))
def shiftB : SM := (sRet (eAnd (eOp opEq (eCall m_period (aCons (eVar 2) aNil)) (eCall m_period (aCons (eVar 1) aNil))) (eAnd (eOp opEq (eCall m_period_digits (aCons (eVar 2) aNil)) (eCall m_period_digits (aCons (eVar 1) aNil))) (eOp opEq (eCall m_digits_needed (aCons (eVar 2) aNil)) (eCall m_digits_needed (aCons (eVar 1) aNil))))))
theorem shifted_eq : b__law_shifted = (sSeq (sIf (tV (eOp opLe (eCall cAbs (aCons (eOp opIx (eVar 1) (eC (.int 0))) aNil)) (eOp opMul (eC (.int 99)) (eOp opIx (eVar 1) (eC (.int 1)))))) shiftA sPass) shiftB) := rfl
theorem shiftB_eval {a b : Int} (f : Fr a b) (z0 z3 z4 z5 : Sl) (S : Sto) : shiftB [z0, .val (fr a b), .val (fr (-a) b), z3, z4, z5] S = .rt (.bl true) S := by
  have e1 := pdigits_eval f S
  have e2 := pdigits_eval f.neg S
  have e3 := needed_eval f S
  have e4 := needed_eval f.neg S
  rw [r0_neg] at e2
  have k1 := shs_ints 7 (dgs b (r0 a b) (pb b).toNat (plen b).toNat)
  have k2 := eqvs_refl ((dgs b (r0 a b) (pb b).toNat (plen b).toNat).map W.int)
  generalize (dgs b (r0 a b) (pb b).toNat (plen b).toNat).map W.int = l at *
  unfold shiftB
  by_cases h : pl b = 1
  · rw [if_pos h] at e3 e4
    simp only [p_bind, b_ok, b_exn, b_bad, b_ite, s_ok, s_exn, s_bad, s_ite, q_nx, q_rt, q_exn, q_bad, q_ite, f_nx, f_rt, f_exn, f_bad, f_ite, i_ok, i_rt, i_int, i_bl, i_tt, i_ff, p_ret, p_eC, p_eVar, p_eOp, p_eUn, p_aNil, p_aCons, p_eCall, p_isB, p_tV, p_tNot, p_tAnd, p_tOr, p_eAnd, p_eOr, p_eNot, p_eIf, p_eTup, p_eLst, p_eChain, p_sBind, p_sSeq, p_sPass, p_sRet, p_sRetN, p_sDrop, p_sSet, p_sIf, p_sRaise, p_sAug, p_sUnp, p_sPar, p_sFor, p_bdN, p_bdT, p_body, p_add, p_addS, p_addT, p_addL, p_addI, p_sub, p_mul, p_mulI, p_mulS, p_fdiv, p_mod, p_pow, p_lt, p_le, p_gt, p_ge, p_isN, p_isB2, p_isnN, p_isnB2, p_neg, p_ixT, p_ixL, p_ixO, p_ofS, p_abs, p_max2, p_lenT, p_lenL, p_lenO, p_eq, p_ne, p_isI, p_iLst, p_iTup, p_iRg1, p_iRg2, p_eNewS, p_eComp, p_inB, p_in, p_nin, p_sSto, List.map_cons, List.map_nil, List.cons_append, List.nil_append, List.append_nil, List.set_cons_zero, List.set_cons_succ, List.getElem?_cons_zero, List.getElem?_cons_succ, List.getElem?_nil, List.length_cons, List.length_nil, List.zip_cons_cons, List.zip_nil_left, List.zip_nil_right, List.foldl_cons, List.foldl_nil, List.replicate, Nat.sub_self, Nat.reduceSub, Nat.reduceAdd, Nat.reduceLeDiff, Nat.reduceLT, Nat.zero_add, Int.reduceLT, Int.reduceLE, Int.reduceNeg, Int.reduceSub, Int.reduceAdd, Int.reduceMul, Int.reduceBEq, Bool.or_true, Bool.true_or, Bool.or_false, Bool.false_or, if_true, if_false, ite_true, ite_false, reduceIte, Bool.not_true, Bool.not_false, Bool.true_and, Bool.and_true, Bool.false_and, Bool.and_false, decide_true, decide_false, Bool.false_eq_true, eq_self, reduceCtorEq, true_and, and_true, and_self, sh, shs, dat, dats, ev_int, ev_str, ev_bl, ev_tup, ev_lst, ev_nil, ev_cons, ev_nc, ev_cn, ev_nn, ev_ni, ev_in, at0, at1, at2, at3, cst0, cst1, cst2, cst3, cst4, cst7, cst9, period_eval f, period_eval f.neg, e1, e2, e3, e4, k1, k2, beq_self_eq_true]
  · rw [if_neg h] at e3 e4
    simp only [p_bind, b_ok, b_exn, b_bad, b_ite, s_ok, s_exn, s_bad, s_ite, q_nx, q_rt, q_exn, q_bad, q_ite, f_nx, f_rt, f_exn, f_bad, f_ite, i_ok, i_rt, i_int, i_bl, i_tt, i_ff, p_ret, p_eC, p_eVar, p_eOp, p_eUn, p_aNil, p_aCons, p_eCall, p_isB, p_tV, p_tNot, p_tAnd, p_tOr, p_eAnd, p_eOr, p_eNot, p_eIf, p_eTup, p_eLst, p_eChain, p_sBind, p_sSeq, p_sPass, p_sRet, p_sRetN, p_sDrop, p_sSet, p_sIf, p_sRaise, p_sAug, p_sUnp, p_sPar, p_sFor, p_bdN, p_bdT, p_body, p_add, p_addS, p_addT, p_addL, p_addI, p_sub, p_mul, p_mulI, p_mulS, p_fdiv, p_mod, p_pow, p_lt, p_le, p_gt, p_ge, p_isN, p_isB2, p_isnN, p_isnB2, p_neg, p_ixT, p_ixL, p_ixO, p_ofS, p_abs, p_max2, p_lenT, p_lenL, p_lenO, p_eq, p_ne, p_isI, p_iLst, p_iTup, p_iRg1, p_iRg2, p_eNewS, p_eComp, p_inB, p_in, p_nin, p_sSto, List.map_cons, List.map_nil, List.cons_append, List.nil_append, List.append_nil, List.set_cons_zero, List.set_cons_succ, List.getElem?_cons_zero, List.getElem?_cons_succ, List.getElem?_nil, List.length_cons, List.length_nil, List.zip_cons_cons, List.zip_nil_left, List.zip_nil_right, List.foldl_cons, List.foldl_nil, List.replicate, Nat.sub_self, Nat.reduceSub, Nat.reduceAdd, Nat.reduceLeDiff, Nat.reduceLT, Nat.zero_add, Int.reduceLT, Int.reduceLE, Int.reduceNeg, Int.reduceSub, Int.reduceAdd, Int.reduceMul, Int.reduceBEq, Bool.or_true, Bool.true_or, Bool.or_false, Bool.false_or, if_true, if_false, ite_true, ite_false, reduceIte, Bool.not_true, Bool.not_false, Bool.true_and, Bool.and_true, Bool.false_and, Bool.and_false, decide_true, decide_false, Bool.false_eq_true, eq_self, reduceCtorEq, true_and, and_true, and_self, sh, shs, dat, dats, ev_int, ev_str, ev_bl, ev_tup, ev_lst, ev_nil, ev_cons, ev_nc, ev_cn, ev_nn, ev_ni, ev_in, at0, at1, at2, at3, cst0, cst1, cst2, cst3, cst4, cst7, cst9, period_eval f, period_eval f.neg, e1, e2, e3, e4, k1, k2, beq_self_eq_true]
theorem shiftA_eval {a b d : Int} (r : Ru) (f : Fr a b) (h : a ≤ 99 * b) (d0 : 0 ≤ d) (d6 : d ≤ 6) (z0 z2 z5 : Sl) (S : Sto) : ∃ y5, shiftA [z0, .val (fr a b), z2, .val (.int d), .val (.str (nm r)), z5] S = .nx [z0, .val (fr a b), z2, .val (.int d), .val (.str (nm r)), y5] S := by
  have f2 := f.shift h
  have b0 := f.b0
  have hb : 0 < b := by omega
  have en : (a + b) * pw d = a * pw d + b * pw d := Int.add_mul ..
  have em : (a + b) * pw d % b = a * pw d % b := by rw [en, Int.add_mul_emod_self_left]
  have e1 := rounded_eval r f S d0 d6
  have e2 := rounded_eval r f2 S d0 d6
  have e3 := exact_eval f S d0 d6
  have e4 := exact_eval f2 S d0 d6
  have e5 := middle_eval f S d0 d6
  have e6 := middle_eval f2 S d0 d6
  have e7 := ten_eval d S d0 d6
  rw [em] at e4 e6
  have e8 := digits_eval f (m := 20) S (by decide) (by decide)
  have e9 := digits_eval f2 (m := 20) S (by decide) (by decide)
  have k1 := shs_ints 7 (dgs b (r0 a b) 0 (20 : Int).toNat)
  have k2 := eqvs_refl ((dgs b (r0 a b) 0 (20 : Int).toNat).map W.int)
  have hex : (decide (a * pw d % b = 0) == decide (a * pw d % b = 0)) = true := beq_self_eq_true _
  refine ⟨.val (fr (a + b) b), ?_⟩
  have tail : tailA [z0, .val (fr a b), z2, .val (.int d), .val (.str (nm r)), .val (fr (a + b) b)] S = .nx [z0, .val (fr a b), z2, .val (.int d), .val (.str (nm r)), .val (fr (a + b) b)] S := by
    unfold tailA
    by_cases ha : 0 ≤ a
    · rw [r0_shift ha hb] at e9
      generalize (dgs b (r0 a b) 0 (20 : Int).toNat).map W.int = l at *
      simp only [p_bind, b_ok, b_exn, b_bad, b_ite, s_ok, s_exn, s_bad, s_ite, q_nx, q_rt, q_exn, q_bad, q_ite, f_nx, f_rt, f_exn, f_bad, f_ite, i_ok, i_rt, i_int, i_bl, i_tt, i_ff, p_ret, p_eC, p_eVar, p_eOp, p_eUn, p_aNil, p_aCons, p_eCall, p_isB, p_tV, p_tNot, p_tAnd, p_tOr, p_eAnd, p_eOr, p_eNot, p_eIf, p_eTup, p_eLst, p_eChain, p_sBind, p_sSeq, p_sPass, p_sRet, p_sRetN, p_sDrop, p_sSet, p_sIf, p_sRaise, p_sAug, p_sUnp, p_sPar, p_sFor, p_bdN, p_bdT, p_body, p_add, p_addS, p_addT, p_addL, p_addI, p_sub, p_mul, p_mulI, p_mulS, p_fdiv, p_mod, p_pow, p_lt, p_le, p_gt, p_ge, p_isN, p_isB2, p_isnN, p_isnB2, p_neg, p_ixT, p_ixL, p_ixO, p_ofS, p_abs, p_max2, p_lenT, p_lenL, p_lenO, p_eq, p_ne, p_isI, p_iLst, p_iTup, p_iRg1, p_iRg2, p_eNewS, p_eComp, p_inB, p_in, p_nin, p_sSto, List.map_cons, List.map_nil, List.cons_append, List.nil_append, List.append_nil, List.set_cons_zero, List.set_cons_succ, List.getElem?_cons_zero, List.getElem?_cons_succ, List.getElem?_nil, List.length_cons, List.length_nil, List.zip_cons_cons, List.zip_nil_left, List.zip_nil_right, List.foldl_cons, List.foldl_nil, List.replicate, Nat.sub_self, Nat.reduceSub, Nat.reduceAdd, Nat.reduceLeDiff, Nat.reduceLT, Nat.zero_add, Int.reduceLT, Int.reduceLE, Int.reduceNeg, Int.reduceSub, Int.reduceAdd, Int.reduceMul, Int.reduceBEq, Bool.or_true, Bool.true_or, Bool.or_false, Bool.false_or, if_true, if_false, ite_true, ite_false, reduceIte, Bool.not_true, Bool.not_false, Bool.true_and, Bool.and_true, Bool.false_and, Bool.and_false, decide_true, decide_false, Bool.false_eq_true, eq_self, reduceCtorEq, true_and, and_true, and_self, sh, shs, dat, dats, ev_int, ev_str, ev_bl, ev_tup, ev_lst, ev_nil, ev_cons, ev_nc, ev_cn, ev_nn, ev_ni, ev_in, at0, at1, at2, at3, cst0, cst1, cst2, cst3, cst4, cst7, cst9, e3, e4, e5, e6, period_eval f, period_eval f2, e8, e9, k1, k2, ha, beq_self_eq_true, PyData.eqv]
    · simp only [p_bind, b_ok, b_exn, b_bad, b_ite, s_ok, s_exn, s_bad, s_ite, q_nx, q_rt, q_exn, q_bad, q_ite, f_nx, f_rt, f_exn, f_bad, f_ite, i_ok, i_rt, i_int, i_bl, i_tt, i_ff, p_ret, p_eC, p_eVar, p_eOp, p_eUn, p_aNil, p_aCons, p_eCall, p_isB, p_tV, p_tNot, p_tAnd, p_tOr, p_eAnd, p_eOr, p_eNot, p_eIf, p_eTup, p_eLst, p_eChain, p_sBind, p_sSeq, p_sPass, p_sRet, p_sRetN, p_sDrop, p_sSet, p_sIf, p_sRaise, p_sAug, p_sUnp, p_sPar, p_sFor, p_bdN, p_bdT, p_body, p_add, p_addS, p_addT, p_addL, p_addI, p_sub, p_mul, p_mulI, p_mulS, p_fdiv, p_mod, p_pow, p_lt, p_le, p_gt, p_ge, p_isN, p_isB2, p_isnN, p_isnB2, p_neg, p_ixT, p_ixL, p_ixO, p_ofS, p_abs, p_max2, p_lenT, p_lenL, p_lenO, p_eq, p_ne, p_isI, p_iLst, p_iTup, p_iRg1, p_iRg2, p_eNewS, p_eComp, p_inB, p_in, p_nin, p_sSto, List.map_cons, List.map_nil, List.cons_append, List.nil_append, List.append_nil, List.set_cons_zero, List.set_cons_succ, List.getElem?_cons_zero, List.getElem?_cons_succ, List.getElem?_nil, List.length_cons, List.length_nil, List.zip_cons_cons, List.zip_nil_left, List.zip_nil_right, List.foldl_cons, List.foldl_nil, List.replicate, Nat.sub_self, Nat.reduceSub, Nat.reduceAdd, Nat.reduceLeDiff, Nat.reduceLT, Nat.zero_add, Int.reduceLT, Int.reduceLE, Int.reduceNeg, Int.reduceSub, Int.reduceAdd, Int.reduceMul, Int.reduceBEq, Bool.or_true, Bool.true_or, Bool.or_false, Bool.false_or, if_true, if_false, ite_true, ite_false, reduceIte, Bool.not_true, Bool.not_false, Bool.true_and, Bool.and_true, Bool.false_and, Bool.and_false, decide_true, decide_false, Bool.false_eq_true, eq_self, reduceCtorEq, true_and, and_true, and_self, sh, shs, dat, dats, ev_int, ev_str, ev_bl, ev_tup, ev_lst, ev_nil, ev_cons, ev_nc, ev_cn, ev_nn, ev_ni, ev_in, at0, at1, at2, at3, cst0, cst1, cst2, cst3, cst4, cst7, cst9, e3, e4, e5, e6, ha, beq_self_eq_true, PyData.eqv]
  have skip : (r = .zero ∨ r = .nzero ∨ r = .naway ∨ (r = .neven ∧ d = 0)) ∨ uo r ((a + b) * pw d) b = uo r (a * pw d) b + pw d := by
    by_cases hz : d = 0
    · cases r <;> first | exact .inl (.inl rfl) | exact .inl (.inr (.inl rfl)) | exact .inl (.inr (.inr (.inl rfl))) | exact .inl (.inr (.inr (.inr ⟨rfl, hz⟩))) | (right; rw [en]; exact uo_shift _ _ _ hb (by simp))
    · obtain ⟨m, hm⟩ := pw_even (k := d) (by omega)
      cases r <;> first | exact .inl (.inl rfl) | exact .inl (.inr (.inl rfl)) | exact .inl (.inr (.inr (.inl rfl))) | (right; rw [en]; exact uo_shift _ _ _ hb (by first | (simp; done) | exact .inr (.inr (.inr ⟨rfl, by omega⟩))))
  unfold shiftA
  rcases skip with h | h
  · rcases h with h | h | h | ⟨h, h2⟩ <;> subst h
    · simp only [p_bind, b_ok, b_exn, b_bad, b_ite, s_ok, s_exn, s_bad, s_ite, q_nx, q_rt, q_exn, q_bad, q_ite, f_nx, f_rt, f_exn, f_bad, f_ite, i_ok, i_rt, i_int, i_bl, i_tt, i_ff, p_ret, p_eC, p_eVar, p_eOp, p_eUn, p_aNil, p_aCons, p_eCall, p_isB, p_tV, p_tNot, p_tAnd, p_tOr, p_eAnd, p_eOr, p_eNot, p_eIf, p_eTup, p_eLst, p_eChain, p_sBind, p_sSeq, p_sPass, p_sRet, p_sRetN, p_sDrop, p_sSet, p_sIf, p_sRaise, p_sAug, p_sUnp, p_sPar, p_sFor, p_bdN, p_bdT, p_body, p_add, p_addS, p_addT, p_addL, p_addI, p_sub, p_mul, p_mulI, p_mulS, p_fdiv, p_mod, p_pow, p_lt, p_le, p_gt, p_ge, p_isN, p_isB2, p_isnN, p_isnB2, p_neg, p_ixT, p_ixL, p_ixO, p_ofS, p_abs, p_max2, p_lenT, p_lenL, p_lenO, p_eq, p_ne, p_isI, p_iLst, p_iTup, p_iRg1, p_iRg2, p_eNewS, p_eComp, p_inB, p_in, p_nin, p_sSto, List.map_cons, List.map_nil, List.cons_append, List.nil_append, List.append_nil, List.set_cons_zero, List.set_cons_succ, List.getElem?_cons_zero, List.getElem?_cons_succ, List.getElem?_nil, List.length_cons, List.length_nil, List.zip_cons_cons, List.zip_nil_left, List.zip_nil_right, List.foldl_cons, List.foldl_nil, List.replicate, Nat.sub_self, Nat.reduceSub, Nat.reduceAdd, Nat.reduceLeDiff, Nat.reduceLT, Nat.zero_add, Int.reduceLT, Int.reduceLE, Int.reduceNeg, Int.reduceSub, Int.reduceAdd, Int.reduceMul, Int.reduceBEq, Bool.or_true, Bool.true_or, Bool.or_false, Bool.false_or, if_true, if_false, ite_true, ite_false, reduceIte, Bool.not_true, Bool.not_false, Bool.true_and, Bool.and_true, Bool.false_and, Bool.and_false, decide_true, decide_false, Bool.false_eq_true, eq_self, reduceCtorEq, true_and, and_true, and_self, sh, shs, dat, dats, ev_int, ev_str, ev_bl, ev_tup, ev_lst, ev_nil, ev_cons, ev_nc, ev_cn, ev_nn, ev_ni, ev_in, at0, at1, at2, at3, cst0, cst1, cst2, cst3, cst4, cst7, cst9, in3b_flat, in3b_isin, nm_ok, so7, nm7, tail]
    · simp only [p_bind, b_ok, b_exn, b_bad, b_ite, s_ok, s_exn, s_bad, s_ite, q_nx, q_rt, q_exn, q_bad, q_ite, f_nx, f_rt, f_exn, f_bad, f_ite, i_ok, i_rt, i_int, i_bl, i_tt, i_ff, p_ret, p_eC, p_eVar, p_eOp, p_eUn, p_aNil, p_aCons, p_eCall, p_isB, p_tV, p_tNot, p_tAnd, p_tOr, p_eAnd, p_eOr, p_eNot, p_eIf, p_eTup, p_eLst, p_eChain, p_sBind, p_sSeq, p_sPass, p_sRet, p_sRetN, p_sDrop, p_sSet, p_sIf, p_sRaise, p_sAug, p_sUnp, p_sPar, p_sFor, p_bdN, p_bdT, p_body, p_add, p_addS, p_addT, p_addL, p_addI, p_sub, p_mul, p_mulI, p_mulS, p_fdiv, p_mod, p_pow, p_lt, p_le, p_gt, p_ge, p_isN, p_isB2, p_isnN, p_isnB2, p_neg, p_ixT, p_ixL, p_ixO, p_ofS, p_abs, p_max2, p_lenT, p_lenL, p_lenO, p_eq, p_ne, p_isI, p_iLst, p_iTup, p_iRg1, p_iRg2, p_eNewS, p_eComp, p_inB, p_in, p_nin, p_sSto, List.map_cons, List.map_nil, List.cons_append, List.nil_append, List.append_nil, List.set_cons_zero, List.set_cons_succ, List.getElem?_cons_zero, List.getElem?_cons_succ, List.getElem?_nil, List.length_cons, List.length_nil, List.zip_cons_cons, List.zip_nil_left, List.zip_nil_right, List.foldl_cons, List.foldl_nil, List.replicate, Nat.sub_self, Nat.reduceSub, Nat.reduceAdd, Nat.reduceLeDiff, Nat.reduceLT, Nat.zero_add, Int.reduceLT, Int.reduceLE, Int.reduceNeg, Int.reduceSub, Int.reduceAdd, Int.reduceMul, Int.reduceBEq, Bool.or_true, Bool.true_or, Bool.or_false, Bool.false_or, if_true, if_false, ite_true, ite_false, reduceIte, Bool.not_true, Bool.not_false, Bool.true_and, Bool.and_true, Bool.false_and, Bool.and_false, decide_true, decide_false, Bool.false_eq_true, eq_self, reduceCtorEq, true_and, and_true, and_self, sh, shs, dat, dats, ev_int, ev_str, ev_bl, ev_tup, ev_lst, ev_nil, ev_cons, ev_nc, ev_cn, ev_nn, ev_ni, ev_in, at0, at1, at2, at3, cst0, cst1, cst2, cst3, cst4, cst7, cst9, in3b_flat, in3b_isin, nm_ok, so7, nm7, tail]
    · simp only [p_bind, b_ok, b_exn, b_bad, b_ite, s_ok, s_exn, s_bad, s_ite, q_nx, q_rt, q_exn, q_bad, q_ite, f_nx, f_rt, f_exn, f_bad, f_ite, i_ok, i_rt, i_int, i_bl, i_tt, i_ff, p_ret, p_eC, p_eVar, p_eOp, p_eUn, p_aNil, p_aCons, p_eCall, p_isB, p_tV, p_tNot, p_tAnd, p_tOr, p_eAnd, p_eOr, p_eNot, p_eIf, p_eTup, p_eLst, p_eChain, p_sBind, p_sSeq, p_sPass, p_sRet, p_sRetN, p_sDrop, p_sSet, p_sIf, p_sRaise, p_sAug, p_sUnp, p_sPar, p_sFor, p_bdN, p_bdT, p_body, p_add, p_addS, p_addT, p_addL, p_addI, p_sub, p_mul, p_mulI, p_mulS, p_fdiv, p_mod, p_pow, p_lt, p_le, p_gt, p_ge, p_isN, p_isB2, p_isnN, p_isnB2, p_neg, p_ixT, p_ixL, p_ixO, p_ofS, p_abs, p_max2, p_lenT, p_lenL, p_lenO, p_eq, p_ne, p_isI, p_iLst, p_iTup, p_iRg1, p_iRg2, p_eNewS, p_eComp, p_inB, p_in, p_nin, p_sSto, List.map_cons, List.map_nil, List.cons_append, List.nil_append, List.append_nil, List.set_cons_zero, List.set_cons_succ, List.getElem?_cons_zero, List.getElem?_cons_succ, List.getElem?_nil, List.length_cons, List.length_nil, List.zip_cons_cons, List.zip_nil_left, List.zip_nil_right, List.foldl_cons, List.foldl_nil, List.replicate, Nat.sub_self, Nat.reduceSub, Nat.reduceAdd, Nat.reduceLeDiff, Nat.reduceLT, Nat.zero_add, Int.reduceLT, Int.reduceLE, Int.reduceNeg, Int.reduceSub, Int.reduceAdd, Int.reduceMul, Int.reduceBEq, Bool.or_true, Bool.true_or, Bool.or_false, Bool.false_or, if_true, if_false, ite_true, ite_false, reduceIte, Bool.not_true, Bool.not_false, Bool.true_and, Bool.and_true, Bool.false_and, Bool.and_false, decide_true, decide_false, Bool.false_eq_true, eq_self, reduceCtorEq, true_and, and_true, and_self, sh, shs, dat, dats, ev_int, ev_str, ev_bl, ev_tup, ev_lst, ev_nil, ev_cons, ev_nc, ev_cn, ev_nn, ev_ni, ev_in, at0, at1, at2, at3, cst0, cst1, cst2, cst3, cst4, cst7, cst9, in3b_flat, in3b_isin, nm_ok, so7, nm7, tail]
    · subst h2
      simp only [p_bind, b_ok, b_exn, b_bad, b_ite, s_ok, s_exn, s_bad, s_ite, q_nx, q_rt, q_exn, q_bad, q_ite, f_nx, f_rt, f_exn, f_bad, f_ite, i_ok, i_rt, i_int, i_bl, i_tt, i_ff, p_ret, p_eC, p_eVar, p_eOp, p_eUn, p_aNil, p_aCons, p_eCall, p_isB, p_tV, p_tNot, p_tAnd, p_tOr, p_eAnd, p_eOr, p_eNot, p_eIf, p_eTup, p_eLst, p_eChain, p_sBind, p_sSeq, p_sPass, p_sRet, p_sRetN, p_sDrop, p_sSet, p_sIf, p_sRaise, p_sAug, p_sUnp, p_sPar, p_sFor, p_bdN, p_bdT, p_body, p_add, p_addS, p_addT, p_addL, p_addI, p_sub, p_mul, p_mulI, p_mulS, p_fdiv, p_mod, p_pow, p_lt, p_le, p_gt, p_ge, p_isN, p_isB2, p_isnN, p_isnB2, p_neg, p_ixT, p_ixL, p_ixO, p_ofS, p_abs, p_max2, p_lenT, p_lenL, p_lenO, p_eq, p_ne, p_isI, p_iLst, p_iTup, p_iRg1, p_iRg2, p_eNewS, p_eComp, p_inB, p_in, p_nin, p_sSto, List.map_cons, List.map_nil, List.cons_append, List.nil_append, List.append_nil, List.set_cons_zero, List.set_cons_succ, List.getElem?_cons_zero, List.getElem?_cons_succ, List.getElem?_nil, List.length_cons, List.length_nil, List.zip_cons_cons, List.zip_nil_left, List.zip_nil_right, List.foldl_cons, List.foldl_nil, List.replicate, Nat.sub_self, Nat.reduceSub, Nat.reduceAdd, Nat.reduceLeDiff, Nat.reduceLT, Nat.zero_add, Int.reduceLT, Int.reduceLE, Int.reduceNeg, Int.reduceSub, Int.reduceAdd, Int.reduceMul, Int.reduceBEq, Bool.or_true, Bool.true_or, Bool.or_false, Bool.false_or, if_true, if_false, ite_true, ite_false, reduceIte, Bool.not_true, Bool.not_false, Bool.true_and, Bool.and_true, Bool.false_and, Bool.and_false, decide_true, decide_false, Bool.false_eq_true, eq_self, reduceCtorEq, true_and, and_true, and_self, sh, shs, dat, dats, ev_int, ev_str, ev_bl, ev_tup, ev_lst, ev_nil, ev_cons, ev_nc, ev_cn, ev_nn, ev_ni, ev_in, at0, at1, at2, at3, cst0, cst1, cst2, cst3, cst4, cst7, cst9, in3b_flat, in3b_isin, nm_ok, so7, nm7, tail, beq_self_eq_true]
  · simp only [p_bind, b_ok, b_exn, b_bad, b_ite, s_ok, s_exn, s_bad, s_ite, q_nx, q_rt, q_exn, q_bad, q_ite, f_nx, f_rt, f_exn, f_bad, f_ite, i_ok, i_rt, i_int, i_bl, i_tt, i_ff, p_ret, p_eC, p_eVar, p_eOp, p_eUn, p_aNil, p_aCons, p_eCall, p_isB, p_tV, p_tNot, p_tAnd, p_tOr, p_eAnd, p_eOr, p_eNot, p_eIf, p_eTup, p_eLst, p_eChain, p_sBind, p_sSeq, p_sPass, p_sRet, p_sRetN, p_sDrop, p_sSet, p_sIf, p_sRaise, p_sAug, p_sUnp, p_sPar, p_sFor, p_bdN, p_bdT, p_body, p_add, p_addS, p_addT, p_addL, p_addI, p_sub, p_mul, p_mulI, p_mulS, p_fdiv, p_mod, p_pow, p_lt, p_le, p_gt, p_ge, p_isN, p_isB2, p_isnN, p_isnB2, p_neg, p_ixT, p_ixL, p_ixO, p_ofS, p_abs, p_max2, p_lenT, p_lenL, p_lenO, p_eq, p_ne, p_isI, p_iLst, p_iTup, p_iRg1, p_iRg2, p_eNewS, p_eComp, p_inB, p_in, p_nin, p_sSto, List.map_cons, List.map_nil, List.cons_append, List.nil_append, List.append_nil, List.set_cons_zero, List.set_cons_succ, List.getElem?_cons_zero, List.getElem?_cons_succ, List.getElem?_nil, List.length_cons, List.length_nil, List.zip_cons_cons, List.zip_nil_left, List.zip_nil_right, List.foldl_cons, List.foldl_nil, List.replicate, Nat.sub_self, Nat.reduceSub, Nat.reduceAdd, Nat.reduceLeDiff, Nat.reduceLT, Nat.zero_add, Int.reduceLT, Int.reduceLE, Int.reduceNeg, Int.reduceSub, Int.reduceAdd, Int.reduceMul, Int.reduceBEq, Bool.or_true, Bool.true_or, Bool.or_false, Bool.false_or, if_true, if_false, ite_true, ite_false, reduceIte, Bool.not_true, Bool.not_false, Bool.true_and, Bool.and_true, Bool.false_and, Bool.and_false, decide_true, decide_false, Bool.false_eq_true, eq_self, reduceCtorEq, true_and, and_true, and_self, sh, shs, dat, dats, ev_int, ev_str, ev_bl, ev_tup, ev_lst, ev_nil, ev_cons, ev_nc, ev_cn, ev_nn, ev_ni, ev_in, at0, at1, at2, at3, cst0, cst1, cst2, cst3, cst4, cst7, cst9, p_nin, in3b_flat, in3b_isin, nm_ok, so7, nm7, tail, e1, e2, e7, h, beq_self_eq_true]
    simp
theorem shifted_eval {a b d : Int} (r : Ru) (f : Fr a b) (d0 : 0 ≤ d) (d6 : d ≤ 6) (S : Sto) : m__law_shifted [.obj 1, fr a b, fr (-a) b, .int d, .str (nm r)] S = .ok (.bl true) S := by
  have b0 := f.b0
  have hb : 0 < b := by omega
  have g1 : ∀ x : Int, gMul 99 x := fun x => .inl (by decide)
  by_cases h : (if a < 0 then -a else a) ≤ 99 * b
  · obtain ⟨y5, e1⟩ := shiftA_eval r f (by split at h <;> omega) d0 d6 (.val (.obj 1)) (.val (fr (-a) b)) .no S
    simp only [m__law_shifted, shifted_eq, p_bind, b_ok, b_exn, b_bad, b_ite, s_ok, s_exn, s_bad, s_ite, q_nx, q_rt, q_exn, q_bad, q_ite, f_nx, f_rt, f_exn, f_bad, f_ite, i_ok, i_rt, i_int, i_bl, i_tt, i_ff, p_ret, p_eC, p_eVar, p_eOp, p_eUn, p_aNil, p_aCons, p_eCall, p_isB, p_tV, p_tNot, p_tAnd, p_tOr, p_eAnd, p_eOr, p_eNot, p_eIf, p_eTup, p_eLst, p_eChain, p_sBind, p_sSeq, p_sPass, p_sRet, p_sRetN, p_sDrop, p_sSet, p_sIf, p_sRaise, p_sAug, p_sUnp, p_sPar, p_sFor, p_bdN, p_bdT, p_body, p_add, p_addS, p_addT, p_addL, p_addI, p_sub, p_mul, p_mulI, p_mulS, p_fdiv, p_mod, p_pow, p_lt, p_le, p_gt, p_ge, p_isN, p_isB2, p_isnN, p_isnB2, p_neg, p_ixT, p_ixL, p_ixO, p_ofS, p_abs, p_max2, p_lenT, p_lenL, p_lenO, p_eq, p_ne, p_isI, p_iLst, p_iTup, p_iRg1, p_iRg2, p_eNewS, p_eComp, p_inB, p_in, p_nin, p_sSto, List.map_cons, List.map_nil, List.cons_append, List.nil_append, List.append_nil, List.set_cons_zero, List.set_cons_succ, List.getElem?_cons_zero, List.getElem?_cons_succ, List.getElem?_nil, List.length_cons, List.length_nil, List.zip_cons_cons, List.zip_nil_left, List.zip_nil_right, List.foldl_cons, List.foldl_nil, List.replicate, Nat.sub_self, Nat.reduceSub, Nat.reduceAdd, Nat.reduceLeDiff, Nat.reduceLT, Nat.zero_add, Int.reduceLT, Int.reduceLE, Int.reduceNeg, Int.reduceSub, Int.reduceAdd, Int.reduceMul, Int.reduceBEq, Bool.or_true, Bool.true_or, Bool.or_false, Bool.false_or, if_true, if_false, ite_true, ite_false, reduceIte, Bool.not_true, Bool.not_false, Bool.true_and, Bool.and_true, Bool.false_and, Bool.and_false, decide_true, decide_false, Bool.false_eq_true, eq_self, reduceCtorEq, true_and, and_true, and_self, sh, shs, dat, dats, ev_int, ev_str, ev_bl, ev_tup, ev_lst, ev_nil, ev_cons, ev_nc, ev_cn, ev_nn, ev_ni, ev_in, at0, at1, at2, at3, cst0, cst1, cst2, cst3, cst4, cst7, cst9, g1, h, e1, shiftB_eval f]
  · simp only [m__law_shifted, shifted_eq, p_bind, b_ok, b_exn, b_bad, b_ite, s_ok, s_exn, s_bad, s_ite, q_nx, q_rt, q_exn, q_bad, q_ite, f_nx, f_rt, f_exn, f_bad, f_ite, i_ok, i_rt, i_int, i_bl, i_tt, i_ff, p_ret, p_eC, p_eVar, p_eOp, p_eUn, p_aNil, p_aCons, p_eCall, p_isB, p_tV, p_tNot, p_tAnd, p_tOr, p_eAnd, p_eOr, p_eNot, p_eIf, p_eTup, p_eLst, p_eChain, p_sBind, p_sSeq, p_sPass, p_sRet, p_sRetN, p_sDrop, p_sSet, p_sIf, p_sRaise, p_sAug, p_sUnp, p_sPar, p_sFor, p_bdN, p_bdT, p_body, p_add, p_addS, p_addT, p_addL, p_addI, p_sub, p_mul, p_mulI, p_mulS, p_fdiv, p_mod, p_pow, p_lt, p_le, p_gt, p_ge, p_isN, p_isB2, p_isnN, p_isnB2, p_neg, p_ixT, p_ixL, p_ixO, p_ofS, p_abs, p_max2, p_lenT, p_lenL, p_lenO, p_eq, p_ne, p_isI, p_iLst, p_iTup, p_iRg1, p_iRg2, p_eNewS, p_eComp, p_inB, p_in, p_nin, p_sSto, List.map_cons, List.map_nil, List.cons_append, List.nil_append, List.append_nil, List.set_cons_zero, List.set_cons_succ, List.getElem?_cons_zero, List.getElem?_cons_succ, List.getElem?_nil, List.length_cons, List.length_nil, List.zip_cons_cons, List.zip_nil_left, List.zip_nil_right, List.foldl_cons, List.foldl_nil, List.replicate, Nat.sub_self, Nat.reduceSub, Nat.reduceAdd, Nat.reduceLeDiff, Nat.reduceLT, Nat.zero_add, Int.reduceLT, Int.reduceLE, Int.reduceNeg, Int.reduceSub, Int.reduceAdd, Int.reduceMul, Int.reduceBEq, Bool.or_true, Bool.true_or, Bool.or_false, Bool.false_or, if_true, if_false, ite_true, ite_false, reduceIte, Bool.not_true, Bool.not_false, Bool.true_and, Bool.and_true, Bool.false_and, Bool.and_false, decide_true, decide_false, Bool.false_eq_true, eq_self, reduceCtorEq, true_and, and_true, and_self, sh, shs, dat, dats, ev_int, ev_str, ev_bl, ev_tup, ev_lst, ev_nil, ev_cons, ev_nc, ev_cn, ev_nn, ev_ni, ev_in, at0, at1, at2, at3, cst0, cst1, cst2, cst3, cst4, cst7, cst9, g1, h, shiftB_eval f]
end Pu
end
section
namespace Pu
open PySem Zz Mir
/-! ### large powers of ten -/
theorem tenL_text : ∀ d : Fin 61, PySem.intText? (("1" : Str) ++ strMul "0" (d.val : Int)) = some ((10 : Int) ^ d.val) ∧ (("1" : Str) ++ strMul "0" (d.val : Int)).length ≤ 100 ∧ ("1" : Str).length + (strMul "0" (d.val : Int)).length ≤ 1000 := by decide +kernel
theorem tenL_eval (d : Int) (S : Sto) (h0 : 0 ≤ d) (h : d ≤ 60) : m__law_ten [.int d] S = .ok (.int (10 ^ d.toNat)) S := by
  obtain ⟨h1, h2, h3⟩ := tenL_text ⟨d.toNat, by omega⟩
  have e : (((⟨d.toNat, by omega⟩ : Fin 61).val : Nat) : Int) = d := by show ((d.toNat : Nat) : Int) = d; omega
  rw [e] at h1 h2 h3
  have k1 : ("0" : Str).length ≤ 10 ∧ -(2 ^ 62) < d ∧ d ≤ 1000 := ⟨by decide, by omega, by omega⟩
  simp only [m__law_ten, b__law_ten, p_bind, b_ok, b_exn, b_bad, b_ite, s_ok, s_exn, s_bad, s_ite, q_nx, q_rt, q_exn, q_bad, q_ite, f_nx, f_rt, f_exn, f_bad, f_ite, i_ok, i_rt, i_int, i_bl, i_tt, i_ff, p_ret, p_eC, p_eVar, p_eOp, p_eUn, p_aNil, p_aCons, p_eCall, p_isB, p_tV, p_tNot, p_tAnd, p_tOr, p_eAnd, p_eOr, p_eNot, p_eIf, p_eTup, p_eLst, p_eChain, p_sBind, p_sSeq, p_sPass, p_sRet, p_sRetN, p_sDrop, p_sSet, p_sIf, p_sRaise, p_sAug, p_sUnp, p_sPar, p_sFor, p_bdN, p_bdT, p_body, p_add, p_addS, p_addT, p_addL, p_addI, p_sub, p_mul, p_mulI, p_mulS, p_fdiv, p_mod, p_pow, p_lt, p_le, p_gt, p_ge, p_isN, p_isB2, p_isnN, p_isnB2, p_neg, p_ixT, p_ixL, p_ixO, p_ofS, p_abs, p_max2, p_lenT, p_lenL, p_lenO, p_eq, p_ne, p_isI, p_iLst, p_iTup, p_iRg1, p_iRg2, p_eNewS, p_eComp, p_inB, p_in, p_nin, p_sSto, List.map_cons, List.map_nil, List.cons_append, List.nil_append, List.append_nil, List.set_cons_zero, List.set_cons_succ, List.getElem?_cons_zero, List.getElem?_cons_succ, List.getElem?_nil, List.length_cons, List.length_nil, List.zip_cons_cons, List.zip_nil_left, List.zip_nil_right, List.foldl_cons, List.foldl_nil, List.replicate, Nat.sub_self, Nat.reduceSub, Nat.reduceAdd, Nat.reduceLeDiff, Nat.reduceLT, Nat.zero_add, Int.reduceLT, Int.reduceLE, Int.reduceNeg, Int.reduceSub, Int.reduceAdd, Int.reduceMul, Int.reduceBEq, Bool.or_true, Bool.true_or, Bool.or_false, Bool.false_or, if_true, if_false, ite_true, ite_false, reduceIte, Bool.not_true, Bool.not_false, Bool.true_and, Bool.and_true, Bool.false_and, Bool.and_false, decide_true, decide_false, Bool.false_eq_true, eq_self, reduceCtorEq, true_and, and_true, and_self, sh, shs, dat, dats, ev_int, ev_str, ev_bl, ev_tup, ev_lst, ev_nil, ev_cons, ev_nc, ev_cn, ev_nn, ev_ni, ev_in, at0, at1, at2, at3, cst0, cst1, cst2, cst3, cst4, cst7, cst9, k1, h3, cInt, h1, h2]
/-! ### turned lists -/
def rotW (l : List W) : W → W
  | .int k => .lst (l.drop k.toNat ++ l.take k.toNat)
  | _ => .non
def rots (l : List W) : List W := (rgW 0 l.length).map (rotW l)
def spB (l m : List W) : Bool := decide (l.length = m.length) && (decide (l = []) || isin (.lst m) (rots l))
theorem u_same_C0 (env : En) (S : Sto) : b_same_period_C0 env S = (eOp opAdd (eSl (eVar 2) (oSome (eVar 4)) oNone) (eSl (eVar 2) oNone (oSome (eVar 4)))) env S := rfl
theorem shs_app {n : Nat} : ∀ xs ys : List W, shs n xs = true → shs n ys = true → shs n (xs ++ ys) = true
  | [], _, _, h => h
  | x :: xs, ys, h1, h2 => by
    simp only [shs, Bool.and_eq_true] at h1
    show (sh n x && shs n (xs ++ ys)) = true
    rw [h1.1, shs_app xs ys h1.2 h2]
    rfl
theorem shs_mem {n : Nat} {ws : List W} (h : shs n ws = true) : ∀ w ∈ ws, sh n w = true := by
  induction ws with
  | nil => intro w hw; simp at hw
  | cons x r ih =>
    simp only [shs, Bool.and_eq_true] at h
    intro w hw
    rcases List.mem_cons.mp hw with rfl | hw
    · exact h.1
    · exact ih h.2 w hw
theorem rots_sh {l : List W} (h : shs 6 l = true) : shs 7 (rots l) = true := shs_of _ fun w hw => by
  obtain ⟨x, hx, rfl⟩ := List.mem_map.mp hw
  obtain ⟨k, rfl, _⟩ := mem_rgW hx
  show (decide (0 < 7) && shs 6 _) = true
  rw [shs_app _ _ (shs_of _ fun w hw => shs_mem h w (List.mem_of_mem_drop hw)) (shs_of _ fun w hw => shs_mem h w (List.mem_of_mem_take hw))]
  rfl
/-- what stands behind the two lists -/
def sameT : SM := (sSeq (sIf (tV (eOp opNe (eCall cLen (aCons (eVar 2) aNil)) (eCall cLen (aCons (eVar 3) aNil))))
  (sRet (eC (.bl false)))
  sPass)
  (sRet (eOr (eOp opEq (eVar 2) (eLst aNil)) (eOp opIn (eVar 3) (eComp (iRg1 (eCall cLen (aCons (eVar 2) aNil))) (bdN 4) [4] cYes b_same_period_C0)))))
theorem same_head {a b p q : Int} {l m : List W} (f : Fr a b) (g : Fr p q) (S : Sto) (e1 : m_period_digits [fr a b] S = .ok (.lst l) S) (e2 : m_period_digits [fr p q] S = .ok (.lst m) S) (w : W) (h : sameT [.val (fr a b), .val (fr p q), .val (.lst l), .val (.lst m), .no] S = .rt w S) :
    m_same_period [fr a b, fr p q] S = .ok w S := by
  have eq : b_same_period = (sSeq (sDrop (eCall m_check_fraction (aCons (eVar 0) aNil)))
    (sSeq (sDrop (eCall m_check_fraction (aCons (eVar 1) aNil)))
    (sSeq (sUnp [2, 3] (eTup (aCons (eCall m_period_digits (aCons (eVar 0) aNil)) (aCons (eCall m_period_digits (aCons (eVar 1) aNil)) aNil)))) sameT))) := rfl
  simp only [m_same_period, eq, p_bind, b_ok, b_exn, b_bad, b_ite, s_ok, s_exn, s_bad, s_ite, q_nx, q_rt, q_exn, q_bad, q_ite, f_nx, f_rt, f_exn, f_bad, f_ite, i_ok, i_rt, i_int, i_bl, i_tt, i_ff, p_ret, p_eC, p_eVar, p_eOp, p_eUn, p_aNil, p_aCons, p_eCall, p_isB, p_tV, p_tNot, p_tAnd, p_tOr, p_eAnd, p_eOr, p_eNot, p_eIf, p_eTup, p_eLst, p_eChain, p_sBind, p_sSeq, p_sPass, p_sRet, p_sRetN, p_sDrop, p_sSet, p_sIf, p_sRaise, p_sAug, p_sUnp, p_sPar, p_sFor, p_bdN, p_bdT, p_body, p_add, p_addS, p_addT, p_addL, p_addI, p_sub, p_mul, p_mulI, p_mulS, p_fdiv, p_mod, p_pow, p_lt, p_le, p_gt, p_ge, p_isN, p_isB2, p_isnN, p_isnB2, p_neg, p_ixT, p_ixL, p_ixO, p_ofS, p_abs, p_max2, p_lenT, p_lenL, p_lenO, p_eq, p_ne, p_isI, p_iLst, p_iTup, p_iRg1, p_iRg2, p_eNewS, p_eComp, p_inB, p_in, p_nin, p_sSto, List.map_cons, List.map_nil, List.cons_append, List.nil_append, List.append_nil, List.set_cons_zero, List.set_cons_succ, List.getElem?_cons_zero, List.getElem?_cons_succ, List.getElem?_nil, List.length_cons, List.length_nil, List.zip_cons_cons, List.zip_nil_left, List.zip_nil_right, List.foldl_cons, List.foldl_nil, List.replicate, Nat.sub_self, Nat.reduceSub, Nat.reduceAdd, Nat.reduceLeDiff, Nat.reduceLT, Nat.zero_add, Int.reduceLT, Int.reduceLE, Int.reduceNeg, Int.reduceSub, Int.reduceAdd, Int.reduceMul, Int.reduceBEq, Bool.or_true, Bool.true_or, Bool.or_false, Bool.false_or, if_true, if_false, ite_true, ite_false, reduceIte, Bool.not_true, Bool.not_false, Bool.true_and, Bool.and_true, Bool.false_and, Bool.and_false, decide_true, decide_false, Bool.false_eq_true, eq_self, reduceCtorEq, true_and, and_true, and_self, sh, shs, dat, dats, ev_int, ev_str, ev_bl, ev_tup, ev_lst, ev_nil, ev_cons, ev_nc, ev_cn, ev_nn, ev_ni, ev_in, at0, at1, at2, at3, cst0, cst1, cst2, cst3, cst4, cst7, cst9, nO_nil, nO_cons, kl_nil, kl_cons, p_eSl, p_oNone, p_oSome, p_oI, p_slL, p_eLenSet, p_sOwn, p_sFrz, z_own, z_val, z_no, p_sApp, a_own, p_eOix, x_own, x_int, beq_self_eq_true, check_fraction_eval f, check_fraction_eval g, e1, e2, h]
theorem len_eval {env : En} {S : Sto} {i : Nat} {l : List W} (h : env[i]? = some (.val (.lst l))) : eCall cLen (aCons (eVar i) aNil) env S = .ok (.int l.length) S := by
  simp only [p_eCall, p_aCons, p_aNil, p_eVar, h, p_bind, b_ok, p_ret, p_lenL]
theorem sameT_ne {z0 z1 z4 : Sl} {l m : List W} (S : Sto) (h : ¬ l.length = m.length) : sameT [z0, z1, .val (.lst l), .val (.lst m), z4] S = .rt (.bl false) S := by
  have hlen' : ((l.length : Int) == (m.length : Int)) = false := by rw [beq_dec]; apply decide_eq_false; omega
  have e1 := len_eval (env := [z0, z1, .val (.lst l), .val (.lst m), z4]) (S := S) (i := 2) rfl
  have e2 := len_eval (env := [z0, z1, .val (.lst l), .val (.lst m), z4]) (S := S) (i := 3) rfl
  generalize (l.length : Int) = x at *
  generalize (m.length : Int) = y at *
  unfold sameT
  simp only [p_sSeq, p_sIf, p_sBind, p_tV, p_bind, p_eOp, e1, e2, b_ok, p_ne, sh, Bool.and_self, if_true, dat, ev_int, hlen', p_isB, s_ok, Bool.not_false, p_sRet, p_eC, q_rt]
theorem sameT_nil {z0 z1 z4 : Sl} (S : Sto) : sameT [z0, z1, .val (.lst []), .val (.lst []), z4] S = .rt (.bl true) S := by
  unfold sameT
  simp only [p_bind, b_ok, b_exn, b_bad, b_ite, s_ok, s_exn, s_bad, s_ite, q_nx, q_rt, q_exn, q_bad, q_ite, f_nx, f_rt, f_exn, f_bad, f_ite, i_ok, i_rt, i_int, i_bl, i_tt, i_ff, p_ret, p_eC, p_eVar, p_eOp, p_eUn, p_aNil, p_aCons, p_eCall, p_isB, p_tV, p_tNot, p_tAnd, p_tOr, p_eAnd, p_eOr, p_eNot, p_eIf, p_eTup, p_eLst, p_eChain, p_sBind, p_sSeq, p_sPass, p_sRet, p_sRetN, p_sDrop, p_sSet, p_sIf, p_sRaise, p_sAug, p_sUnp, p_sPar, p_sFor, p_bdN, p_bdT, p_body, p_add, p_addS, p_addT, p_addL, p_addI, p_sub, p_mul, p_mulI, p_mulS, p_fdiv, p_mod, p_pow, p_lt, p_le, p_gt, p_ge, p_isN, p_isB2, p_isnN, p_isnB2, p_neg, p_ixT, p_ixL, p_ixO, p_ofS, p_abs, p_max2, p_lenT, p_lenL, p_lenO, p_eq, p_ne, p_isI, p_iLst, p_iTup, p_iRg1, p_iRg2, p_eNewS, p_eComp, p_inB, p_in, p_nin, p_sSto, List.map_cons, List.map_nil, List.cons_append, List.nil_append, List.append_nil, List.set_cons_zero, List.set_cons_succ, List.getElem?_cons_zero, List.getElem?_cons_succ, List.getElem?_nil, List.length_cons, List.length_nil, List.zip_cons_cons, List.zip_nil_left, List.zip_nil_right, List.foldl_cons, List.foldl_nil, List.replicate, Nat.sub_self, Nat.reduceSub, Nat.reduceAdd, Nat.reduceLeDiff, Nat.reduceLT, Nat.zero_add, Int.reduceLT, Int.reduceLE, Int.reduceNeg, Int.reduceSub, Int.reduceAdd, Int.reduceMul, Int.reduceBEq, Bool.or_true, Bool.true_or, Bool.or_false, Bool.false_or, if_true, if_false, ite_true, ite_false, reduceIte, Bool.not_true, Bool.not_false, Bool.true_and, Bool.and_true, Bool.false_and, Bool.and_false, decide_true, decide_false, Bool.false_eq_true, eq_self, reduceCtorEq, true_and, and_true, and_self, sh, shs, dat, dats, ev_int, ev_str, ev_bl, ev_tup, ev_lst, ev_nil, ev_cons, ev_nc, ev_cn, ev_nn, ev_ni, ev_in, at0, at1, at2, at3, cst0, cst1, cst2, cst3, cst4, cst7, cst9, nO_nil, nO_cons, kl_nil, kl_cons, p_eSl, p_oNone, p_oSome, p_oI, p_slL, p_eLenSet, p_sOwn, p_sFrz, z_own, z_val, z_no, p_sApp, a_own, p_eOix, x_own, x_int, beq_self_eq_true]
/-! steps over open parts: the kernel must not compute a length against 2 ^ 62 -/
theorem rg1_eval {A : EM} {env : En} {S : Sto} {x : Int} (h : A env S = .ok (.int x) S) (s : smI x) : iRg1 A env S = .ok (rgW 0 x.toNat) S := by
  simp only [p_iRg1, p_bind, h, b_ok, s, if_true]
theorem in_eval {A B : EM} {env : En} {S : Sto} {x y : W} {c : Bool} (h1 : A env S = .ok x S) (h2 : B env S = .ok y S) (h3 : opInB x y S = .ok c S) : eOp opIn A B env S = .ok (.bl c) S := by
  simp only [p_eOp, p_bind, h1, h2, h3, b_ok, p_in, p_ret]
theorem comp_eval {src : AM} {bd : Bd} {is : List Nat} {t : En → M Bool} {b : EM} {env : En} {S : Sto} {ws ys : List W} (h1 : src env S = .ok ws S) (h2 : noOwn is env = true) (h3 : compL bd t b (kill is env) ws [] S = .ok ys S) : eComp src bd is t b env S = .ok (.lst ys) S := by
  simp only [p_eComp, p_bind, h1, b_ok, h2, if_true, h3]
theorem skip_eval {t : En → M Bool} {A : SM} {env : En} {S : Sto} (h : t env S = .ok false S) : sIf t A sPass env S = .nx env S := by
  simp only [p_sIf, p_sBind, h, s_ok, Bool.false_eq_true, if_false, p_sPass]
theorem ret_eval {a : EM} {env : En} {S : Sto} {w : W} (h : a env S = .ok w S) : sRet a env S = .rt w S := by
  simp only [p_sRet, p_sBind, h, s_ok]
theorem or_right {A B : EM} {env : En} {S : Sto} {w : W} (h1 : A env S = .ok (.bl false) S) (h2 : B env S = .ok w S) : eOr A B env S = .ok w S := by
  simp only [p_eOr, h1, b_ok, p_isB, Bool.false_eq_true, if_false, h2]
theorem same_comp {z0 z1 z3 : Sl} {l : List W} (S : Sto) (hl : l.length ≤ 500) : compL (bdN 4) cYes b_same_period_C0 [z0, z1, .val (.lst l), z3, .no] (rgW 0 l.length) [] S = .ok (rots l) S := by
  refine comp_map (bd := bdN 4) (elt := b_same_period_C0) (rotW l) (rgW 0 l.length) (fun w hw => ?_) (by rw [rgW_len]; omega)
  obtain ⟨k, rfl, k0, k1⟩ := mem_rgW hw
  refine ⟨_, rfl, ?_⟩
  have c1 := cut_from l k0
  have c2 := cut_to l k0
  have hlen : (l.drop k.toNat).length + (l.take k.toNat).length ≤ 1000000 := by
    rw [List.length_drop, List.length_take]; omega
  rw [u_same_C0]
  have t1 : eSl (eVar 2) (oSome (eVar 4)) oNone [z0, z1, .val (.lst l), z3, .val (.int k)] S = .ok (.lst (l.drop k.toNat)) S := by
    simp only [p_eSl, p_eVar, List.getElem?_cons_zero, List.getElem?_cons_succ, b_ok, p_oSome, p_oI, p_oNone, p_slL, c1]
  have t2 : eSl (eVar 2) oNone (oSome (eVar 4)) [z0, z1, .val (.lst l), z3, .val (.int k)] S = .ok (.lst (l.take k.toNat)) S := by
    simp only [p_eSl, p_eVar, List.getElem?_cons_zero, List.getElem?_cons_succ, b_ok, p_oSome, p_oI, p_oNone, p_slL, c2]
  show eOp opAdd (eSl (eVar 2) (oSome (eVar 4)) oNone) (eSl (eVar 2) oNone (oSome (eVar 4))) [z0, z1, .val (.lst l), z3, .val (.int k)] S = _
  rw [p_eOp, p_bind, t1, b_ok, p_bind, t2, b_ok, p_addL, if_pos hlen]
  rfl
theorem sameT_cons {z0 z1 : Sl} {l m : List W} (S : Sto) (hlen : l.length = m.length) (hn : l ≠ []) (hl : l.length ≤ 500) (h1 : shs 6 l = true) (h2 : shs 7 m = true) (h3 : shs 7 l = true) : sameT [z0, z1, .val (.lst l), .val (.lst m), .no] S = .rt (.bl (isin (.lst m) (rots l))) S := by
  have s1 : smI (l.length : Int) := by unfold smI; omega
  have hc := same_comp (z0 := z0) (z1 := z1) (z3 := .val (.lst m)) S hl
  have hr := rots_sh h1
  have h4 : (sh 8 (.lst m) && sh 8 (.lst (rots l))) = true := by
    show ((decide (0 < 8) && shs 7 m) && (decide (0 < 8) && shs 7 (rots l))) = true
    rw [h2, hr]; rfl
  have h5 : opInB (.lst m) (.lst (rots l)) S = .ok (isin (.lst m) (rots l)) S := by
    show (if (sh 8 (.lst m) && sh 8 (.lst (rots l))) = true then R.ok (isin (.lst m) (rots l)) S else .bad) = _
    rw [if_pos h4]
  have h6 : (sh 8 (.lst l) && sh 8 (.lst [])) = true := by
    show ((decide (0 < 8) && shs 7 l) && _) = true
    rw [h3]; rfl
  have h7 : PyData.eqv (dat (.lst l)) (dat (.lst [])) = false := by
    cases l with
    | nil => exact absurd rfl hn
    | cons w l => simp [dat, dats, PyData.eqv, PyData.eqvAll]
  have e1 := len_eval (env := [z0, z1, .val (.lst l), .val (.lst m), .no]) (S := S) (i := 2) rfl
  have e2 := len_eval (env := [z0, z1, .val (.lst l), .val (.lst m), .no]) (S := S) (i := 3) rfl
  rw [← hlen] at e2
  rw [← Int.toNat_natCast l.length] at hc
  generalize (l.length : Int) = x at *
  generalize rots l = Rs at *
  have t1 : tV (eOp opNe (eCall cLen (aCons (eVar 2) aNil)) (eCall cLen (aCons (eVar 3) aNil))) [z0, z1, .val (.lst l), .val (.lst m), .no] S = .ok false S := by
    simp only [p_tV, p_bind, p_eOp, e1, e2, b_ok, p_ne, sh, Bool.and_self, if_true, dat, ev_int, beq_self_eq_true, p_isB, Bool.not_true]
  have t2 : eOp opEq (eVar 2) (eLst aNil) [z0, z1, .val (.lst l), .val (.lst m), .no] S = .ok (.bl false) S := by
    simp only [p_bind, p_eOp, p_eVar, p_eLst, p_aNil, List.getElem?_cons_zero, List.getElem?_cons_succ, b_ok, List.length_nil, Nat.zero_le, if_true, p_eq, h6, h7]
  have t3 : iRg1 (eCall cLen (aCons (eVar 2) aNil)) [z0, z1, .val (.lst l), .val (.lst m), .no] S = .ok (rgW 0 x.toNat) S := rg1_eval e1 s1
  have t4 : eComp (iRg1 (eCall cLen (aCons (eVar 2) aNil))) (bdN 4) [4] cYes b_same_period_C0 [z0, z1, .val (.lst l), .val (.lst m), .no] S = .ok (.lst Rs) S := by exact comp_eval t3 rfl hc
  have t5 : eOp opIn (eVar 3) (eComp (iRg1 (eCall cLen (aCons (eVar 2) aNil))) (bdN 4) [4] cYes b_same_period_C0) [z0, z1, .val (.lst l), .val (.lst m), .no] S = .ok (.bl (isin (.lst m) Rs)) S := in_eval rfl t4 h5
  unfold sameT
  rw [step_nx (skip_eval t1)]
  exact ret_eval (or_right t2 t5)
theorem same_eval {a b p q : Int} {l m : List W} (f : Fr a b) (g : Fr p q) (S : Sto) (hl : l.length ≤ 500) (e1 : m_period_digits [fr a b] S = .ok (.lst l) S) (e2 : m_period_digits [fr p q] S = .ok (.lst m) S) (h1 : shs 6 l = true) (h2 : shs 7 m = true) (h3 : shs 7 l = true) :
    m_same_period [fr a b, fr p q] S = .ok (.bl (spB l m)) S := by
  refine same_head f g S e1 e2 _ ?_
  unfold spB
  by_cases hlen : l.length = m.length
  · cases l with
    | nil =>
      obtain rfl : m = [] := List.eq_nil_of_length_eq_zero hlen.symm
      exact sameT_nil S
    | cons w l =>
      rw [sameT_cons S hlen (by simp) hl h1 h2 h3]
      simp [hlen]
  · rw [sameT_ne S hlen]
    simp [hlen]
end Pu
end
section
namespace Pu
open PySem Zz Mir
/-! ### what is left of a denominator -/
theorem pl_fin : ∀ i : Fin 60, 1 ≤ pl ((i.val : Int) + 1) ∧ ((i.val : Int) + 1) % pl ((i.val : Int) + 1) = 0 ∧ Int.gcd 10 (pl ((i.val : Int) + 1)) = 1 ∧ (pl ((i.val : Int) + 1) = 1 → ((i.val : Int) + 1) % 3 ≠ 0) := by decide +kernel
structure Plf (b : Int) : Prop where
  p : 1 ≤ pl b
  d : pl b ∣ b
  g : Int.gcd 10 (pl b) = 1
  t : pl b = 1 → b % 3 ≠ 0
theorem plf {b : Int} (b0 : 1 ≤ b) (b1 : b ≤ 60) : Plf b := by
  obtain ⟨i, hi⟩ := sixty b0 b1
  have h := pl_fin i
  rw [← hi] at h
  exact ⟨h.1, Int.dvd_of_emod_eq_zero h.2.1, h.2.2.1, h.2.2.2⟩
theorem cop_pow {q : Int} (g : Int.gcd 10 q = 1) : ∀ k : Nat, q ∣ (10 : Int) ^ k → q ∣ 1
  | 0, h => h
  | k + 1, h => cop_pow g k (cop_dvd g (by rw [Int.pow_succ, Int.mul_comm] at h; exact h))
theorem pl_one {b : Int} (b0 : 1 ≤ b) (b1 : b ≤ 60) {k : Nat} (h : b ∣ 10 ^ k) : pl b = 1 := by
  have p := plf b0 b1
  have h1 := cop_pow p.g k (Int.dvd_trans p.d h)
  have := Int.le_of_dvd (by decide) h1
  have := p.p
  omega
theorem never0 {a b : Int} (f : Fr a b) (h : pl b ≠ 1) (k : Nat) : a * 10 ^ k % b ≠ 0 := fun e =>
  h (pl_one f.b0 f.b1 (cop_dvd f.g (Int.dvd_of_emod_eq_zero e)))
theorem r0_in {a b : Int} (h0 : 0 ≤ a) (h1 : a < b) : r0 a b = a := by
  unfold r0
  rw [if_neg (by omega), Int.emod_eq_of_lt h0 h1]
theorem nines {a b : Int} (f : Fr a b) (h : pl b ≠ 1) (k : Nat) : dg b a k + dg b (b - a) k = 9 := by
  have b0 := f.b0
  have hb : 0 < b := by omega
  have n0 := never0 f h k
  have n1 := never0 f h (k + 1)
  have e1 : (b - a) * 10 ^ k % b = b - a * 10 ^ k % b := by
    have e : (b - a) * 10 ^ k = -(a * 10 ^ k) + b * 10 ^ k := by rw [Int.sub_mul]; omega
    rw [e, Int.add_mul_emod_self_left]
    rcases neg_dm (a * 10 ^ k) hb with ⟨h1, _⟩ | ⟨_, _, h3⟩
    · exact absurd h1 n0
    · exact h3
  have e2 : a * 10 ^ k % b * 10 % b ≠ 0 := by
    intro e
    apply n1
    rw [Int.pow_succ, ← Int.mul_assoc, Int.mul_emod, ← e, Int.mul_emod (a * 10 ^ k % b) 10 b, Int.emod_emod_of_dvd _ (Int.dvd_refl b)]
  unfold dg
  rw [e1]
  generalize a * 10 ^ k % b = y at *
  have e3 : (b - y) * 10 = -(y * 10) + b * 10 := by rw [Int.sub_mul]; omega
  rw [e3, Int.add_mul_ediv_left _ _ (by omega)]
  rcases neg_dm (y * 10) hb with ⟨h1, _⟩ | ⟨_, h2, _⟩
  · exact absurd h1 e2
  · rw [h2]; omega
theorem nines_sum {a b : Int} (f : Fr a b) (h : pl b ≠ 1) (i : Nat) : ∀ n : Nat, (dgs b a i n).sum + (dgs b (b - a) i n).sum = 9 * n
  | 0 => rfl
  | n + 1 => by
    have e := nines_sum f h i n
    have e1 := nines f h (i + n)
    rw [dgs_app, dgs_app, List.sum_append, List.sum_append]
    show _ + (dg b a (i + n) + 0) + (_ + (dg b (b - a) (i + n) + 0)) = _
    omega
theorem Fr.lack {a b : Int} (f : Fr a b) (h0 : 0 ≤ a) (h1 : a ≤ b) : Fr (b - a) b := by
  have b0 := f.b0
  refine ⟨f.b0, f.b1, by omega, by omega, ?_⟩
  have : b - a = -a + b := by omega
  rw [this, Int.gcd_add_self_left, Int.neg_gcd]
  exact f.g
theorem low_own {a b : Int} (h : Int.gcd a b = 1) : low a b = fr a b := by
  unfold low
  rw [h]
  simp
/-! ### shifted by ten -/
theorem dg_scale {g q p : Int} (hg : 0 < g) (hq : 0 < q) (k : Nat) : dg (g * q) (g * p) k = dg q p k := by
  unfold dg
  rw [Int.mul_assoc, Int.mul_emod_mul_of_pos _ _ hg, Int.mul_assoc, Int.mul_ediv_mul_of_pos _ _ hg]
theorem dg_next (b a : Int) (k : Nat) : dg b (a * 10 % b) k = dg b a (k + 1) := by
  unfold dg
  have e : a * 10 % b * 10 ^ k % b = a * 10 ^ (k + 1) % b := by
    rw [Int.pow_succ, show a * (10 ^ k * 10) = a * 10 * 10 ^ k by ac_rfl, Int.mul_emod (a * 10) (10 ^ k) b, Int.mul_emod (a * 10 % b) (10 ^ k) b, Int.emod_emod_of_dvd _ (Int.dvd_refl b)]
  rw [e]
theorem shift_fin : ∀ i : Fin 60, pl (((i.val : Int) + 1) / (Int.gcd 10 ((i.val : Int) + 1) : Nat)) = pl ((i.val : Int) + 1) ∧ plen (((i.val : Int) + 1) / (Int.gcd 10 ((i.val : Int) + 1) : Nat)) = plen ((i.val : Int) + 1) ∧
    (pb (((i.val : Int) + 1) / (Int.gcd 10 ((i.val : Int) + 1) : Nat)) + 1 = pb ((i.val : Int) + 1) ∨ (pb ((i.val : Int) + 1) = 0 ∧ pb (((i.val : Int) + 1) / (Int.gcd 10 ((i.val : Int) + 1) : Nat)) = 0)) := by decide +kernel
/-- the fraction a shift by ten gives -/
theorem shift_fr {a b : Int} (f : Fr a b) (ha : 0 ≤ a) : ∃ p q, low (a * 10 % b) b = fr p q ∧ Fr p q ∧ 0 ≤ p ∧ p < q ∧ (∀ k, dg q p k = dg b a (k + 1)) ∧ plen q = plen b ∧ (pb q + 1 = pb b ∨ (pb b = 0 ∧ pb q = 0)) := by
  have b0 := f.b0
  have b1 := f.b1
  have hb : 0 < b := by omega
  have m0 := Int.emod_nonneg (a * 10) (by omega : b ≠ 0)
  have m1 := Int.emod_lt_of_pos (a * 10) hb
  obtain ⟨g, p, q, hg, hp, hq, hq0, e, hc⟩ := low_parts (a * 10 % b) hb
  have hp0 : 0 ≤ p := by
    have : 0 ≤ g * p := by omega
    exact Int.nonneg_of_mul_nonneg_right this hg
  have hpq : p < q := by
    have : g * p < g * q := by omega
    exact Int.lt_of_mul_lt_mul_left this (by omega)
  have hq6 : q ≤ 60 := by
    have : 1 * q ≤ g * q := Int.mul_le_mul_of_nonneg_right (by omega) (by omega)
    omega
  have hgq : q = b / ((Int.gcd 10 b : Nat) : Int) := by
    have e1 : low (a * 10 % b) b = .tup [.int (a * 10 % b / (Int.gcd (a * 10 % b) b : Nat)), .int (b / (Int.gcd (a * 10 % b) b : Nat))] := rfl
    rw [e1] at e
    injection e with e
    injection e with _ e
    injection e with e _
    injection e with e
    have e2 : Int.gcd (a * 10 % b) b = Int.gcd 10 b := by
      have h1 : Int.gcd (a * 10 % b) b = Int.gcd (a * 10) b := by rw [Int.gcd_comm, gcd_mod (by omega) hb]
      rw [h1]
      unfold Int.gcd
      rw [Int.natAbs_mul]
      have h2 : Nat.Coprime a.natAbs b.natAbs := f.g
      exact h2.gcd_mul_left_cancel (10 : Int).natAbs
    rw [e2] at e
    exact e.symm
  obtain ⟨i, hi⟩ := sixty b0 b1
  have h := shift_fin i
  rw [← hi, ← hgq] at h
  refine ⟨p, q, e, ⟨by omega, hq6, by omega, by omega, hc⟩, hp0, hpq, fun k => ?_, h.2.1, h.2.2⟩
  rw [← dg_scale hg hq0, ← hp, ← hq, dg_next]
theorem dgs_next {b a q p : Int} (h : ∀ k, dg q p k = dg b a (k + 1)) (i n : Nat) : dgs q p i n = dgs b a (i + 1) n := by
  apply List.ext_getElem?
  intro k
  by_cases hk : k < n
  · rw [dgs_get hk, dgs_get hk, h, show i + k + 1 = i + 1 + k by omega]
  · rw [List.getElem?_eq_none (by rw [dgs_len]; omega), List.getElem?_eq_none (by rw [dgs_len]; omega)]
theorem dg_r0 {a b : Int} (ha : 0 ≤ a) (k : Nat) : dg b (r0 a b) k = dg b a k := by
  unfold dg r0
  rw [if_neg (by omega), Int.mul_emod (a % b) (10 ^ k) b, Int.emod_emod_of_dvd _ (Int.dvd_refl b), ← Int.mul_emod]
theorem dgs_r0 {a b : Int} (ha : 0 ≤ a) (i n : Nat) : dgs b (r0 a b) i n = dgs b a i n := by
  unfold dgs
  congr 1
  funext k
  exact dg_r0 ha k
/-- a list that is turned by one -/
theorem turned_in {l : List W} {k : Nat} (h : k < l.length) : isin (.lst (l.drop k ++ l.take k)) (rots l) = true := by
  unfold isin
  rw [List.any_eq_true]
  refine ⟨rotW l (.int k), List.mem_map.mpr ⟨.int k, ?_, rfl⟩, ?_⟩
  · unfold rgW
    exact List.mem_map.mpr ⟨k, List.mem_range.mpr h, by simp⟩
  · have e : rotW l (.int (k : Int)) = .lst (l.drop k ++ l.take k) := rfl
    rw [e]
    exact eqv_refl _
theorem same_shift {a b p q : Int} (f : Fr a b) (ha : 0 ≤ a) (hp : 0 ≤ p) (hpq : p < q) (h : ∀ k, dg q p k = dg b a (k + 1)) (q0 : 0 ≤ pb q) (hl : plen q = plen b) (hb : pb q + 1 = pb b ∨ (pb b = 0 ∧ pb q = 0)) :
    spB ((dgs b (r0 a b) (pb b).toNat (plen b).toNat).map W.int) ((dgs q (r0 p q) (pb q).toNat (plen q).toNat).map W.int) = true := by
  have pp := per f.b0 f.b1
  have p0 := pp.p0
  have l0 := pp.l0
  have e0 : r0 p q = p := r0_in hp hpq
  rw [e0, hl, dgs_next h]
  unfold spB
  rw [List.length_map, List.length_map, dgs_len, dgs_len, decide_eq_true rfl, Bool.true_and]
  by_cases hz : plen b = 0
  · rw [hz]
    rfl
  · rw [dgs_r0 ha]
    rw [Bool.or_eq_true]
    right
    rcases hb with hb | ⟨hb, hb2⟩
    · have : (pb q).toNat + 1 = (pb b).toNat := by omega
      rw [this]
      have := turned_in (l := (dgs b a (pb b).toNat (plen b).toNat).map W.int) (k := 0) (by rw [List.length_map, dgs_len]; omega)
      rw [List.drop_zero, List.take_zero, List.append_nil] at this
      exact this
    · rw [hb, hb2]
      by_cases h1 : plen b = 1
      · have := turned_in (l := (dgs b a (0 : Int).toNat (plen b).toNat).map W.int) (k := 0) (by rw [List.length_map, dgs_len]; omega)
        rw [List.drop_zero, List.take_zero, List.append_nil] at this
        have e2 : dgs b a ((0 : Int).toNat + 1) (plen b).toNat = dgs b a (0 : Int).toNat (plen b).toNat := by
          have := dgs_again pp a (i := 0) (by omega) (plen b).toNat
          rw [h1] at this ⊢
          exact this
        rw [e2]
        exact this
      · have := turned_in (l := (dgs b a (0 : Int).toNat (plen b).toNat).map W.int) (k := 1) (by rw [List.length_map, dgs_len]; omega)
        rw [← List.map_drop, ← List.map_take, dgs_drop, dgs_take _ _ _ _ _ (by omega), ← List.map_append] at this
        have e2 : dgs b a ((0 : Int).toNat + 1) ((plen b).toNat - 1) ++ dgs b a (0 : Int).toNat 1 = dgs b a ((0 : Int).toNat + 1) (plen b).toNat := by
          have e3 : dgs b a (0 : Int).toNat 1 = dgs b a ((0 : Int).toNat + 1 + ((plen b).toNat - 1)) 1 := by
            have := dgs_again pp a (i := 0) (by omega) 1
            rw [show (0 : Int).toNat + 1 + ((plen b).toNat - 1) = 0 + (plen b).toNat by simp; omega, this]
            rfl
          rw [e3, ← dgs_app]
          congr 1
          omega
        rw [e2] at this
        exact this
/-! ### sums of digits -/
theorem dgs_turns {b : Int} (p : Per b) (r : Int) {i : Nat} (h : (pb b).toNat ≤ i) (n q : Nat) : dgs b r (i + q * (plen b).toNat) n = dgs b r i n := by
  apply List.ext_getElem?
  intro k
  by_cases hk : k < n
  · rw [dgs_get hk, dgs_get hk, show i + q * (plen b).toNat + k = i + k + q * (plen b).toNat by omega, dg_turns p r (by omega)]
  · rw [List.getElem?_eq_none (by rw [dgs_len]; omega), List.getElem?_eq_none (by rw [dgs_len]; omega)]
theorem dgs_cons (b r : Int) (i n : Nat) : dgs b r i (n + 1) = dg b r i :: dgs b r (i + 1) n := by
  unfold dgs
  rw [List.range'_succ]
  rfl
theorem ds_turn {b : Int} (p : Per b) (r : Int) {q : Int} (hq : 0 ≤ q) : ds b r (pb b + plen b * q + plen b) - ds b r (pb b + plen b * q) = (dgs b r (pb b).toNat (plen b).toNat).sum := by
  have p0 := p.p0
  have l0 := p.l0
  obtain ⟨m, rfl⟩ := Int.eq_ofNat_of_zero_le hq
  have e1 : (pb b + plen b * (m : Int)).toNat = (pb b).toNat + m * (plen b).toNat := by
    have : ((m * (plen b).toNat : Nat) : Int) = plen b * m := by rw [Int.natCast_mul, Int.toNat_of_nonneg l0, Int.mul_comm]
    omega
  have h0 : 0 ≤ plen b * (m : Int) := Int.mul_nonneg l0 (by omega)
  have e2 : (pb b + plen b * (m : Int) + plen b).toNat = (pb b + plen b * (m : Int)).toNat + (plen b).toNat := by omega
  unfold ds
  rw [e2, dgs_app, List.sum_append, Nat.zero_add, e1, dgs_turns p r (Nat.le_refl _)]
  omega
theorem ds_succ (b r : Int) {m : Int} (h : 0 ≤ m) : ds b r (m + 1) - ds b r m = dg b r m.toNat := by
  have e : (m + 1).toNat = m.toNat + 1 := by omega
  unfold ds
  rw [e, dgs_app, List.sum_append, Nat.zero_add]
  show _ + (dg b r m.toNat + 0) - _ = _
  omega
theorem zeros {b : Int} (p : Per b) (hl : pl b = 1) (r : Int) {i : Nat} (h : (pb b).toNat ≤ i) (n : Nat) : dgs b r i n = List.replicate n 0 := by
  apply List.ext_getElem?
  intro k
  by_cases hk : k < n
  · rw [dgs_get hk, dg_end p hl r (by omega), List.getElem?_replicate, if_pos hk]
  · rw [List.getElem?_eq_none (by rw [dgs_len]; omega), List.getElem?_eq_none (by rw [List.length_replicate]; omega)]
/-- the last digit is not 0 -/
theorem last_digit {a b : Int} (f : Fr a b) (hl : pl b = 1) (hp : 0 < pb b) : dg b a ((pb b).toNat - 1) ≠ 0 := by
  have b0 := f.b0
  have hb : 0 < b := by omega
  have p := per f.b0 f.b1
  have p1 := p.p1
  intro h
  have e1 := rest_end p hl a (k := (pb b).toNat) (Nat.le_refl _)
  have e2 : (pb b).toNat = (pb b).toNat - 1 + 1 := by omega
  have x : a * pw (pb b - 1) % b = 0 := by
    unfold pw
    rw [show (pb b - 1).toNat = (pb b).toNat - 1 by omega]
    unfold dg at h
    rw [e2, Int.pow_succ, ← Int.mul_assoc, Int.mul_emod, ← Int.emod_emod_of_dvd (a * 10 ^ ((pb b).toNat - 1)) (Int.dvd_refl b), ← Int.mul_emod] at e1
    have m0 := Int.emod_nonneg (a * 10 ^ ((pb b).toNat - 1)) (by omega : b ≠ 0)
    generalize a * 10 ^ ((pb b).toNat - 1) % b = y at *
    have hdm := Int.mul_ediv_add_emod (y * 10) b
    rw [h, e1] at hdm
    omega
  have := (exact_iff f (d := pb b - 1) (by omega) (by omega)).mp x
  omega
end Pu
end
section
namespace Pu
open PySem Zz Mir
/-! ### is_fraction of any pair -/
theorem is_fraction_dec {p q : Int} (hq : 0 < q) (hs : s64 q) (S : Sto) : m_is_fraction [fr p q] S = .ok (.bl (decide (q ≤ 60 ∧ -100 * q ≤ p ∧ p ≤ 100 * q ∧ Int.gcd p q = 1))) S := by
  have k1 : gMul (-100) q := .inl (by decide)
  have k2 : gMul 100 q := .inl (by decide)
  have e1 : decide (1 ≤ q) = true := decide_eq_true (by omega)
  have e5 := common_eval p q S (by omega) (by have := hs.2; omega : q < 2 ^ 199)
  by_cases h2 : q ≤ 60
  · by_cases h3 : -100 * q ≤ p
    · by_cases h4 : p ≤ 100 * q
      · by_cases h5 : Int.gcd p q = 1
        · simp only [m_is_fraction, b_is_fraction, p_bind, b_ok, b_exn, b_bad, b_ite, s_ok, s_exn, s_bad, s_ite, q_nx, q_rt, q_exn, q_bad, q_ite, f_nx, f_rt, f_exn, f_bad, f_ite, i_ok, i_rt, i_int, i_bl, i_tt, i_ff, p_ret, p_eC, p_eVar, p_eOp, p_eUn, p_aNil, p_aCons, p_eCall, p_isB, p_tV, p_tNot, p_tAnd, p_tOr, p_eAnd, p_eOr, p_eNot, p_eIf, p_eTup, p_eLst, p_eChain, p_sBind, p_sSeq, p_sPass, p_sRet, p_sRetN, p_sDrop, p_sSet, p_sIf, p_sRaise, p_sAug, p_sUnp, p_sPar, p_sFor, p_bdN, p_bdT, p_body, p_add, p_addS, p_addT, p_addL, p_addI, p_sub, p_mul, p_mulI, p_mulS, p_fdiv, p_mod, p_pow, p_lt, p_le, p_gt, p_ge, p_isN, p_isB2, p_isnN, p_isnB2, p_neg, p_ixT, p_ixL, p_ixO, p_ofS, p_abs, p_max2, p_lenT, p_lenL, p_lenO, p_eq, p_ne, p_isI, p_iLst, p_iTup, p_iRg1, p_iRg2, p_eNewS, p_eComp, p_inB, p_in, p_nin, p_sSto, List.map_cons, List.map_nil, List.cons_append, List.nil_append, List.append_nil, List.set_cons_zero, List.set_cons_succ, List.getElem?_cons_zero, List.getElem?_cons_succ, List.getElem?_nil, List.length_cons, List.length_nil, List.zip_cons_cons, List.zip_nil_left, List.zip_nil_right, List.foldl_cons, List.foldl_nil, List.replicate, Nat.sub_self, Nat.reduceSub, Nat.reduceAdd, Nat.reduceLeDiff, Nat.reduceLT, Nat.zero_add, Int.reduceLT, Int.reduceLE, Int.reduceNeg, Int.reduceSub, Int.reduceAdd, Int.reduceMul, Int.reduceBEq, Bool.or_true, Bool.true_or, Bool.or_false, Bool.false_or, if_true, if_false, ite_true, ite_false, reduceIte, Bool.not_true, Bool.not_false, Bool.true_and, Bool.and_true, Bool.false_and, Bool.and_false, decide_true, decide_false, Bool.false_eq_true, eq_self, reduceCtorEq, true_and, and_true, and_self, sh, shs, dat, dats, ev_int, ev_str, ev_bl, ev_tup, ev_lst, ev_nil, ev_cons, ev_nc, ev_cn, ev_nn, ev_ni, ev_in, at0, at1, at2, at3, cst0, cst1, cst2, cst3, cst4, cst7, cst9, tyN, kt3, is_int_eval, k1, k2, e1, h2, h3, h4, e5, h5]
        · have h6 : ¬ (((Int.gcd p q : Nat) : Int) = 1) := by omega
          simp only [m_is_fraction, b_is_fraction, p_bind, b_ok, b_exn, b_bad, b_ite, s_ok, s_exn, s_bad, s_ite, q_nx, q_rt, q_exn, q_bad, q_ite, f_nx, f_rt, f_exn, f_bad, f_ite, i_ok, i_rt, i_int, i_bl, i_tt, i_ff, p_ret, p_eC, p_eVar, p_eOp, p_eUn, p_aNil, p_aCons, p_eCall, p_isB, p_tV, p_tNot, p_tAnd, p_tOr, p_eAnd, p_eOr, p_eNot, p_eIf, p_eTup, p_eLst, p_eChain, p_sBind, p_sSeq, p_sPass, p_sRet, p_sRetN, p_sDrop, p_sSet, p_sIf, p_sRaise, p_sAug, p_sUnp, p_sPar, p_sFor, p_bdN, p_bdT, p_body, p_add, p_addS, p_addT, p_addL, p_addI, p_sub, p_mul, p_mulI, p_mulS, p_fdiv, p_mod, p_pow, p_lt, p_le, p_gt, p_ge, p_isN, p_isB2, p_isnN, p_isnB2, p_neg, p_ixT, p_ixL, p_ixO, p_ofS, p_abs, p_max2, p_lenT, p_lenL, p_lenO, p_eq, p_ne, p_isI, p_iLst, p_iTup, p_iRg1, p_iRg2, p_eNewS, p_eComp, p_inB, p_in, p_nin, p_sSto, List.map_cons, List.map_nil, List.cons_append, List.nil_append, List.append_nil, List.set_cons_zero, List.set_cons_succ, List.getElem?_cons_zero, List.getElem?_cons_succ, List.getElem?_nil, List.length_cons, List.length_nil, List.zip_cons_cons, List.zip_nil_left, List.zip_nil_right, List.foldl_cons, List.foldl_nil, List.replicate, Nat.sub_self, Nat.reduceSub, Nat.reduceAdd, Nat.reduceLeDiff, Nat.reduceLT, Nat.zero_add, Int.reduceLT, Int.reduceLE, Int.reduceNeg, Int.reduceSub, Int.reduceAdd, Int.reduceMul, Int.reduceBEq, Bool.or_true, Bool.true_or, Bool.or_false, Bool.false_or, if_true, if_false, ite_true, ite_false, reduceIte, Bool.not_true, Bool.not_false, Bool.true_and, Bool.and_true, Bool.false_and, Bool.and_false, decide_true, decide_false, Bool.false_eq_true, eq_self, reduceCtorEq, true_and, and_true, and_self, sh, shs, dat, dats, ev_int, ev_str, ev_bl, ev_tup, ev_lst, ev_nil, ev_cons, ev_nc, ev_cn, ev_nn, ev_ni, ev_in, at0, at1, at2, at3, cst0, cst1, cst2, cst3, cst4, cst7, cst9, tyN, kt3, is_int_eval, k1, k2, e1, h2, h3, h4, e5, h5, beq_dec, h6, and_false]
      · simp only [m_is_fraction, b_is_fraction, p_bind, b_ok, b_exn, b_bad, b_ite, s_ok, s_exn, s_bad, s_ite, q_nx, q_rt, q_exn, q_bad, q_ite, f_nx, f_rt, f_exn, f_bad, f_ite, i_ok, i_rt, i_int, i_bl, i_tt, i_ff, p_ret, p_eC, p_eVar, p_eOp, p_eUn, p_aNil, p_aCons, p_eCall, p_isB, p_tV, p_tNot, p_tAnd, p_tOr, p_eAnd, p_eOr, p_eNot, p_eIf, p_eTup, p_eLst, p_eChain, p_sBind, p_sSeq, p_sPass, p_sRet, p_sRetN, p_sDrop, p_sSet, p_sIf, p_sRaise, p_sAug, p_sUnp, p_sPar, p_sFor, p_bdN, p_bdT, p_body, p_add, p_addS, p_addT, p_addL, p_addI, p_sub, p_mul, p_mulI, p_mulS, p_fdiv, p_mod, p_pow, p_lt, p_le, p_gt, p_ge, p_isN, p_isB2, p_isnN, p_isnB2, p_neg, p_ixT, p_ixL, p_ixO, p_ofS, p_abs, p_max2, p_lenT, p_lenL, p_lenO, p_eq, p_ne, p_isI, p_iLst, p_iTup, p_iRg1, p_iRg2, p_eNewS, p_eComp, p_inB, p_in, p_nin, p_sSto, List.map_cons, List.map_nil, List.cons_append, List.nil_append, List.append_nil, List.set_cons_zero, List.set_cons_succ, List.getElem?_cons_zero, List.getElem?_cons_succ, List.getElem?_nil, List.length_cons, List.length_nil, List.zip_cons_cons, List.zip_nil_left, List.zip_nil_right, List.foldl_cons, List.foldl_nil, List.replicate, Nat.sub_self, Nat.reduceSub, Nat.reduceAdd, Nat.reduceLeDiff, Nat.reduceLT, Nat.zero_add, Int.reduceLT, Int.reduceLE, Int.reduceNeg, Int.reduceSub, Int.reduceAdd, Int.reduceMul, Int.reduceBEq, Bool.or_true, Bool.true_or, Bool.or_false, Bool.false_or, if_true, if_false, ite_true, ite_false, reduceIte, Bool.not_true, Bool.not_false, Bool.true_and, Bool.and_true, Bool.false_and, Bool.and_false, decide_true, decide_false, Bool.false_eq_true, eq_self, reduceCtorEq, true_and, and_true, and_self, sh, shs, dat, dats, ev_int, ev_str, ev_bl, ev_tup, ev_lst, ev_nil, ev_cons, ev_nc, ev_cn, ev_nn, ev_ni, ev_in, at0, at1, at2, at3, cst0, cst1, cst2, cst3, cst4, cst7, cst9, tyN, kt3, is_int_eval, k1, k2, e1, h2, h3, h4, e5, false_and, and_false]
    · simp only [m_is_fraction, b_is_fraction, p_bind, b_ok, b_exn, b_bad, b_ite, s_ok, s_exn, s_bad, s_ite, q_nx, q_rt, q_exn, q_bad, q_ite, f_nx, f_rt, f_exn, f_bad, f_ite, i_ok, i_rt, i_int, i_bl, i_tt, i_ff, p_ret, p_eC, p_eVar, p_eOp, p_eUn, p_aNil, p_aCons, p_eCall, p_isB, p_tV, p_tNot, p_tAnd, p_tOr, p_eAnd, p_eOr, p_eNot, p_eIf, p_eTup, p_eLst, p_eChain, p_sBind, p_sSeq, p_sPass, p_sRet, p_sRetN, p_sDrop, p_sSet, p_sIf, p_sRaise, p_sAug, p_sUnp, p_sPar, p_sFor, p_bdN, p_bdT, p_body, p_add, p_addS, p_addT, p_addL, p_addI, p_sub, p_mul, p_mulI, p_mulS, p_fdiv, p_mod, p_pow, p_lt, p_le, p_gt, p_ge, p_isN, p_isB2, p_isnN, p_isnB2, p_neg, p_ixT, p_ixL, p_ixO, p_ofS, p_abs, p_max2, p_lenT, p_lenL, p_lenO, p_eq, p_ne, p_isI, p_iLst, p_iTup, p_iRg1, p_iRg2, p_eNewS, p_eComp, p_inB, p_in, p_nin, p_sSto, List.map_cons, List.map_nil, List.cons_append, List.nil_append, List.append_nil, List.set_cons_zero, List.set_cons_succ, List.getElem?_cons_zero, List.getElem?_cons_succ, List.getElem?_nil, List.length_cons, List.length_nil, List.zip_cons_cons, List.zip_nil_left, List.zip_nil_right, List.foldl_cons, List.foldl_nil, List.replicate, Nat.sub_self, Nat.reduceSub, Nat.reduceAdd, Nat.reduceLeDiff, Nat.reduceLT, Nat.zero_add, Int.reduceLT, Int.reduceLE, Int.reduceNeg, Int.reduceSub, Int.reduceAdd, Int.reduceMul, Int.reduceBEq, Bool.or_true, Bool.true_or, Bool.or_false, Bool.false_or, if_true, if_false, ite_true, ite_false, reduceIte, Bool.not_true, Bool.not_false, Bool.true_and, Bool.and_true, Bool.false_and, Bool.and_false, decide_true, decide_false, Bool.false_eq_true, eq_self, reduceCtorEq, true_and, and_true, and_self, sh, shs, dat, dats, ev_int, ev_str, ev_bl, ev_tup, ev_lst, ev_nil, ev_cons, ev_nc, ev_cn, ev_nn, ev_ni, ev_in, at0, at1, at2, at3, cst0, cst1, cst2, cst3, cst4, cst7, cst9, tyN, kt3, is_int_eval, k1, k2, e1, h2, h3, e5, false_and, and_false]
  · simp only [m_is_fraction, b_is_fraction, p_bind, b_ok, b_exn, b_bad, b_ite, s_ok, s_exn, s_bad, s_ite, q_nx, q_rt, q_exn, q_bad, q_ite, f_nx, f_rt, f_exn, f_bad, f_ite, i_ok, i_rt, i_int, i_bl, i_tt, i_ff, p_ret, p_eC, p_eVar, p_eOp, p_eUn, p_aNil, p_aCons, p_eCall, p_isB, p_tV, p_tNot, p_tAnd, p_tOr, p_eAnd, p_eOr, p_eNot, p_eIf, p_eTup, p_eLst, p_eChain, p_sBind, p_sSeq, p_sPass, p_sRet, p_sRetN, p_sDrop, p_sSet, p_sIf, p_sRaise, p_sAug, p_sUnp, p_sPar, p_sFor, p_bdN, p_bdT, p_body, p_add, p_addS, p_addT, p_addL, p_addI, p_sub, p_mul, p_mulI, p_mulS, p_fdiv, p_mod, p_pow, p_lt, p_le, p_gt, p_ge, p_isN, p_isB2, p_isnN, p_isnB2, p_neg, p_ixT, p_ixL, p_ixO, p_ofS, p_abs, p_max2, p_lenT, p_lenL, p_lenO, p_eq, p_ne, p_isI, p_iLst, p_iTup, p_iRg1, p_iRg2, p_eNewS, p_eComp, p_inB, p_in, p_nin, p_sSto, List.map_cons, List.map_nil, List.cons_append, List.nil_append, List.append_nil, List.set_cons_zero, List.set_cons_succ, List.getElem?_cons_zero, List.getElem?_cons_succ, List.getElem?_nil, List.length_cons, List.length_nil, List.zip_cons_cons, List.zip_nil_left, List.zip_nil_right, List.foldl_cons, List.foldl_nil, List.replicate, Nat.sub_self, Nat.reduceSub, Nat.reduceAdd, Nat.reduceLeDiff, Nat.reduceLT, Nat.zero_add, Int.reduceLT, Int.reduceLE, Int.reduceNeg, Int.reduceSub, Int.reduceAdd, Int.reduceMul, Int.reduceBEq, Bool.or_true, Bool.true_or, Bool.or_false, Bool.false_or, if_true, if_false, ite_true, ite_false, reduceIte, Bool.not_true, Bool.not_false, Bool.true_and, Bool.and_true, Bool.false_and, Bool.and_false, decide_true, decide_false, Bool.false_eq_true, eq_self, reduceCtorEq, true_and, and_true, and_self, sh, shs, dat, dats, ev_int, ev_str, ev_bl, ev_tup, ev_lst, ev_nil, ev_cons, ev_nc, ev_cn, ev_nn, ev_ni, ev_in, at0, at1, at2, at3, cst0, cst1, cst2, cst3, cst4, cst7, cst9, tyN, kt3, is_int_eval, k1, k2, e1, h2, e5, false_and]
/-! ### tells_apart -/
def apP (r : Ru) (a b p q : Int) : W → Bool
  | .int k => !decide (uo r (a * pw k) b = uo r (p * pw k) q)
  | _ => false
def apL (r : Ru) (a b p q : Int) (ws : List W) : W := hdW (ws.filter (apP r a b p q))
theorem u_tells (env : En) (S : Sto) : b_tells_apart_L0 env S = (sIf (tV (eOp opNe (eCall m_units_of (aCons (eVar 0) (aCons (eVar 3) (aCons (eVar 2) aNil)))) (eCall m_units_of (aCons (eVar 1) (aCons (eVar 3) (aCons (eVar 2) aNil))))))
  (sRet (eVar 3))
  sPass) env S := rfl
theorem tells_loop (r : Ru) {a b p q : Int} (f : Fr a b) (g : Fr p q) (S : Sto) : ∀ (ws : List W) (x : Sl), (∀ w ∈ ws, ∃ k, w = .int k ∧ 0 ≤ k ∧ k ≤ 6) →
    (∃ x', loopL (bdN 3) b_tells_apart_L0 ws [.val (fr a b), .val (fr p q), .val (.str (nm r)), x] S = .nx [.val (fr a b), .val (fr p q), .val (.str (nm r)), x'] S ∧ apL r a b p q ws = .non) ∨ loopL (bdN 3) b_tells_apart_L0 ws [.val (fr a b), .val (fr p q), .val (.str (nm r)), x] S = .rt (apL r a b p q ws) S
  | [], x, _ => .inl ⟨x, rfl, rfl⟩
  | w :: l, x, h => by
    obtain ⟨k, rfl, k0, k6⟩ := h w List.mem_cons_self
    have b0 := f.b0
    have q0 := g.b0
    have e1 := units_eval r a b k S k0 k6 (by omega) f.s
    have e2 := units_eval r p q k S k0 k6 (by omega) g.s
    unfold apL
    by_cases e : uo r (a * pw k) b = uo r (p * pw k) q
    · have h1 : b_tells_apart_L0 (([.val (fr a b), .val (fr p q), .val (.str (nm r)), x] : En).set 3 (.val (.int k))) S = .nx [.val (fr a b), .val (fr p q), .val (.str (nm r)), .val (.int k)] S := by
        rw [u_tells]
        simp only [p_bind, b_ok, b_exn, b_bad, b_ite, s_ok, s_exn, s_bad, s_ite, q_nx, q_rt, q_exn, q_bad, q_ite, f_nx, f_rt, f_exn, f_bad, f_ite, i_ok, i_rt, i_int, i_bl, i_tt, i_ff, p_ret, p_eC, p_eVar, p_eOp, p_eUn, p_aNil, p_aCons, p_eCall, p_isB, p_tV, p_tNot, p_tAnd, p_tOr, p_eAnd, p_eOr, p_eNot, p_eIf, p_eTup, p_eLst, p_eChain, p_sBind, p_sSeq, p_sPass, p_sRet, p_sRetN, p_sDrop, p_sSet, p_sIf, p_sRaise, p_sAug, p_sUnp, p_sPar, p_sFor, p_bdN, p_bdT, p_body, p_add, p_addS, p_addT, p_addL, p_addI, p_sub, p_mul, p_mulI, p_mulS, p_fdiv, p_mod, p_pow, p_lt, p_le, p_gt, p_ge, p_isN, p_isB2, p_isnN, p_isnB2, p_neg, p_ixT, p_ixL, p_ixO, p_ofS, p_abs, p_max2, p_lenT, p_lenL, p_lenO, p_eq, p_ne, p_isI, p_iLst, p_iTup, p_iRg1, p_iRg2, p_eNewS, p_eComp, p_inB, p_in, p_nin, p_sSto, List.map_cons, List.map_nil, List.cons_append, List.nil_append, List.append_nil, List.set_cons_zero, List.set_cons_succ, List.getElem?_cons_zero, List.getElem?_cons_succ, List.getElem?_nil, List.length_cons, List.length_nil, List.zip_cons_cons, List.zip_nil_left, List.zip_nil_right, List.foldl_cons, List.foldl_nil, List.replicate, Nat.sub_self, Nat.reduceSub, Nat.reduceAdd, Nat.reduceLeDiff, Nat.reduceLT, Nat.zero_add, Int.reduceLT, Int.reduceLE, Int.reduceNeg, Int.reduceSub, Int.reduceAdd, Int.reduceMul, Int.reduceBEq, Bool.or_true, Bool.true_or, Bool.or_false, Bool.false_or, if_true, if_false, ite_true, ite_false, reduceIte, Bool.not_true, Bool.not_false, Bool.true_and, Bool.and_true, Bool.false_and, Bool.and_false, decide_true, decide_false, Bool.false_eq_true, eq_self, reduceCtorEq, true_and, and_true, and_self, sh, shs, dat, dats, ev_int, ev_str, ev_bl, ev_tup, ev_lst, ev_nil, ev_cons, ev_nc, ev_cn, ev_nn, ev_ni, ev_in, at0, at1, at2, at3, cst0, cst1, cst2, cst3, cst4, cst7, cst9, e1, e2, e, beq_self_eq_true]
      rw [p_loopN, h1, l_nx, List.filter_cons_of_neg (by simp [apP, e])]
      exact tells_loop r f g S l _ fun w hw => h w (List.mem_cons_of_mem _ hw)
    · right
      have h1 : b_tells_apart_L0 (([.val (fr a b), .val (fr p q), .val (.str (nm r)), x] : En).set 3 (.val (.int k))) S = .rt (.int k) S := by
        rw [u_tells]
        simp only [p_bind, b_ok, b_exn, b_bad, b_ite, s_ok, s_exn, s_bad, s_ite, q_nx, q_rt, q_exn, q_bad, q_ite, f_nx, f_rt, f_exn, f_bad, f_ite, i_ok, i_rt, i_int, i_bl, i_tt, i_ff, p_ret, p_eC, p_eVar, p_eOp, p_eUn, p_aNil, p_aCons, p_eCall, p_isB, p_tV, p_tNot, p_tAnd, p_tOr, p_eAnd, p_eOr, p_eNot, p_eIf, p_eTup, p_eLst, p_eChain, p_sBind, p_sSeq, p_sPass, p_sRet, p_sRetN, p_sDrop, p_sSet, p_sIf, p_sRaise, p_sAug, p_sUnp, p_sPar, p_sFor, p_bdN, p_bdT, p_body, p_add, p_addS, p_addT, p_addL, p_addI, p_sub, p_mul, p_mulI, p_mulS, p_fdiv, p_mod, p_pow, p_lt, p_le, p_gt, p_ge, p_isN, p_isB2, p_isnN, p_isnB2, p_neg, p_ixT, p_ixL, p_ixO, p_ofS, p_abs, p_max2, p_lenT, p_lenL, p_lenO, p_eq, p_ne, p_isI, p_iLst, p_iTup, p_iRg1, p_iRg2, p_eNewS, p_eComp, p_inB, p_in, p_nin, p_sSto, List.map_cons, List.map_nil, List.cons_append, List.nil_append, List.append_nil, List.set_cons_zero, List.set_cons_succ, List.getElem?_cons_zero, List.getElem?_cons_succ, List.getElem?_nil, List.length_cons, List.length_nil, List.zip_cons_cons, List.zip_nil_left, List.zip_nil_right, List.foldl_cons, List.foldl_nil, List.replicate, Nat.sub_self, Nat.reduceSub, Nat.reduceAdd, Nat.reduceLeDiff, Nat.reduceLT, Nat.zero_add, Int.reduceLT, Int.reduceLE, Int.reduceNeg, Int.reduceSub, Int.reduceAdd, Int.reduceMul, Int.reduceBEq, Bool.or_true, Bool.true_or, Bool.or_false, Bool.false_or, if_true, if_false, ite_true, ite_false, reduceIte, Bool.not_true, Bool.not_false, Bool.true_and, Bool.and_true, Bool.false_and, Bool.and_false, decide_true, decide_false, Bool.false_eq_true, eq_self, reduceCtorEq, true_and, and_true, and_self, sh, shs, dat, dats, ev_int, ev_str, ev_bl, ev_tup, ev_lst, ev_nil, ev_cons, ev_nc, ev_cn, ev_nn, ev_ni, ev_in, at0, at1, at2, at3, cst0, cst1, cst2, cst3, cst4, cst7, cst9, e1, e2, beq_dec, e]
      rw [p_loopN, h1, l_rt, List.filter_cons_of_pos (by simp [apP, e])]
      rfl
theorem tells_eval (r : Ru) {a b p q : Int} (f : Fr a b) (g : Fr p q) (S : Sto) : m_tells_apart [fr a b, fr p q, .str (nm r)] S = .ok (apL r a b p q (rgW 0 7)) S := by
  have s7 : smI 7 := by decide
  have e7 : rgW 0 (7 : Int).toNat = rgW 0 7 := rfl
  rcases tells_loop r f g S (rgW 0 7) .no (fun w hw => by
    obtain ⟨k, rfl, h1, h2⟩ := mem_rgW hw
    exact ⟨k, rfl, by omega, by omega⟩) with ⟨x', h, hn⟩ | h
  · simp only [m_tells_apart, b_tells_apart, p_bind, b_ok, b_exn, b_bad, b_ite, s_ok, s_exn, s_bad, s_ite, q_nx, q_rt, q_exn, q_bad, q_ite, f_nx, f_rt, f_exn, f_bad, f_ite, i_ok, i_rt, i_int, i_bl, i_tt, i_ff, p_ret, p_eC, p_eVar, p_eOp, p_eUn, p_aNil, p_aCons, p_eCall, p_isB, p_tV, p_tNot, p_tAnd, p_tOr, p_eAnd, p_eOr, p_eNot, p_eIf, p_eTup, p_eLst, p_eChain, p_sBind, p_sSeq, p_sPass, p_sRet, p_sRetN, p_sDrop, p_sSet, p_sIf, p_sRaise, p_sAug, p_sUnp, p_sPar, p_sFor, p_bdN, p_bdT, p_body, p_add, p_addS, p_addT, p_addL, p_addI, p_sub, p_mul, p_mulI, p_mulS, p_fdiv, p_mod, p_pow, p_lt, p_le, p_gt, p_ge, p_isN, p_isB2, p_isnN, p_isnB2, p_neg, p_ixT, p_ixL, p_ixO, p_ofS, p_abs, p_max2, p_lenT, p_lenL, p_lenO, p_eq, p_ne, p_isI, p_iLst, p_iTup, p_iRg1, p_iRg2, p_eNewS, p_eComp, p_inB, p_in, p_nin, p_sSto, List.map_cons, List.map_nil, List.cons_append, List.nil_append, List.append_nil, List.set_cons_zero, List.set_cons_succ, List.getElem?_cons_zero, List.getElem?_cons_succ, List.getElem?_nil, List.length_cons, List.length_nil, List.zip_cons_cons, List.zip_nil_left, List.zip_nil_right, List.foldl_cons, List.foldl_nil, List.replicate, Nat.sub_self, Nat.reduceSub, Nat.reduceAdd, Nat.reduceLeDiff, Nat.reduceLT, Nat.zero_add, Int.reduceLT, Int.reduceLE, Int.reduceNeg, Int.reduceSub, Int.reduceAdd, Int.reduceMul, Int.reduceBEq, Bool.or_true, Bool.true_or, Bool.or_false, Bool.false_or, if_true, if_false, ite_true, ite_false, reduceIte, Bool.not_true, Bool.not_false, Bool.true_and, Bool.and_true, Bool.false_and, Bool.and_false, decide_true, decide_false, Bool.false_eq_true, eq_self, reduceCtorEq, true_and, and_true, and_self, sh, shs, dat, dats, ev_int, ev_str, ev_bl, ev_tup, ev_lst, ev_nil, ev_cons, ev_nc, ev_cn, ev_nn, ev_ni, ev_in, at0, at1, at2, at3, cst0, cst1, cst2, cst3, cst4, cst7, cst9, check_fraction_eval f, check_fraction_eval g, check_rule_eval, s7, e7, h, hn]
  · simp only [m_tells_apart, b_tells_apart, p_bind, b_ok, b_exn, b_bad, b_ite, s_ok, s_exn, s_bad, s_ite, q_nx, q_rt, q_exn, q_bad, q_ite, f_nx, f_rt, f_exn, f_bad, f_ite, i_ok, i_rt, i_int, i_bl, i_tt, i_ff, p_ret, p_eC, p_eVar, p_eOp, p_eUn, p_aNil, p_aCons, p_eCall, p_isB, p_tV, p_tNot, p_tAnd, p_tOr, p_eAnd, p_eOr, p_eNot, p_eIf, p_eTup, p_eLst, p_eChain, p_sBind, p_sSeq, p_sPass, p_sRet, p_sRetN, p_sDrop, p_sSet, p_sIf, p_sRaise, p_sAug, p_sUnp, p_sPar, p_sFor, p_bdN, p_bdT, p_body, p_add, p_addS, p_addT, p_addL, p_addI, p_sub, p_mul, p_mulI, p_mulS, p_fdiv, p_mod, p_pow, p_lt, p_le, p_gt, p_ge, p_isN, p_isB2, p_isnN, p_isnB2, p_neg, p_ixT, p_ixL, p_ixO, p_ofS, p_abs, p_max2, p_lenT, p_lenL, p_lenO, p_eq, p_ne, p_isI, p_iLst, p_iTup, p_iRg1, p_iRg2, p_eNewS, p_eComp, p_inB, p_in, p_nin, p_sSto, List.map_cons, List.map_nil, List.cons_append, List.nil_append, List.append_nil, List.set_cons_zero, List.set_cons_succ, List.getElem?_cons_zero, List.getElem?_cons_succ, List.getElem?_nil, List.length_cons, List.length_nil, List.zip_cons_cons, List.zip_nil_left, List.zip_nil_right, List.foldl_cons, List.foldl_nil, List.replicate, Nat.sub_self, Nat.reduceSub, Nat.reduceAdd, Nat.reduceLeDiff, Nat.reduceLT, Nat.zero_add, Int.reduceLT, Int.reduceLE, Int.reduceNeg, Int.reduceSub, Int.reduceAdd, Int.reduceMul, Int.reduceBEq, Bool.or_true, Bool.true_or, Bool.or_false, Bool.false_or, if_true, if_false, ite_true, ite_false, reduceIte, Bool.not_true, Bool.not_false, Bool.true_and, Bool.and_true, Bool.false_and, Bool.and_false, decide_true, decide_false, Bool.false_eq_true, eq_self, reduceCtorEq, true_and, and_true, and_self, sh, shs, dat, dats, ev_int, ev_str, ev_bl, ev_tup, ev_lst, ev_nil, ev_cons, ev_nc, ev_cn, ev_nn, ev_ni, ev_in, at0, at1, at2, at3, cst0, cst1, cst2, cst3, cst4, cst7, cst9, check_fraction_eval f, check_fraction_eval g, check_rule_eval, s7, e7, h]
theorem apP_comm (r : Ru) (a b p q : Int) : apP r a b p q = apP r p q a b := by
  funext w
  cases w with
  | int k => simp only [apP]; congr 1; exact decide_eq_decide.mpr ⟨Eq.symm, Eq.symm⟩
  | _ => rfl
/-- with the same units two fractions are near -/
theorem apart (r : Ru) {a b p q P : Int} (hb : 0 < b) (hq : 0 < q) (h : uo r (a * P) b = uo r (p * P) q) : -(2 * (b * q)) < (a * q - p * b) * P ∧ (a * q - p * b) * P < 2 * (b * q) := by
  have h1 := uo_bound r (a * P) hb
  have h2 := uo_bound r (p * P) hq
  rw [← h] at h2
  generalize uo r (a * P) b = u at *
  have m1 : (u * b - a * P) * q < b * q := Int.mul_lt_mul_of_pos_right h1.2 hq
  have m2 : -b * q < (u * b - a * P) * q := Int.mul_lt_mul_of_pos_right h1.1 hq
  have m3 : (u * q - p * P) * b < q * b := Int.mul_lt_mul_of_pos_right h2.2 hb
  have m4 : -q * b < (u * q - p * P) * b := Int.mul_lt_mul_of_pos_right h2.1 hb
  have e1 : (u * b - a * P) * q = u * b * q - a * q * P := by rw [Int.sub_mul]; congr 1; ac_rfl
  have e2 : (u * q - p * P) * b = u * b * q - p * b * P := by rw [Int.sub_mul]; congr 1 <;> ac_rfl
  have e3 : (a * q - p * b) * P = a * q * P - p * b * P := Int.sub_mul ..
  have e4 : q * b = b * q := Int.mul_comm ..
  have e5 : -b * q = -(b * q) := Int.neg_mul ..
  have e6 : -q * b = -(b * q) := by rw [Int.neg_mul, e4]
  rw [e1] at m1 m2
  rw [e2] at m3 m4
  omega
theorem apart_ne (r : Ru) {a b p q P : Int} (hb : 0 < b) (hq : 0 < q) (hn : a * q ≠ p * b) (hP : 2 * (b * q) ≤ P) : uo r (a * P) b ≠ uo r (p * P) q := by
  intro h
  obtain ⟨h1, h2⟩ := apart r hb hq h
  have hbq : 0 < b * q := Int.mul_pos hb hq
  rcases Int.lt_or_gt_of_ne (show a * q - p * b ≠ 0 by omega) with h3 | h3
  · have : (a * q - p * b) * P ≤ (-1) * P := Int.mul_le_mul_of_nonneg_right (by omega) (by omega)
    omega
  · have : 1 * P ≤ (a * q - p * b) * P := Int.mul_le_mul_of_nonneg_right (by omega) (by omega)
    omega
/-! ### all fractions from 0 to 1 -/
def isT (k : Int) : W → Bool
  | .int x => decide (Int.gcd x k = 1)
  | _ => false
def mkP (k : Int) : W → W
  | .int x => fr x k
  | _ => .non
def rowT : W → List W
  | .int k => ((rgW 0 (k + 1).toNat).filter (isT k)).map (mkP k)
  | _ => []
def evW (m : Int) : List W := (rgW 1 m.toNat).flatMap rowT
def evP (m : Nat) : List (Int × Int) := (List.range m).flatMap fun i => ((List.range (i + 2)).filter fun (t : Nat) => decide (Nat.gcd t (i + 1) = 1)).map fun (t : Nat) => ((t : Int), ((i + 1 : Nat) : Int))
def mk2 (p : Int × Int) : W := fr p.1 p.2
theorem ev_eq {m : Int} (h0 : 1 ≤ m) (h1 : m ≤ 12) : evW m = (evP m.toNat).map mk2 := by
  have : m = 1 ∨ m = 2 ∨ m = 3 ∨ m = 4 ∨ m = 5 ∨ m = 6 ∨ m = 7 ∨ m = 8 ∨ m = 9 ∨ m = 10 ∨ m = 11 ∨ m = 12 := by omega
  rcases this with rfl | rfl | rfl | rfl | rfl | rfl | rfl | rfl | rfl | rfl | rfl | rfl <;> rfl
theorem ev_fin : ∀ i : Fin 13, (evP i.val).Nodup ∧ (∀ p ∈ evP i.val, 0 ≤ p.1 ∧ p.1 ≤ p.2 ∧ 1 ≤ p.2 ∧ p.2 ≤ 12 ∧ Int.gcd p.1 p.2 = 1) ∧ (evP i.val).length ≤ 60 ∧ (i.val = 0 ∨ 0 < (evP i.val).length) := by decide +kernel
structure Ev (m : Int) : Prop where
  eq : evW m = (evP m.toNat).map mk2
  nd : (evP m.toNat).Nodup
  mem : ∀ p ∈ evP m.toNat, 0 ≤ p.1 ∧ p.1 ≤ p.2 ∧ 1 ≤ p.2 ∧ p.2 ≤ 12 ∧ Int.gcd p.1 p.2 = 1
  len : (evP m.toNat).length ≤ 60
  pos : 0 < (evP m.toNat).length
theorem ev {m : Int} (h0 : 1 ≤ m) (h1 : m ≤ 12) : Ev m := by
  have h := ev_fin ⟨m.toNat, by omega⟩
  exact ⟨ev_eq h0 h1, h.1, h.2.1, h.2.2.1, h.2.2.2.resolve_left (show ¬ m.toNat = 0 by omega)⟩
theorem ev_fr {p : Int × Int} (h : 0 ≤ p.1 ∧ p.1 ≤ p.2 ∧ 1 ≤ p.2 ∧ p.2 ≤ 12 ∧ Int.gcd p.1 p.2 = 1) : Fr p.1 p.2 := ⟨h.2.2.1, by omega, by omega, by omega, h.2.2.2.2⟩
/-! ### how many values: all unlike -/
theorem step_len (ks : List Int) (x : Int) : (PyProof.Rows.step_dedup ks x).length ≤ ks.length + 1 := by
  by_cases h : x ∈ ks
  · rw [sd_in h]; omega
  · rw [sd_out h, List.length_append]; exact Nat.le_refl _
theorem fold_len : ∀ (ns ks : List Int), (ns.foldl PyProof.Rows.step_dedup ks).length ≤ ks.length + ns.length
  | [], ks => Nat.le_refl _
  | x :: r, ks => by
    rw [List.foldl_cons, List.length_cons]
    have h1 := fold_len r (PyProof.Rows.step_dedup ks x)
    have h2 := step_len ks x
    omega
theorem fold_nd : ∀ (ns ks : List Int), ks.Nodup → ((ns.foldl PyProof.Rows.step_dedup ks).length = ks.length + ns.length ↔ (ks ++ ns).Nodup)
  | [], ks, h => by simp [h]
  | x :: r, ks, h => by
    rw [List.foldl_cons, List.length_cons]
    by_cases hx : x ∈ ks
    · rw [sd_in hx]
      constructor
      · intro e
        have := fold_len r ks
        omega
      · intro e
        have := (List.nodup_append.mp e).2.2 x hx x List.mem_cons_self
        exact absurd rfl this
    · rw [sd_out hx]
      have h2 : (ks ++ [x]).Nodup := List.nodup_append.mpr ⟨h, by simp, fun a ha b hb e => by
        rw [List.mem_singleton.mp hb] at e
        exact hx (e ▸ ha)⟩
      have h3 := fold_nd r (ks ++ [x]) h2
      rw [List.append_assoc, List.length_append] at h3
      rw [show ks.length + (r.length + 1) = ks.length + [x].length + r.length by simp; omega]
      exact h3
theorem dd_nd (ns : List Int) : (dedup ns).length = ns.length ↔ ns.Nodup := by
  rw [dedup_eq]
  have := fold_nd ns [] List.nodup_nil
  simpa using this
theorem dd_le (ns : List Int) : (dedup ns).length ≤ ns.length := by
  rw [dedup_eq]
  have := fold_len ns []
  simpa using this
theorem nd_inj {α β : Type} {f : α → β} : ∀ {l : List α}, (l.map f).Nodup → ∀ {x y : α}, x ∈ l → y ∈ l → f x = f y → x = y
  | [], _, x, y, hx, _, _ => by simp at hx
  | z :: l, h, x, y, hx, hy, e => by
    rw [List.map_cons, List.nodup_cons] at h
    rcases List.mem_cons.mp hx with h1 | h1
    · rcases List.mem_cons.mp hy with h2 | h2
      · rw [h1, h2]
      · exact absurd (by rw [← h1, e]; exact List.mem_map_of_mem h2) h.1
    · rcases List.mem_cons.mp hy with h2 | h2
      · exact absurd (by rw [← h2, ← e]; exact List.mem_map_of_mem h1) h.1
      · exact nd_inj h.2 h1 h2 e
/-! ### the digits that tell all apart -/
def uoP (r : Ru) (d : Int) (p : Int × Int) : Int := uo r (p.1 * pw d) p.2
def us (r : Ru) (m d : Int) : List Int := (evP m.toNat).map (uoP r d)
theorem us_three (r : Ru) {m : Int} (e : Ev m) : (us r m 3).Nodup := by
  unfold us
  have h := e.nd
  have hm := e.mem
  generalize evP m.toNat = l at *
  refine List.Pairwise.map _ ?_ (List.Pairwise.and_mem.mp h)
  intro x y ⟨hx, hy, hn⟩ hu
  have mx := hm x hx
  have my := hm y hy
  apply hn
  have hne : x.1 * y.2 = y.1 * x.2 := by
    apply Classical.byContradiction
    intro hne
    refine apart_ne r (P := pw 3) (by omega) (by omega) hne ?_ hu
    have : x.2 * y.2 ≤ 12 * 12 := Int.mul_le_mul mx.2.2.2.1 my.2.2.2.1 (by omega) (by decide)
    show _ ≤ (1000 : Int)
    omega
  have ax : An x.1 x.2 := (ev_fr mx).an
  have ay : An y.1 y.2 := (ev_fr my).an
  obtain ⟨h1, h2⟩ := (an_eq ax ay).mpr hne.symm
  exact Prod.ext h1 h2
def told (r : Ru) (m : Int) : Int := if (us r m 0).Nodup then 0 else if (us r m 1).Nodup then 1 else if (us r m 2).Nodup then 2 else 3
theorem told_bd (r : Ru) (m : Int) : 0 ≤ told r m ∧ told r m ≤ 3 := by
  unfold told
  (repeat' split) <;> omega
theorem told_is (r : Ru) {m : Int} (e : Ev m) {d : Int} (h0 : 0 ≤ d) (h1 : d ≤ told r m) : (us r m d).Nodup ↔ d = told r m := by
  have h3 := us_three r e
  unfold told at h1 ⊢
  have hd : d = 0 ∨ d = 1 ∨ d = 2 ∨ d = 3 := by
    have := (told_bd r m).2
    unfold told at this
    omega
  by_cases q0 : (us r m 0).Nodup
  · rw [if_pos q0] at h1 ⊢
    have : d = 0 := by omega
    subst this
    exact ⟨fun _ => rfl, fun _ => q0⟩
  · by_cases q1 : (us r m 1).Nodup
    · rw [if_neg q0, if_pos q1] at h1 ⊢
      rcases hd with rfl | rfl | rfl | rfl
      · exact ⟨fun h => absurd h q0, fun h => by omega⟩
      · exact ⟨fun _ => rfl, fun _ => q1⟩
      · omega
      · omega
    · by_cases q2 : (us r m 2).Nodup
      · rw [if_neg q0, if_neg q1, if_pos q2] at h1 ⊢
        rcases hd with rfl | rfl | rfl | rfl
        · exact ⟨fun h => absurd h q0, fun h => by omega⟩
        · exact ⟨fun h => absurd h q1, fun h => by omega⟩
        · exact ⟨fun _ => rfl, fun _ => q2⟩
        · omega
      · rw [if_neg q0, if_neg q1, if_neg q2] at h1 ⊢
        rcases hd with rfl | rfl | rfl | rfl
        · exact ⟨fun h => absurd h q0, fun h => by omega⟩
        · exact ⟨fun h => absurd h q1, fun h => by omega⟩
        · exact ⟨fun h => absurd h q2, fun h => by omega⟩
        · exact ⟨fun _ => rfl, fun _ => h3⟩
end Pu
end
section
namespace Pu
open PySem Zz Mir
/-! ### steps over open parts -/
theorem tlt_eval {A B : EM} {env : En} {S : Sto} {x y : Int} (h1 : A env S = .ok (.int x) S) (h2 : B env S = .ok (.int y) S) : tV (eOp opLt A B) env S = .ok (decide (x < y)) S := by
  simp only [p_tV, p_eOp, p_bind, h1, h2, b_ok, p_lt, p_isB]
theorem lenset_eval {A : EM} {env : En} {S : Sto} {ns : List Int} (h1 : A env S = .ok (.lst (ns.map W.int)) S) (hl : ns.length ≤ 4000) : eLenSet A env S = .ok (.int (dedup ns).length) S := by
  simp only [p_eLenSet, h1, b_ok, p_ls ns hl]
theorem lenL_eval {A : EM} {env : En} {S : Sto} {l : List W} (h1 : A env S = .ok (.lst l) S) : eCall cLen (aCons A aNil) env S = .ok (.int l.length) S := by
  simp only [p_eCall, p_aCons, p_aNil, p_bind, h1, b_ok, p_ret, p_lenL]
theorem while_go {t : En → M Bool} {b : SM} {env env' : En} {S : Sto} {n : Nat} (h1 : t env S = .ok true S) (h2 : b env S = .nx env' S) : loopW t b (n + 1) env S = loopW t b n env' S := by
  simp only [p_while, h1, h2]
theorem while_end {t : En → M Bool} {b : SM} {env : En} {S : Sto} {n : Nat} (h1 : t env S = .ok false S) : loopW t b (n + 1) env S = .nx env S := by
  simp only [p_while, h1]
theorem for_eval {src : AM} {bd : Bd} {b : SM} {env : En} {S : Sto} {ws : List W} (h1 : src env S = .ok ws S) : sFor src bd b env S = loopL bd b ws env S := by
  simp only [p_sFor, p_sBind, h1, s_ok]
theorem lst_src {A : EM} {env : En} {S : Sto} {l : List W} (h1 : A env S = .ok (.lst l) S) : iLst A env S = .ok l S := by
  simp only [p_iLst, p_bind, h1, b_ok]
theorem rg2_eval {A B : EM} {env : En} {S : Sto} {x y : Int} (h1 : A env S = .ok (.int x) S) (h2 : B env S = .ok (.int y) S) (s1 : smI x) (s2 : smI y) : iRg2 A B env S = .ok (rgW x (y - x).toNat) S := by
  simp only [p_iRg2, p_bind, h1, h2, b_ok, s1, s2, and_self, if_true]
theorem oext_eval {A : EM} {env : En} {S : Sto} {i : Nat} {own zs : List W} (h0 : env[i]? = some (.own own)) (h1 : A env S = .ok (.lst zs) S) (hl : own.length + zs.length < 1000000) : sOext i A env S = .nx (env.set i (.own (own ++ zs))) S := by
  unfold sOext
  simp only [h0, p_sBind, h1, s_ok, hl, if_true]
/-! ### digits_to_tell -/
theorem u_dtt0 (env : En) (S : Sto) : b_digits_to_tell_C0 env S = (eTup (aCons (eVar 5) (aCons (eVar 3) aNil))) env S := rfl
theorem u_dtt1 (env : En) (S : Sto) : b_digits_to_tell_D1 env S = (tV (eOp opEq (eCall m_common (aCons (eVar 5) (aCons (eVar 3) aNil))) (eC (.int 1)))) env S := rfl
theorem u_dtt3 (env : En) (S : Sto) : b_digits_to_tell_C3 env S = (eCall m_units_of (aCons (eVar 6) (aCons (eVar 4) (aCons (eVar 1) aNil)))) env S := rfl
theorem u_dtt4 (env : En) (S : Sto) : b_digits_to_tell_L4 env S = (sAug 4 opAddI (eC (.int 1))) env S := rfl
theorem u_dtt2 : b_digits_to_tell_L2 = sOext 2 (eComp (iRg1 (eOp opAdd (eVar 3) (eC (.int 1)))) (bdN 5) [5] b_digits_to_tell_D1 b_digits_to_tell_C0) := rfl
theorem rowT_len {k : Int} (k0 : 1 ≤ k) (k1 : k ≤ 12) : (rowT (.int k)).length ≤ 13 := by
  unfold rowT
  rw [List.length_map]
  refine Nat.le_trans (List.length_filter_le _ _) ?_
  rw [rgW_len]
  omega
theorem dtt_row {k : Int} (k0 : 1 ≤ k) (k1 : k ≤ 12) (z0 z1 : Sl) (acc : List W) (hl : acc.length ≤ 1000) (S : Sto) : b_digits_to_tell_L2 [z0, z1, .own acc, .val (.int k), .no, .no, .no] S = .nx [z0, z1, .own (acc ++ rowT (.int k)), .val (.int k), .no, .no, .no] S := by
  have hc : compL (bdN 5) b_digits_to_tell_D1 b_digits_to_tell_C0 [z0, z1, .own acc, .val (.int k), .no, .no, .no] (rgW 0 (k + 1).toNat) [] S = .ok (rowT (.int k)) S := by
    rw [comp_all (f := mkP k) (p := isT k) (rgW 0 (k + 1).toNat) [] (fun w hw => by
      obtain ⟨x, rfl, h1, h2⟩ := mem_rgW hw
      have e1 := common_eval x k S (by omega) (by omega)
      refine ⟨_, rfl, ?_, fun _ => ?_⟩
      · rw [u_dtt1]
        have : decide (((Int.gcd x k : Nat) : Int) = 1) = isT k (.int x) := decide_eq_decide.mpr (by omega)
        simp only [p_bind, b_ok, b_exn, b_bad, b_ite, s_ok, s_exn, s_bad, s_ite, q_nx, q_rt, q_exn, q_bad, q_ite, f_nx, f_rt, f_exn, f_bad, f_ite, i_ok, i_rt, i_int, i_bl, i_tt, i_ff, p_ret, p_eC, p_eVar, p_eOp, p_eUn, p_aNil, p_aCons, p_eCall, p_isB, p_tV, p_tNot, p_tAnd, p_tOr, p_eAnd, p_eOr, p_eNot, p_eIf, p_eTup, p_eLst, p_eChain, p_sBind, p_sSeq, p_sPass, p_sRet, p_sRetN, p_sDrop, p_sSet, p_sIf, p_sRaise, p_sAug, p_sUnp, p_sPar, p_sFor, p_bdN, p_bdT, p_body, p_add, p_addS, p_addT, p_addL, p_addI, p_sub, p_mul, p_mulI, p_mulS, p_fdiv, p_mod, p_pow, p_lt, p_le, p_gt, p_ge, p_isN, p_isB2, p_isnN, p_isnB2, p_neg, p_ixT, p_ixL, p_ixO, p_ofS, p_abs, p_max2, p_lenT, p_lenL, p_lenO, p_eq, p_ne, p_isI, p_iLst, p_iTup, p_iRg1, p_iRg2, p_eNewS, p_eComp, p_inB, p_in, p_nin, p_sSto, List.map_cons, List.map_nil, List.cons_append, List.nil_append, List.append_nil, List.set_cons_zero, List.set_cons_succ, List.getElem?_cons_zero, List.getElem?_cons_succ, List.getElem?_nil, List.length_cons, List.length_nil, List.zip_cons_cons, List.zip_nil_left, List.zip_nil_right, List.foldl_cons, List.foldl_nil, List.replicate, Nat.sub_self, Nat.reduceSub, Nat.reduceAdd, Nat.reduceLeDiff, Nat.reduceLT, Nat.zero_add, Int.reduceLT, Int.reduceLE, Int.reduceNeg, Int.reduceSub, Int.reduceAdd, Int.reduceMul, Int.reduceBEq, Bool.or_true, Bool.true_or, Bool.or_false, Bool.false_or, if_true, if_false, ite_true, ite_false, reduceIte, Bool.not_true, Bool.not_false, Bool.true_and, Bool.and_true, Bool.false_and, Bool.and_false, decide_true, decide_false, Bool.false_eq_true, eq_self, reduceCtorEq, true_and, and_true, and_self, sh, shs, dat, dats, ev_int, ev_str, ev_bl, ev_tup, ev_lst, ev_nil, ev_cons, ev_nc, ev_cn, ev_nn, ev_ni, ev_in, at0, at1, at2, at3, cst0, cst1, cst2, cst3, cst4, cst7, cst9, e1, beq_dec, this]
      · rw [u_dtt0]
        simp only [p_bind, b_ok, b_exn, b_bad, b_ite, s_ok, s_exn, s_bad, s_ite, q_nx, q_rt, q_exn, q_bad, q_ite, f_nx, f_rt, f_exn, f_bad, f_ite, i_ok, i_rt, i_int, i_bl, i_tt, i_ff, p_ret, p_eC, p_eVar, p_eOp, p_eUn, p_aNil, p_aCons, p_eCall, p_isB, p_tV, p_tNot, p_tAnd, p_tOr, p_eAnd, p_eOr, p_eNot, p_eIf, p_eTup, p_eLst, p_eChain, p_sBind, p_sSeq, p_sPass, p_sRet, p_sRetN, p_sDrop, p_sSet, p_sIf, p_sRaise, p_sAug, p_sUnp, p_sPar, p_sFor, p_bdN, p_bdT, p_body, p_add, p_addS, p_addT, p_addL, p_addI, p_sub, p_mul, p_mulI, p_mulS, p_fdiv, p_mod, p_pow, p_lt, p_le, p_gt, p_ge, p_isN, p_isB2, p_isnN, p_isnB2, p_neg, p_ixT, p_ixL, p_ixO, p_ofS, p_abs, p_max2, p_lenT, p_lenL, p_lenO, p_eq, p_ne, p_isI, p_iLst, p_iTup, p_iRg1, p_iRg2, p_eNewS, p_eComp, p_inB, p_in, p_nin, p_sSto, List.map_cons, List.map_nil, List.cons_append, List.nil_append, List.append_nil, List.set_cons_zero, List.set_cons_succ, List.getElem?_cons_zero, List.getElem?_cons_succ, List.getElem?_nil, List.length_cons, List.length_nil, List.zip_cons_cons, List.zip_nil_left, List.zip_nil_right, List.foldl_cons, List.foldl_nil, List.replicate, Nat.sub_self, Nat.reduceSub, Nat.reduceAdd, Nat.reduceLeDiff, Nat.reduceLT, Nat.zero_add, Int.reduceLT, Int.reduceLE, Int.reduceNeg, Int.reduceSub, Int.reduceAdd, Int.reduceMul, Int.reduceBEq, Bool.or_true, Bool.true_or, Bool.or_false, Bool.false_or, if_true, if_false, ite_true, ite_false, reduceIte, Bool.not_true, Bool.not_false, Bool.true_and, Bool.and_true, Bool.false_and, Bool.and_false, decide_true, decide_false, Bool.false_eq_true, eq_self, reduceCtorEq, true_and, and_true, and_self, sh, shs, dat, dats, ev_int, ev_str, ev_bl, ev_tup, ev_lst, ev_nil, ev_cons, ev_nc, ev_cn, ev_nn, ev_ni, ev_in, at0, at1, at2, at3, cst0, cst1, cst2, cst3, cst4, cst7, cst9]
        rfl) (by rw [rgW_len]; simp only [List.length_nil]; omega)]
    rfl
  have h1 := rowT_len k0 k1
  rw [u_dtt2, oext_eval (own := acc) rfl (comp_eval (rg1_eval (x := k + 1) rfl (by unfold smI; omega)) rfl hc) (by omega)]
  rfl
theorem dtt_rows {m : Int} (h0 : 1 ≤ m) (h1 : m ≤ 12) (z0 z1 : Sl) (S : Sto) : ∃ y3, loopL (bdN 3) b_digits_to_tell_L2 (rgW 1 m.toNat) [z0, z1, .own [], .no, .no, .no, .no] S = .nx [z0, z1, .own (evW m), y3, .no, .no, .no] S := by
  obtain ⟨x', h⟩ := loop_acc (bd := bdN 3) (body := b_digits_to_tell_L2) (S := S) (fun (x : Sl) acc => [z0, z1, .own acc, x, .no, .no, .no]) rowT 13 900 (rgW 1 m.toNat) .no [] (fun w hw x acc hl => by
    obtain ⟨k, rfl, k0, k1⟩ := mem_rgW hw
    exact ⟨_, .val (.int k), rfl, dtt_row k0 (by omega) z0 z1 acc (by omega) S⟩) (fun w hw => by
    obtain ⟨k, rfl, k0, k1⟩ := mem_rgW hw
    exact rowT_len k0 (by omega)) (by rw [rgW_len]; simp only [List.length_nil]; omega)
  exact ⟨x', by rw [List.nil_append] at h; exact h⟩
def dttC : En → M Bool := (tV (eOp opLt (eLenSet (eComp (iLst (eVar 2)) (bdN 6) [6] cYes b_digits_to_tell_C3)) (eCall cLen (aCons (eVar 2) aNil))))
def uoW (r : Ru) (d : Int) : W → W
  | .tup [.int t, .int k] => .int (uo r (t * pw d) k)
  | _ => .non
theorem us_map (r : Ru) {m d : Int} (e : Ev m) : (evW m).map (uoW r d) = (us r m d).map W.int := by
  rw [e.eq, List.map_map]
  unfold us
  rw [List.map_map]
  rfl
theorem us_len (r : Ru) {m d : Int} (e : Ev m) : (evW m).length = (us r m d).length := by
  rw [e.eq, List.length_map]
  unfold us
  rw [List.length_map]
theorem ev_mem {m : Int} (e : Ev m) {w : W} (h : w ∈ evW m) : ∃ t k, w = fr t k ∧ (t, k) ∈ evP m.toNat ∧ Fr t k := by
  rw [e.eq] at h
  obtain ⟨p, hp, rfl⟩ := List.mem_map.mp h
  exact ⟨p.1, p.2, rfl, hp, ev_fr (e.mem p hp)⟩
theorem dtt_cond (r : Ru) {m d : Int} (e : Ev m) (d0 : 0 ≤ d) (d6 : d ≤ 6) (z0 z3 z5 : Sl) (S : Sto) : dttC [z0, .val (.str (nm r)), .val (.lst (evW m)), z3, .val (.int d), z5, .no] S = .ok (!decide (us r m d).Nodup) S := by
  have hl := us_len r (d := d) e
  have hle : (us r m d).length ≤ 60 := by unfold us; rw [List.length_map]; exact e.len
  have hc : compL (bdN 6) cYes b_digits_to_tell_C3 [z0, .val (.str (nm r)), .val (.lst (evW m)), z3, .val (.int d), z5, .no] (evW m) [] S = .ok ((us r m d).map W.int) S := by
    rw [← us_map r e]
    refine comp_map (uoW r d) (evW m) (fun w hw => ?_) (by omega)
    obtain ⟨t, k, rfl, _, f⟩ := ev_mem e hw
    have k0 := f.b0
    have e1 := units_eval r t k d S d0 d6 (by omega) f.s
    refine ⟨_, rfl, ?_⟩
    rw [u_dtt3]
    simp only [p_bind, b_ok, b_exn, b_bad, b_ite, s_ok, s_exn, s_bad, s_ite, q_nx, q_rt, q_exn, q_bad, q_ite, f_nx, f_rt, f_exn, f_bad, f_ite, i_ok, i_rt, i_int, i_bl, i_tt, i_ff, p_ret, p_eC, p_eVar, p_eOp, p_eUn, p_aNil, p_aCons, p_eCall, p_isB, p_tV, p_tNot, p_tAnd, p_tOr, p_eAnd, p_eOr, p_eNot, p_eIf, p_eTup, p_eLst, p_eChain, p_sBind, p_sSeq, p_sPass, p_sRet, p_sRetN, p_sDrop, p_sSet, p_sIf, p_sRaise, p_sAug, p_sUnp, p_sPar, p_sFor, p_bdN, p_bdT, p_body, p_add, p_addS, p_addT, p_addL, p_addI, p_sub, p_mul, p_mulI, p_mulS, p_fdiv, p_mod, p_pow, p_lt, p_le, p_gt, p_ge, p_isN, p_isB2, p_isnN, p_isnB2, p_neg, p_ixT, p_ixL, p_ixO, p_ofS, p_abs, p_max2, p_lenT, p_lenL, p_lenO, p_eq, p_ne, p_isI, p_iLst, p_iTup, p_iRg1, p_iRg2, p_eNewS, p_eComp, p_inB, p_in, p_nin, p_sSto, List.map_cons, List.map_nil, List.cons_append, List.nil_append, List.append_nil, List.set_cons_zero, List.set_cons_succ, List.getElem?_cons_zero, List.getElem?_cons_succ, List.getElem?_nil, List.length_cons, List.length_nil, List.zip_cons_cons, List.zip_nil_left, List.zip_nil_right, List.foldl_cons, List.foldl_nil, List.replicate, Nat.sub_self, Nat.reduceSub, Nat.reduceAdd, Nat.reduceLeDiff, Nat.reduceLT, Nat.zero_add, Int.reduceLT, Int.reduceLE, Int.reduceNeg, Int.reduceSub, Int.reduceAdd, Int.reduceMul, Int.reduceBEq, Bool.or_true, Bool.true_or, Bool.or_false, Bool.false_or, if_true, if_false, ite_true, ite_false, reduceIte, Bool.not_true, Bool.not_false, Bool.true_and, Bool.and_true, Bool.false_and, Bool.and_false, decide_true, decide_false, Bool.false_eq_true, eq_self, reduceCtorEq, true_and, and_true, and_self, sh, shs, dat, dats, ev_int, ev_str, ev_bl, ev_tup, ev_lst, ev_nil, ev_cons, ev_nc, ev_cn, ev_nn, ev_ni, ev_in, at0, at1, at2, at3, cst0, cst1, cst2, cst3, cst4, cst7, cst9, e1]
    rfl
  have h1 := lenset_eval (comp_eval (bd := bdN 6) (is := [6]) (lst_src (A := eVar 2) (env := [z0, .val (.str (nm r)), .val (.lst (evW m)), z3, .val (.int d), z5, .no]) (S := S) rfl) rfl hc) (by omega)
  have h2 := lenL_eval (A := eVar 2) (env := [z0, .val (.str (nm r)), .val (.lst (evW m)), z3, .val (.int d), z5, .no]) (S := S) (l := evW m) rfl
  unfold dttC
  rw [tlt_eval h1 h2]
  congr 1
  have h3 := dd_nd (us r m d)
  have h4 := dd_le (us r m d)
  rw [hl]
  by_cases hn : (us r m d).Nodup
  · have := h3.mpr hn
    rw [decide_eq_true hn, decide_eq_false (by omega)]
    rfl
  · rw [decide_eq_false hn, decide_eq_true]
    · rfl
    · have : ¬ (dedup (us r m d)).length = (us r m d).length := fun h => hn (h3.mp h)
      omega
theorem dtt_while (r : Ru) {m : Int} (e : Ev m) (z0 z3 z5 : Sl) (S : Sto) : ∀ (k n : Nat) (d : Int), k < n → 0 ≤ d → d + k = told r m →
    loopW dttC b_digits_to_tell_L4 n [z0, .val (.str (nm r)), .val (.lst (evW m)), z3, .val (.int d), z5, .no] S = .nx [z0, .val (.str (nm r)), .val (.lst (evW m)), z3, .val (.int (told r m)), z5, .no] S
  | k, 0, d, h, _, _ => by omega
  | 0, n + 1, d, _, d0, hd => by
    have hb := told_bd r m
    have e1 : d = told r m := by omega
    have h1 := dtt_cond r e (d := d) d0 (by omega) z0 z3 z5 S
    rw [decide_eq_true ((told_is r e d0 (by omega)).mpr e1)] at h1
    rw [while_end h1, e1]
  | k + 1, n + 1, d, hk, d0, hd => by
    have hb := told_bd r m
    have h1 := dtt_cond r e (d := d) d0 (by omega) z0 z3 z5 S
    rw [decide_eq_false (fun h => by have := (told_is r e d0 (by omega)).mp h; omega)] at h1
    have h2 : b_digits_to_tell_L4 [z0, .val (.str (nm r)), .val (.lst (evW m)), z3, .val (.int d), z5, .no] S = .nx [z0, .val (.str (nm r)), .val (.lst (evW m)), z3, .val (.int (d + 1)), z5, .no] S := by
      rw [u_dtt4]
      simp only [p_bind, b_ok, b_exn, b_bad, b_ite, s_ok, s_exn, s_bad, s_ite, q_nx, q_rt, q_exn, q_bad, q_ite, f_nx, f_rt, f_exn, f_bad, f_ite, i_ok, i_rt, i_int, i_bl, i_tt, i_ff, p_ret, p_eC, p_eVar, p_eOp, p_eUn, p_aNil, p_aCons, p_eCall, p_isB, p_tV, p_tNot, p_tAnd, p_tOr, p_eAnd, p_eOr, p_eNot, p_eIf, p_eTup, p_eLst, p_eChain, p_sBind, p_sSeq, p_sPass, p_sRet, p_sRetN, p_sDrop, p_sSet, p_sIf, p_sRaise, p_sAug, p_sUnp, p_sPar, p_sFor, p_bdN, p_bdT, p_body, p_add, p_addS, p_addT, p_addL, p_addI, p_sub, p_mul, p_mulI, p_mulS, p_fdiv, p_mod, p_pow, p_lt, p_le, p_gt, p_ge, p_isN, p_isB2, p_isnN, p_isnB2, p_neg, p_ixT, p_ixL, p_ixO, p_ofS, p_abs, p_max2, p_lenT, p_lenL, p_lenO, p_eq, p_ne, p_isI, p_iLst, p_iTup, p_iRg1, p_iRg2, p_eNewS, p_eComp, p_inB, p_in, p_nin, p_sSto, List.map_cons, List.map_nil, List.cons_append, List.nil_append, List.append_nil, List.set_cons_zero, List.set_cons_succ, List.getElem?_cons_zero, List.getElem?_cons_succ, List.getElem?_nil, List.length_cons, List.length_nil, List.zip_cons_cons, List.zip_nil_left, List.zip_nil_right, List.foldl_cons, List.foldl_nil, List.replicate, Nat.sub_self, Nat.reduceSub, Nat.reduceAdd, Nat.reduceLeDiff, Nat.reduceLT, Nat.zero_add, Int.reduceLT, Int.reduceLE, Int.reduceNeg, Int.reduceSub, Int.reduceAdd, Int.reduceMul, Int.reduceBEq, Bool.or_true, Bool.true_or, Bool.or_false, Bool.false_or, if_true, if_false, ite_true, ite_false, reduceIte, Bool.not_true, Bool.not_false, Bool.true_and, Bool.and_true, Bool.false_and, Bool.and_false, decide_true, decide_false, Bool.false_eq_true, eq_self, reduceCtorEq, true_and, and_true, and_self, sh, shs, dat, dats, ev_int, ev_str, ev_bl, ev_tup, ev_lst, ev_nil, ev_cons, ev_nc, ev_cn, ev_nn, ev_ni, ev_in, at0, at1, at2, at3, cst0, cst1, cst2, cst3, cst4, cst7, cst9]
    rw [while_go h1 h2]
    exact dtt_while r e z0 z3 z5 S k n (d + 1) (by omega) (by omega) (by omega)
def dttT : SM := (sSeq (sSet 4 (eC (.int 0))) (sSeq (loopW dttC b_digits_to_tell_L4 fuelN) (sRet (eVar 4))))
theorem dtt_eval (r : Ru) {m : Int} (h0 : 1 ≤ m) (h1 : m ≤ 12) (S : Sto) : m_digits_to_tell [.int m, .str (nm r)] S = .ok (.int (told r m)) S := by
  have e := ev h0 h1
  obtain ⟨y3, hr⟩ := dtt_rows h0 h1 (.val (.int m)) (.val (.str (nm r))) S
  have hb := told_bd r m
  have hw := dtt_while r e (.val (.int m)) y3 .no S (told r m).toNat fuelN 0 (by unfold fuelN; omega) (by decide) (by omega)
  have hT : dttT [.val (.int m), .val (.str (nm r)), .val (.lst (evW m)), y3, .no, .no, .no] S = .rt (.int (told r m)) S := by
    unfold dttT
    have h4 : sSet 4 (eC (.int 0)) [.val (.int m), .val (.str (nm r)), .val (.lst (evW m)), y3, .no, .no, .no] S = .nx [.val (.int m), .val (.str (nm r)), .val (.lst (evW m)), y3, .val (.int 0), .no, .no] S := rfl
    rw [step_nx h4, step_nx hw]
    exact ret_eval rfl
  have eq : b_digits_to_tell = (sSeq (sIf (Zz.tNot (tV (eCall m_is_int (aCons (eVar 0) (aCons (eC (.int 1)) (aCons (eC (.int 12)) aNil)))))) (sRaise 3) sPass)
    (sSeq (sDrop (eCall m_check_rule (aCons (eVar 1) aNil)))
    (sSeq (sOwn 2 aNil)
    (sSeq (sFor (iRg2 (eC (.int 1)) (eOp opAdd (eVar 0) (eC (.int 1)))) (bdN 3) b_digits_to_tell_L2)
    (sFrz 2 dttT))))) := rfl
  have e1 : decide (1 ≤ m) = true := decide_eq_true h0
  have e2 : decide (m ≤ 12) = true := decide_eq_true h1
  have s1 : smI 1 := by decide
  have s2 : smI (m + 1) := by unfold smI; omega
  have e3 : m + 1 - 1 = m := by omega
  generalize evW m = l at *
  simp only [m_digits_to_tell, eq, p_bind, b_ok, b_exn, b_bad, b_ite, s_ok, s_exn, s_bad, s_ite, q_nx, q_rt, q_exn, q_bad, q_ite, f_nx, f_rt, f_exn, f_bad, f_ite, i_ok, i_rt, i_int, i_bl, i_tt, i_ff, p_ret, p_eC, p_eVar, p_eOp, p_eUn, p_aNil, p_aCons, p_eCall, p_isB, p_tV, p_tNot, p_tAnd, p_tOr, p_eAnd, p_eOr, p_eNot, p_eIf, p_eTup, p_eLst, p_eChain, p_sBind, p_sSeq, p_sPass, p_sRet, p_sRetN, p_sDrop, p_sSet, p_sIf, p_sRaise, p_sAug, p_sUnp, p_sPar, p_sFor, p_bdN, p_bdT, p_body, p_add, p_addS, p_addT, p_addL, p_addI, p_sub, p_mul, p_mulI, p_mulS, p_fdiv, p_mod, p_pow, p_lt, p_le, p_gt, p_ge, p_isN, p_isB2, p_isnN, p_isnB2, p_neg, p_ixT, p_ixL, p_ixO, p_ofS, p_abs, p_max2, p_lenT, p_lenL, p_lenO, p_eq, p_ne, p_isI, p_iLst, p_iTup, p_iRg1, p_iRg2, p_eNewS, p_eComp, p_inB, p_in, p_nin, p_sSto, List.map_cons, List.map_nil, List.cons_append, List.nil_append, List.append_nil, List.set_cons_zero, List.set_cons_succ, List.getElem?_cons_zero, List.getElem?_cons_succ, List.getElem?_nil, List.length_cons, List.length_nil, List.zip_cons_cons, List.zip_nil_left, List.zip_nil_right, List.foldl_cons, List.foldl_nil, List.replicate, Nat.sub_self, Nat.reduceSub, Nat.reduceAdd, Nat.reduceLeDiff, Nat.reduceLT, Nat.zero_add, Int.reduceLT, Int.reduceLE, Int.reduceNeg, Int.reduceSub, Int.reduceAdd, Int.reduceMul, Int.reduceBEq, Bool.or_true, Bool.true_or, Bool.or_false, Bool.false_or, if_true, if_false, ite_true, ite_false, reduceIte, Bool.not_true, Bool.not_false, Bool.true_and, Bool.and_true, Bool.false_and, Bool.and_false, decide_true, decide_false, Bool.false_eq_true, eq_self, reduceCtorEq, true_and, and_true, and_self, sh, shs, dat, dats, ev_int, ev_str, ev_bl, ev_tup, ev_lst, ev_nil, ev_cons, ev_nc, ev_cn, ev_nn, ev_ni, ev_in, at0, at1, at2, at3, cst0, cst1, cst2, cst3, cst4, cst7, cst9, nO_nil, nO_cons, kl_nil, kl_cons, p_eSl, p_oNone, p_oSome, p_oI, p_slL, p_eLenSet, p_sOwn, p_sFrz, z_own, z_val, z_no, p_sApp, a_own, p_eOix, x_own, x_int, beq_self_eq_true, is_int_eval, e1, e2, check_rule_eval, s1, s2, e3, hr, hT]
end Pu
end
section
namespace K14
open PySem Zz Mir Pu
theorem u__law_call (env : En) (S : Sto) : b__law_call env S = (sSeq (sIf (tV (eOp opEq (eVar 0) (eC (.int 0))))
  (sRet (eCall m_range_of (aCons (eVar 1) (aCons (eVar 2) (aCons (eC (.str "down")) aNil)))))
  sPass)
  (sSeq (sIf (tV (eOp opEq (eVar 0) (eC (.int 1))))
  (sRet (eCall m_reads_as (aCons (eTup (aCons (eC (.int 1)) (aCons (eC (.int 2)) aNil))) (aCons (eVar 1) (aCons (eVar 2) (aCons (eC (.str "down")) aNil))))))
  sPass)
  (sSeq (sIf (tV (eOp opEq (eVar 0) (eC (.int 2))))
  (sRet (eCall m_fractions_reading (aCons (eVar 1) (aCons (eVar 2) (aCons (eC (.str "down")) (aCons (eC (.int 3)) aNil))))))
  sPass)
  (sSeq (sIf (tV (eOp opEq (eVar 0) (eC (.int 3))))
  (sRet (eCall m_count_reading (aCons (eVar 1) (aCons (eVar 2) (aCons (eC (.str "down")) (aCons (eC (.int 3)) aNil))))))
  sPass)
  (sSeq (sIf (tV (eOp opEq (eVar 0) (eC (.int 4))))
  (sRet (eCall m_format_decimal (aCons (eVar 1) (aCons (eVar 2) aNil))))
  sPass)
  (sSeq (sIf (tV (eOp opEq (eVar 0) (eC (.int 5))))
  (sRet (eCall m_fractions_reading (aCons (eC (.int 0)) (aCons (eC (.int 0)) (aCons (eC (.str "down")) (aCons (eVar 1) aNil))))))
  sPass)
  (sSeq (sIf (tV (eOp opEq (eVar 0) (eC (.int 6))))
  (sRet (eCall m_count_reading (aCons (eC (.int 0)) (aCons (eC (.int 0)) (aCons (eC (.str "down")) (aCons (eVar 1) aNil))))))
  sPass)
  (sSeq (sIf (tV (eOp opEq (eVar 0) (eC (.int 7))))
  (sRet (eCall m_digits_to_tell (aCons (eVar 1) (aCons (eC (.str "down")) aNil))))
  sPass)
  (sSeq (sIf (tV (eOp opEq (eVar 0) (eC (.int 8))))
  (sRet (eCall m_digits_of (aCons (eTup (aCons (eC (.int 1)) (aCons (eC (.int 3)) aNil))) (aCons (eVar 1) aNil))))
  sPass)
  (sSeq (sIf (tV (eOp opEq (eVar 0) (eC (.int 9))))
  (sRet (eCall m_digit_at (aCons (eTup (aCons (eC (.int 1)) (aCons (eC (.int 3)) aNil))) (aCons (eVar 1) aNil))))
  sPass)
  (sSeq (sIf (tV (eOp opEq (eVar 0) (eC (.int 10))))
  (sRet (eCall m_digit_sum (aCons (eTup (aCons (eC (.int 1)) (aCons (eC (.int 3)) aNil))) (aCons (eVar 1) aNil))))
  sPass)
  (sSeq (sIf (tV (eOp opEq (eVar 0) (eC (.int 11))))
  (sRet (eCall m_traps_under (aCons (eVar 1) (aCons (eVar 2) (aCons (eVar 3) (aCons (eC (.str "down")) aNil))))))
  sPass)
  (sSeq (sIf (tV (eOp opEq (eVar 0) (eC (.int 12))))
  (sRet (eCall m_twice (aCons (eTup (aCons (eC (.int 1)) (aCons (eC (.int 3)) aNil))) (aCons (eVar 1) (aCons (eVar 2) (aCons (eC (.str "down")) aNil))))))
  sPass)
  (sSeq (sIf (tV (eOp opEq (eVar 0) (eC (.int 13))))
  (sRet (eCall m_count_decimals (aCons (eVar 1) (aCons (eVar 2) aNil))))
  sPass)
  (sSeq (sIf (tV (eOp opEq (eVar 0) (eC (.int 14))))
  (sRet (eCall m_decimals_in (aCons (eVar 1) (aCons (eVar 2) aNil))))
  sPass)
  (sRet (eIf (tV (eOp opEq (eVar 0) (eC (.int 15)))) (eMeth "tell" m_Reader_tell (eVar 1) (aCons (eVar 2) (aCons (eVar 3) (aCons (eC (.str "down")) aNil)))) (eMeth "tell" m_Reader_tell (eVar 1) (aCons (eC (.int 0)) (aCons (eC (.int 0)) (aCons (eVar 2) aNil))))))))))))))))))))) env S := rfl
theorem u__law_asked_T0 (env : En) (S : Sto) : b__law_asked_T0 env S = (sIf (tV (eOp opEq (eVar 0) (eC (.int 1))))
  (sDrop (eCall m__law_span_call (aCons (eVar 1) (aCons (eVar 2) aNil))))
  (sDrop (eCall m__law_call (aCons (eVar 1) (aCons (eVar 2) (aCons (eVar 3) (aCons (eVar 4) aNil))))))) env S := rfl
theorem u__law_asked (env : En) (S : Sto) : b__law_asked env S = (sSeq (sSet 5 (eC .non))
  (sSeq (sTry 6 6 b__law_asked_T0 (sSet 5 (eVar 6)))
  (sRet (eIf (tV (eOp opIs (eVar 5) (eC .non))) (eC (.str "done")) (eCall m__law_error (aCons (eVar 5) aNil)))))) env S := rfl
theorem u__law_steps_C0 (env : En) (S : Sto) : b__law_steps_C0 env S = (eCall m__law_asked (aCons (eC (.int 2)) (aCons (eC (.int 11)) (aCons (eVar 1) (aCons (eC (.int 1)) (aCons (eC (.int 0)) aNil)))))) env S := rfl
theorem u__law_steps_L1 (env : En) (S : Sto) : b__law_steps_L1 env S = (sApp 5 (eIf (tV (eOp opEq (eVar 2) (eC (.int 11)))) (eCall m__law_asked (aCons (eC (.int 2)) (aCons (eVar 2) (aCons (eVar 1) (aCons (eVar 6) (aCons (eVar 7) aNil)))))) (eCall m__law_asked (aCons (eC (.int 2)) (aCons (eVar 2) (aCons (eVar 6) (aCons (eVar 7) (aCons (eC (.int 0)) aNil)))))))) env S := rfl
theorem u__law_steps_L2 (env : En) (S : Sto) : b__law_steps_L2 env S = (sSeq (sSet 4 (eLst (aCons (eTup (aCons (eC (.int 3)) (aCons (eC (.int 3)) (aCons (eC (.int 4)) aNil)))) (aCons (eTup (aCons (eC (.int 3)) (aCons (eC (.int 3)) (aCons (eOp opSub (eC (.int 0)) (eC (.int 1))) aNil)))) (aCons (eTup (aCons (eC (.int 3)) (aCons (eC (.int 3)) (aCons (eC .non) aNil)))) (aCons (eTup (aCons (eC (.int 3)) (aCons (eC (.int 3)) (aCons (eC (.bl true)) aNil)))) (aCons (eTup (aCons (eC (.int 3)) (aCons (eC (.int 7)) (aCons (eC (.int 0)) aNil)))) (aCons (eTup (aCons (eC (.int 3)) (aCons (eC .non) (aCons (eC (.int 0)) aNil)))) (aCons (eTup (aCons (eC (.int 3)) (aCons (eC (.int 3)) (aCons (eC (.int 3)) aNil)))) (aCons (eTup (aCons (eC (.int 3)) (aCons (eC (.int 6)) (aCons (eC (.int 0)) aNil)))) aNil))))))))))
  (sSeq (sOwn 5 aNil)
  (sSeq (sFor (iLst (eVar 4)) (bdT [1, 6, 7])
  b__law_steps_L1)
  (sFrz 5 (sIf (tV (eOp opNe (eVar 5) (eOp opAdd (eOp opMul (eLst (aCons (eC (.str "number")) aNil)) (eC (.int 6))) (eOp opMul (eLst (aCons (eC (.str "done")) aNil)) (eC (.int 2))))))
  (sRet (eC (.bl false)))
  sPass))))) env S := rfl
theorem u__law_steps_C3 (env : En) (S : Sto) : b__law_steps_C3 env S = (eCall m__law_asked (aCons (eC (.int 2)) (aCons (eC (.int 14)) (aCons (eVar 6) (aCons (eVar 9) (aCons (eC (.int 0)) aNil)))))) env S := rfl
theorem u__law_steps (env : En) (S : Sto) : b__law_steps env S = (sSeq (sIf (tV (eOp opNe (eComp (Zz.iTup (eTup (aCons (eC .non) (aCons (eC (.int 0)) (aCons (eC (.int 61)) (aCons (eC (.bl true)) (aCons (eC (.str "1")) (aCons (eC (.int 1)) (aCons (eC (.int 60)) aNil))))))))) (bdN 1) [1] cYes b__law_steps_C0) (eOp opAdd (eOp opMul (eLst (aCons (eC (.str "number")) aNil)) (eC (.int 5))) (eOp opMul (eLst (aCons (eC (.str "done")) aNil)) (eC (.int 2))))))
  (sRet (eC (.bl false)))
  sPass)
  (sSeq (sFor (iLst (eLst (aCons (eTup (aCons (eC (.int 11)) (aCons (eC (.int 3)) aNil))) (aCons (eTup (aCons (eC (.int 12)) (aCons (eC (.int 3)) aNil))) aNil)))) (bdT [2, 3])
  b__law_steps_L2)
  (sSeq (sSet 8 (eTup (aCons (eTup (aCons (eC (.int 0)) (aCons (eC (.int 1)) aNil))) (aCons (eC (.bl true)) (aCons (eTup (aCons (eC (.int 1)) (aCons (eC (.int 1)) aNil))) (aCons (eC (.bl false)) aNil))))))
  (sRet (eOp opEq (eComp (Zz.iTup (eTup (aCons (eTup (aCons (eVar 8) (aCons (eC (.int 3)) aNil))) (aCons (eTup (aCons (eVar 8) (aCons (eC (.int 4)) aNil))) (aCons (eTup (aCons (eTup (aCons (eTup (aCons (eC (.int 0)) (aCons (eC (.int 1)) aNil))) (aCons (eC (.bl true)) (aCons (eTup (aCons (eC (.int 1)) (aCons (eC (.int 1)) aNil))) (aCons (eC (.bl true)) aNil))))) (aCons (eC (.int 3)) aNil))) (aCons (eTup (aCons (eVar 0) (aCons (eC (.int 2)) aNil))) aNil)))))) (bdT [6, 9]) [6, 9] cYes b__law_steps_C3) (eLst (aCons (eC (.str "done")) (aCons (eC (.str "number")) (aCons (eC (.str "number")) (aCons (eC (.str "done")) aNil)))))))))) env S := rfl
theorem u__law_reader_C0 (env : En) (S : Sto) : b__law_reader_C0 env S = (eCall m__law_asked (aCons (eC (.int 2)) (aCons (eC (.int 15)) (aCons (eVar 1) (aCons (eVar 6) (aCons (eVar 7) aNil)))))) env S := rfl
theorem u__law_reader_C1 (env : En) (S : Sto) : b__law_reader_C1 env S = (eCall m__law_asked (aCons (eC (.int 2)) (aCons (eC (.int 16)) (aCons (eVar 1) (aCons (eVar 8) (aCons (eC (.int 0)) aNil)))))) env S := rfl
theorem u__law_reader_T2 (env : En) (S : Sto) : b__law_reader_T2 env S = (sDrop (eMeth "undo" m_Reader_undo (eVar 1) aNil)) env S := rfl
theorem u__law_reader (env : En) (S : Sto) : b__law_reader env S = (sSeq (sSet 0 (eTup (aCons (eTup (aCons (eC (.int 0)) (aCons (eC (.int 1)) aNil))) (aCons (eC (.bl true)) (aCons (eTup (aCons (eC (.int 1)) (aCons (eC (.int 1)) aNil))) (aCons (eC (.bl true)) aNil))))))
  (sSeq (sSet 1 (eMake m_Reader___init__ (aCons (eVar 0) aNil)))
  (sSeq (sIf (tV (eOp opNe (eComp (Zz.iTup (eTup (aCons (eTup (aCons (eC .non) (aCons (eC (.int 0)) aNil))) (aCons (eTup (aCons (eC (.int 102)) (aCons (eC (.int 0)) aNil))) (aCons (eTup (aCons (eC (.int 0)) (aCons (eC (.int 7)) aNil))) (aCons (eTup (aCons (eC (.bl true)) (aCons (eC (.int 0)) aNil))) (aCons (eTup (aCons (eC (.int 0)) (aCons (eC .non) aNil))) aNil))))))) (bdT [6, 7]) [6, 7] cYes b__law_reader_C0) (eOp opMul (eLst (aCons (eC (.str "number")) aNil)) (eC (.int 5)))))
  (sRet (eC (.bl false)))
  sPass)
  (sSeq (sIf (Zz.tOr (tV (eOp opNe (eComp (Zz.iTup (eTup (aCons (eC .non) (aCons (eC (.str "best")) aNil)))) (bdN 8) [8] cYes b__law_reader_C1) (eOp opMul (eLst (aCons (eC (.str "rule")) aNil)) (eC (.int 2))))) (tV (eOp opNe (eCall m__law_asked (aCons (eC (.int 2)) (aCons (eC (.int 15)) (aCons (eVar 1) (aCons (eC (.int 5)) (aCons (eC (.int 0)) aNil)))))) (eC (.str "none")))))
  (sRet (eC (.bl false)))
  sPass)
  (sSeq (sSet 2 (eC .non))
  (sSeq (sTry 6 3 b__law_reader_T2 (sSet 2 (eVar 3)))
  (sSeq (sIf (Zz.tOr (tV (eOp opIs (eVar 2) (eC .non))) (Zz.tOr (tV (eOp opNe (eCall m__law_error (aCons (eVar 2) aNil)) (eC (.str "none")))) (Zz.tOr (tV (eOp opNe (eMeth "span" m_Reader_span (eVar 1) aNil) (eVar 0))) (tV (eOp opNe (eUn (lenO m_Reader___len__) (eVar 1)) (eC (.int 0)))))))
  (sRet (eC (.bl false)))
  sPass)
  (sSeq (sIf (Zz.tOr (tV (eOp opNe (eMeth "simplest" m_Reader_simplest (eVar 1) aNil) (eTup (aCons (eC (.int 0)) (aCons (eC (.int 1)) aNil))))) (Zz.tOr (tV (eOp opNe (eMeth "shortest" m_Reader_shortest (eVar 1) aNil) (eTup (aCons (eC (.int 0)) (aCons (eC (.int 0)) aNil))))) (tV (eOp opNe (eMeth "tell" m_Reader_tell (eVar 1) (aCons (eC (.int 1)) (aCons (eC (.int 0)) (aCons (eC (.str "down")) aNil)))) (eTup (aCons (eTup (aCons (eC (.int 1)) (aCons (eC (.int 1)) aNil))) (aCons (eC (.bl true)) (aCons (eTup (aCons (eC (.int 1)) (aCons (eC (.int 1)) aNil))) (aCons (eC (.bl true)) aNil)))))))))
  (sRet (eC (.bl false)))
  sPass)
  (sSeq (sSet 4 (eTup (aCons (eTup (aCons (eC (.int 1)) (aCons (eC (.int 3)) aNil))) (aCons (eC (.bl false)) (aCons (eTup (aCons (eC (.int 166667)) (aCons (eC (.int 500000)) aNil))) (aCons (eC (.bl true)) aNil))))))
  (sSeq (sIf (Zz.tOr (tV (eOp opNe (eCall m_shortest (aCons (eVar 4) aNil)) (eTup (aCons (eLst (aCons (eC (.int 333334)) aNil)) (aCons (eC (.int 6)) aNil))))) (tV (eOp opNe (eCall m__law_asked (aCons (eC (.int 1)) (aCons (eC (.int 1)) (aCons (eTup (aCons (eTup (aCons (eC (.int 1)) (aCons (eC (.int 3)) aNil))) (aCons (eC (.bl false)) (aCons (eTup (aCons (eC (.int 1666667)) (aCons (eC (.int 5000000)) aNil))) (aCons (eC (.bl true)) aNil))))) (aCons (eC (.int 0)) (aCons (eC (.int 0)) aNil)))))) (eC (.str "none")))))
  (sRet (eC (.bl false)))
  sPass)
  (sSeq (sIf (tV (eOp opNe (eCall m_simplest (aCons (eTup (aCons (eTup (aCons (eC (.int 1)) (aCons (eC (.int 1000)) aNil))) (aCons (eC (.bl true)) (aCons (eTup (aCons (eC (.int 1)) (aCons (eC (.int 1000)) aNil))) (aCons (eC (.bl true)) aNil))))) aNil)) (eTup (aCons (eC (.int 1)) (aCons (eC (.int 1000)) aNil)))))
  (sRet (eC (.bl false)))
  sPass)
  (sSeq (sSet 5 (eMake m_Reader___init__ (aCons (eTup (aCons (eTup (aCons (eC (.int 1)) (aCons (eC (.int 3)) aNil))) (aCons (eC (.bl true)) (aCons (eTup (aCons (eC (.int 1)) (aCons (eC (.int 3)) aNil))) (aCons (eC (.bl true)) aNil))))) aNil)))
  (sRet (eAnd (eOp opIs (eMeth "shortest" m_Reader_shortest (eVar 5) aNil) (eC .non)) (eAnd (eOp opEq (eMeth "simplest" m_Reader_simplest (eVar 5) aNil) (eTup (aCons (eC (.int 1)) (aCons (eC (.int 3)) aNil)))) (eOp opIs (eMeth "simplest" m_Reader_simplest (eMake m_Reader___init__ (aCons (eTup (aCons (eTup (aCons (eC (.int 1)) (aCons (eC (.int 1001)) aNil))) (aCons (eC (.bl true)) (aCons (eTup (aCons (eC (.int 1)) (aCons (eC (.int 1001)) aNil))) (aCons (eC (.bl true)) aNil))))) aNil)) aNil) (eC .non))))))))))))))))) env S := rfl
theorem u__law_units_asked_C0 (env : En) (S : Sto) : b__law_units_asked_C0 env S = (eCall m__law_asked (aCons (eC (.int 2)) (aCons (eVar 5) (aCons (eVar 1) (aCons (eC (.int 0)) (aCons (eC (.int 0)) aNil)))))) env S := rfl
theorem u__law_units_asked_L1 (env : En) (S : Sto) : b__law_units_asked_L1 env S = (sIf (tV (eOp opNe (eComp (iRg1 (eC (.int 5))) (bdN 5) [5] cYes b__law_units_asked_C0) (eOp opMul (eLst (aCons (eC (.str "number")) aNil)) (eC (.int 5)))))
  (sRet (eC (.bl false)))
  sPass) env S := rfl
theorem u__law_units_asked_C2 (env : En) (S : Sto) : b__law_units_asked_C2 env S = (eCall m__law_asked (aCons (eC (.int 2)) (aCons (eVar 5) (aCons (eC (.int 0)) (aCons (eVar 1) (aCons (eC (.int 0)) aNil)))))) env S := rfl
theorem u__law_units_asked_C3 (env : En) (S : Sto) : b__law_units_asked_C3 env S = (eCall m__law_asked (aCons (eC (.int 2)) (aCons (eVar 5) (aCons (eVar 0) (aCons (eVar 1) (aCons (eC (.int 0)) aNil)))))) env S := rfl
theorem u__law_units_asked_L4 (env : En) (S : Sto) : b__law_units_asked_L4 env S = (sIf (Zz.tOr (tV (eOp opNe (eComp (iRg1 (eC (.int 5))) (bdN 5) [5] cYes b__law_units_asked_C2) (eOp opMul (eLst (aCons (eC (.str "number")) aNil)) (eC (.int 5))))) (tV (eOp opNe (eComp (Zz.iTup (eTup (aCons (eC (.int 13)) (aCons (eC (.int 14)) aNil)))) (bdN 5) [5] cYes b__law_units_asked_C3) (eOp opMul (eLst (aCons (eC (.str "number")) aNil)) (eC (.int 2))))))
  (sRet (eC (.bl false)))
  sPass) env S := rfl
theorem u__law_units_asked_C5 (env : En) (S : Sto) : b__law_units_asked_C5 env S = (eCall m__law_asked (aCons (eC (.int 2)) (aCons (eVar 5) (aCons (eC (.int 101)) (aCons (eC (.int 0)) (aCons (eC (.int 0)) aNil)))))) env S := rfl
theorem u__law_units_asked_C6 (env : En) (S : Sto) : b__law_units_asked_C6 env S = (eCall m__law_asked (aCons (eC (.int 2)) (aCons (eVar 5) (aCons (eOp opSub (eC (.int 0)) (eC (.int 101000000))) (aCons (eC (.int 6)) (aCons (eC (.int 0)) aNil)))))) env S := rfl
theorem u__law_units_asked_C7 (env : En) (S : Sto) : b__law_units_asked_C7 env S = (eCall m__law_asked (aCons (eC (.int 2)) (aCons (eVar 2) (aCons (eVar 1) (aCons (eC (.int 0)) (aCons (eC (.int 0)) aNil)))))) env S := rfl
theorem u__law_units_asked_C8 (env : En) (S : Sto) : b__law_units_asked_C8 env S = (eCall m__law_asked (aCons (eC (.int 2)) (aCons (eVar 2) (aCons (eVar 6) (aCons (eC (.int 0)) (aCons (eC (.int 0)) aNil)))))) env S := rfl
theorem u__law_units_asked_L9 (env : En) (S : Sto) : b__law_units_asked_L9 env S = (sSeq (sIf (tV (eOp opNe (eComp (Zz.iTup (eTup (aCons (eC .non) (aCons (eOp opSub (eVar 3) (eC (.int 1))) (aCons (eOp opAdd (eVar 4) (eC (.int 1))) (aCons (eC (.bl true)) (aCons (eCall cStr (aCons (eVar 3) aNil)) aNil))))))) (bdN 1) [1] cYes b__law_units_asked_C7) (eOp opMul (eLst (aCons (eC (.str "number")) aNil)) (eC (.int 5)))))
  (sRet (eC (.bl false)))
  sPass)
  (sIf (tV (eOp opNe (eComp (Zz.iTup (eTup (aCons (eVar 3) (aCons (eVar 4) aNil)))) (bdN 6) [6] cYes b__law_units_asked_C8) (eOp opMul (eLst (aCons (eC (.str "done")) aNil)) (eC (.int 2)))))
  (sRet (eC (.bl false)))
  sPass)) env S := rfl
theorem u__law_units_asked (env : En) (S : Sto) : b__law_units_asked env S = (sSeq (sFor (iLst (eLst (aCons (eC .non) (aCons (eC (.int 102)) (aCons (eOp opSub (eC (.int 0)) (eC (.int 102))) (aCons (eC (.bl true)) (aCons (eC (.str "1")) aNil))))))) (bdN 1)
  b__law_units_asked_L1)
  (sSeq (sFor (iLst (eLst (aCons (eC .non) (aCons (eC (.int 7)) (aCons (eOp opSub (eC (.int 0)) (eC (.int 1))) (aCons (eC (.bl true)) (aCons (eC (.str "1")) aNil))))))) (bdN 1)
  b__law_units_asked_L4)
  (sSeq (sIf (Zz.tOr (tV (eOp opNe (eComp (iRg1 (eC (.int 5))) (bdN 5) [5] cYes b__law_units_asked_C5) (eOp opMul (eLst (aCons (eC (.str "done")) aNil)) (eC (.int 5))))) (tV (eOp opNe (eComp (iRg1 (eC (.int 5))) (bdN 5) [5] cYes b__law_units_asked_C6) (eOp opMul (eLst (aCons (eC (.str "done")) aNil)) (eC (.int 5))))))
  (sRet (eC (.bl false)))
  sPass)
  (sSeq (sFor (iLst (eLst (aCons (eTup (aCons (eC (.int 5)) (aCons (eC (.int 1)) (aCons (eC (.int 20)) aNil)))) (aCons (eTup (aCons (eC (.int 6)) (aCons (eC (.int 1)) (aCons (eC (.int 20)) aNil)))) (aCons (eTup (aCons (eC (.int 7)) (aCons (eC (.int 1)) (aCons (eC (.int 12)) aNil)))) (aCons (eTup (aCons (eC (.int 8)) (aCons (eC (.int 0)) (aCons (eC (.int 200)) aNil)))) (aCons (eTup (aCons (eC (.int 9)) (aCons (eC (.int 0)) (aCons (eC (.int 100000)) aNil)))) (aCons (eTup (aCons (eC (.int 10)) (aCons (eC (.int 0)) (aCons (eC (.int 100000)) aNil)))) aNil)))))))) (bdT [2, 3, 4])
  b__law_units_asked_L9)
  (sRet (eAnd (eCall m__law_steps (aCons (eVar 0) aNil)) (eCall m__law_reader aNil))))))) env S := rfl
theorem u_law_C0 (env : En) (S : Sto) : b_law_C0 env S = (eCall m__law_asked (aCons (eC (.int 1)) (aCons (eVar 8) (aCons (eVar 5) (aCons (eC (.int 0)) (aCons (eC (.int 0)) aNil)))))) env S := rfl
theorem u_law_L1 (env : En) (S : Sto) : b_law_L1 env S = (sIf (Zz.tOr (tV (eOp opIsn (eCall m_is_range (aCons (eVar 5) aNil)) (eC (.bl false)))) (tV (eOp opNe (eComp (iRg1 (eC (.int 10))) (bdN 8) [8] cYes b_law_C0) (eOp opMul (eLst (aCons (eC (.str "range")) aNil)) (eC (.int 10))))))
  (sRet (eC (.bl false)))
  sPass) env S := rfl
theorem u_law_C2 (env : En) (S : Sto) : b_law_C2 env S = (eCall m__law_asked (aCons (eC (.int 1)) (aCons (eVar 8) (aCons (eVar 6) (aCons (eC (.int 0)) (aCons (eC (.int 0)) aNil)))))) env S := rfl
theorem u_law_C3 (env : En) (S : Sto) : b_law_C3 env S = (eCall m__law_asked (aCons (eC (.int 1)) (aCons (eVar 8) (aCons (eVar 7) (aCons (eC (.int 0)) (aCons (eC (.int 0)) aNil)))))) env S := rfl
theorem u_law_C4 (env : En) (S : Sto) : b_law_C4 env S = (eCall m__law_asked (aCons (eC (.int 1)) (aCons (eVar 8) (aCons (eTup (aCons (eTup (aCons (eC (.int 1)) (aCons (eC (.int 1001)) aNil))) (aCons (eC (.bl true)) (aCons (eTup (aCons (eC (.int 1)) (aCons (eC (.int 1001)) aNil))) (aCons (eC (.bl true)) aNil))))) (aCons (eC (.int 0)) (aCons (eC (.int 0)) aNil)))))) env S := rfl
def j0 : SM := (sFor (iLst (eLst (aCons (eC .non) (aCons (eC (.int 102)) (aCons (eOp opSub (eC (.int 0)) (eC (.int 102))) (aCons (eC (.bl true)) (aCons (eC (.str "1")) aNil))))))) (bdN 1)
  b__law_units_asked_L1)
def j1 : SM := (sFor (iLst (eLst (aCons (eC .non) (aCons (eC (.int 7)) (aCons (eOp opSub (eC (.int 0)) (eC (.int 1))) (aCons (eC (.bl true)) (aCons (eC (.str "1")) aNil))))))) (bdN 1)
  b__law_units_asked_L4)
def j2 : SM := (sIf (Zz.tOr (tV (eOp opNe (eComp (iRg1 (eC (.int 5))) (bdN 5) [5] cYes b__law_units_asked_C5) (eOp opMul (eLst (aCons (eC (.str "done")) aNil)) (eC (.int 5))))) (tV (eOp opNe (eComp (iRg1 (eC (.int 5))) (bdN 5) [5] cYes b__law_units_asked_C6) (eOp opMul (eLst (aCons (eC (.str "done")) aNil)) (eC (.int 5))))))
  (sRet (eC (.bl false)))
  sPass)
def j3 : SM := (sFor (iLst (eLst (aCons (eTup (aCons (eC (.int 5)) (aCons (eC (.int 1)) (aCons (eC (.int 20)) aNil)))) (aCons (eTup (aCons (eC (.int 6)) (aCons (eC (.int 1)) (aCons (eC (.int 20)) aNil)))) (aCons (eTup (aCons (eC (.int 7)) (aCons (eC (.int 1)) (aCons (eC (.int 12)) aNil)))) (aCons (eTup (aCons (eC (.int 8)) (aCons (eC (.int 0)) (aCons (eC (.int 200)) aNil)))) (aCons (eTup (aCons (eC (.int 9)) (aCons (eC (.int 0)) (aCons (eC (.int 100000)) aNil)))) (aCons (eTup (aCons (eC (.int 10)) (aCons (eC (.int 0)) (aCons (eC (.int 100000)) aNil)))) aNil)))))))) (bdT [2, 3, 4])
  b__law_units_asked_L9)
def r_law_units_asked_2 : SM := (sRet (eAnd (eCall m__law_steps (aCons (eVar 0) aNil)) (eCall m__law_reader aNil)))
def r_law_units_asked_1 : SM := (sSeq j0
  (sSeq j1
  (sSeq j2
  (sSeq j3 r_law_units_asked_2))))
def i0 : SM := (sFor (iLst (eVar 4)) (bdN 5)
  b_law_L1)
def i1 : SM := (sIf (Zz.tOr (tV (eOp opIsn (eCall m_is_range (aCons (eVar 6) aNil)) (eC (.bl true)))) (Zz.tOr (tV (eOp opNe (eComp (iRg1 (eC (.int 10))) (bdN 8) [8] cYes b_law_C2) (eOp opMul (eLst (aCons (eC (.str "done")) aNil)) (eC (.int 10))))) (tV (eOp opIsn (eCall m_is_range (aCons (eTup (aCons (eTup (aCons (eC (.int 1)) (aCons (eC (.int 997)) aNil))) (aCons (eC (.bl true)) (aCons (eTup (aCons (eC (.int 1)) (aCons (eC (.int 997)) aNil))) (aCons (eC (.bl true)) aNil))))) aNil)) (eC (.bl true))))))
  (sRet (eC (.bl false)))
  sPass)
def i2 : SM := (sIf (tV (eOp opNe (eComp (iRg1 (eC (.int 10))) (bdN 8) [8] cYes b_law_C3) (eOp opAdd (eOp opAdd (eOp opAdd (eOp opMul (eLst (aCons (eC (.str "none")) aNil)) (eC (.int 2))) (eOp opMul (eLst (aCons (eC (.str "done")) aNil)) (eC (.int 5)))) (eLst (aCons (eC (.str "none")) aNil))) (eOp opMul (eLst (aCons (eC (.str "done")) aNil)) (eC (.int 2))))))
  (sRet (eC (.bl false)))
  sPass)
def i3 : SM := (sIf (tV (eOp opNe (eComp (Zz.iTup (eTup (aCons (eC (.int 2)) (aCons (eC (.int 3)) aNil)))) (bdN 8) [8] cYes b_law_C4) (eOp opMul (eLst (aCons (eC (.str "none")) aNil)) (eC (.int 2)))))
  (sRet (eC (.bl false)))
  sPass)
def rest5 : SM := (sRet (eCall m__law_units_asked (aCons (eVar 6) aNil)))
def rest4 : SM := (sSeq (sSet 7 (eTup (aCons (eTup (aCons (eC (.int 1)) (aCons (eC (.int 3)) aNil))) (aCons (eC (.bl true)) (aCons (eTup (aCons (eC (.int 1)) (aCons (eC (.int 3)) aNil))) (aCons (eC (.bl true)) aNil))))))
  (sSeq i2
  (sSeq i3 rest5)))
def rest3 : SM := (sSeq i1 rest4)
def rest2 : SM := (sSeq (sSet 6 (eTup (aCons (eVar 2) (aCons (eC (.bl true)) (aCons (eVar 3) (aCons (eOp opEq (eCall m__law_draw (aCons (eVar 1) (aCons (eC (.int 2)) aNil))) (eC (.int 0))) aNil)))))) rest3)
def rest1 : SM := (sSeq i0 rest2)
theorem law_eq : b_law = (sSeq (sSet 1 (eCall m__law_start (aCons (eVar 0) aNil)))
  (sSeq (sUnp [2, 3] (eTup (aCons (eTup (aCons (eC (.int 0)) (aCons (eC (.int 1)) aNil))) (aCons (eTup (aCons (eC (.int 1)) (aCons (eC (.int 2)) aNil))) aNil))))
  (sSeq (sSet 4 (eLst (aCons (eC .non) (aCons (eC (.int 5)) (aCons (eTup aNil) (aCons (eTup (aCons (eVar 2) (aCons (eC (.bl true)) (aCons (eVar 3) aNil)))) (aCons (eLst (aCons (eVar 2) (aCons (eC (.bl true)) (aCons (eVar 3) (aCons (eC (.bl true)) aNil))))) (aCons (eTup (aCons (eVar 3) (aCons (eC (.bl true)) (aCons (eVar 2) (aCons (eC (.bl true)) aNil))))) (aCons (eTup (aCons (eVar 2) (aCons (eC (.bl true)) (aCons (eVar 2) (aCons (eC (.bl false)) aNil))))) (aCons (eTup (aCons (eVar 2) (aCons (eC (.bl false)) (aCons (eVar 2) (aCons (eC (.bl true)) aNil))))) (aCons (eTup (aCons (eVar 2) (aCons (eC (.int 1)) (aCons (eVar 3) (aCons (eC (.bl true)) aNil))))) (aCons (eTup (aCons (eVar 2) (aCons (eC (.bl true)) (aCons (eVar 3) (aCons (eC .non) aNil))))) (aCons (eTup (aCons (eTup (aCons (eC (.int 0)) (aCons (eC (.int 2)) aNil))) (aCons (eC (.bl true)) (aCons (eVar 3) (aCons (eC (.bl true)) aNil))))) (aCons (eTup (aCons (eVar 2) (aCons (eC (.bl true)) (aCons (eTup (aCons (eC (.int 2)) (aCons (eC (.int 4)) aNil))) (aCons (eC (.bl true)) aNil))))) (aCons (eTup (aCons (eTup (aCons (eOp opSub (eC (.int 0)) (eC (.int 201))) (aCons (eC (.int 1)) aNil))) (aCons (eC (.bl true)) (aCons (eVar 3) (aCons (eC (.bl true)) aNil))))) (aCons (eTup (aCons (eVar 2) (aCons (eC (.bl true)) (aCons (eTup (aCons (eC (.int 201)) (aCons (eC (.int 1)) aNil))) (aCons (eC (.bl true)) aNil))))) (aCons (eTup (aCons (eVar 2) (aCons (eC (.bl true)) (aCons (eTup (aCons (eC (.int 1)) (aCons (eC (.int 0)) aNil))) (aCons (eC (.bl true)) aNil))))) (aCons (eTup (aCons (eTup (aCons (eC (.bl true)) (aCons (eC (.int 1)) aNil))) (aCons (eC (.bl true)) (aCons (eVar 3) (aCons (eC (.bl true)) aNil))))) (aCons (eTup (aCons (eC (.int 0)) (aCons (eC (.bl true)) (aCons (eVar 3) (aCons (eC (.bl true)) aNil))))) aNil))))))))))))))))))) rest1))) := rfl
theorem _law_units_asked_eq : b__law_units_asked =  r_law_units_asked_1 := rfl
def isT : Zz.R W → Bool
  | .ok (.bl true) _ => true
  | _ => false
theorem isT_of {r : Zz.R W} (h : isT r = true) : ∃ S, r = .ok (.bl true) S := by
  cases r with
  | ok w S =>
    cases w with
    | bl b =>
      cases b with
      | true => exact ⟨S, rfl⟩
      | false => cases h
    | _ => cases h
  | _ => cases h
def oddW : W := .lst [.non, .int 5, .tup [], .tup [fr 0 1, .bl true, fr 1 2], .lst [fr 0 1, .bl true, fr 1 2, .bl true], .tup [fr 1 2, .bl true, fr 0 1, .bl true], .tup [fr 0 1, .bl true, fr 0 1, .bl false], .tup [fr 0 1, .bl false, fr 0 1, .bl true], .tup [fr 0 1, .int 1, fr 1 2, .bl true], .tup [fr 0 1, .bl true, fr 1 2, .non], .tup [fr 0 2, .bl true, fr 1 2, .bl true], .tup [fr 0 1, .bl true, fr 2 4, .bl true], .tup [fr (-201) 1, .bl true, fr 1 2, .bl true], .tup [fr 0 1, .bl true, fr 201 1, .bl true], .tup [fr 0 1, .bl true, fr 1 0, .bl true], .tup [.tup [.bl true, .int 1], .bl true, fr 1 2, .bl true], .tup [.int 0, .bl true, fr 1 2, .bl true]]
def spW (b : Bool) : W := .tup [fr 0 1, .bl true, fr 1 2, .bl b]
/-- the readers that were not made, then those that were -/
def T1 : Sto := List.replicate 17 (.ins [])
def tight : W := .tup [fr 1 3, .bl true, fr 1 3, .bl true]
def T2 (b : Bool) : Sto := T1 ++ [.ins [("now", spW b), ("past", .obj 20)], .lst []]
def T3 (b : Bool) : Sto := T2 b ++ [.ins [("now", tight), ("past", .obj 22)], .lst []]
theorem seqgo {a b : SM} {e e' : En} {S S' : Sto} (h : a e S = .nx e' S') : sSeq a b e S = b e' S' := by
  simp only [p_bind, b_ok, b_exn, b_bad, b_ite, s_ok, s_exn, s_bad, s_ite, q_nx, q_rt, q_exn, q_bad, q_ite, f_nx, f_rt, f_exn, f_bad, f_ite, i_ok, i_rt, i_int, i_bl, i_tt, i_ff, p_ret, p_eC, p_eVar, p_eOp, p_eUn, p_aNil, p_aCons, p_eCall, p_isB, p_tV, p_tNot, p_tAnd, p_tOr, p_eAnd, p_eOr, p_eNot, p_eIf, p_eTup, p_eLst, p_eChain, p_sBind, p_sSeq, p_sPass, p_sRet, p_sRetN, p_sDrop, p_sSet, p_sIf, p_sRaise, p_sAug, p_sUnp, p_sPar, p_sFor, p_bdN, p_bdT, p_body, p_add, p_addS, p_addT, p_addL, p_addI, p_sub, p_mul, p_mulI, p_mulS, p_fdiv, p_mod, p_pow, p_lt, p_le, p_gt, p_ge, p_isN, p_isB2, p_isnN, p_isnB2, p_neg, p_ixT, p_ixL, p_ixO, p_ofS, p_abs, p_max2, p_lenT, p_lenL, p_lenO, p_eq, p_ne, p_isI, p_iLst, p_iTup, p_iRg1, p_iRg2, p_eNewS, p_eComp, p_inB, p_in, p_nin, p_sSto, List.map_cons, List.map_nil, List.cons_append, List.nil_append, List.append_nil, List.set_cons_zero, List.set_cons_succ, List.getElem?_cons_zero, List.getElem?_cons_succ, List.getElem?_nil, List.length_cons, List.length_nil, List.zip_cons_cons, List.zip_nil_left, List.zip_nil_right, List.foldl_cons, List.foldl_nil, List.replicate, Nat.sub_self, Nat.reduceSub, Nat.reduceAdd, Nat.reduceLeDiff, Nat.reduceLT, Nat.zero_add, Int.reduceLT, Int.reduceLE, Int.reduceNeg, Int.reduceSub, Int.reduceAdd, Int.reduceMul, Int.reduceBEq, Bool.or_true, Bool.true_or, Bool.or_false, Bool.false_or, if_true, if_false, ite_true, ite_false, reduceIte, Bool.not_true, Bool.not_false, Bool.true_and, Bool.and_true, Bool.false_and, Bool.and_false, decide_true, decide_false, Bool.false_eq_true, eq_self, reduceCtorEq, true_and, and_true, and_self, sh, shs, dat, dats, ev_int, ev_str, ev_bl, ev_tup, ev_lst, ev_nil, ev_cons, ev_nc, ev_cn, ev_nn, ev_ni, ev_in, at0, at1, at2, at3, cst0, cst1, cst2, cst3, cst4, cst7, cst9, h]
theorem odd_eval (z0 : Sl) (ns : List Int) (c : Int) : i0 [z0, .val (.obj 1), .val (fr 0 1), .val (fr 1 2), .val oddW, .no, .no, .no, .no] (DS ns c []) = .nx [z0, .val (.obj 1), .val (fr 0 1), .val (fr 1 2), .val oddW, .val (.tup [.int 0, .bl true, fr 1 2, .bl true]), .no, .no, .no] (DS ns c T1) := by kernel_rfl
theorem good1 (b : Bool) (z0 z1 z2 z3 z4 z5 : Sl) (ns : List Int) (c : Int) : i1 [z0, z1, z2, z3, z4, z5, .val (spW b), .no, .no] (DS ns c T1) = .nx [z0, z1, z2, z3, z4, z5, .val (spW b), .no, .no] (DS ns c (T2 b)) := by
  cases b with
  | true => kernel_rfl
  | false => kernel_rfl
theorem good2 (b : Bool) (z0 z1 z2 z3 z4 z5 : Sl) (ns : List Int) (c : Int) : i2 [z0, z1, z2, z3, z4, z5, .val (spW b), .val tight, .no] (DS ns c (T2 b)) = .nx [z0, z1, z2, z3, z4, z5, .val (spW b), .val tight, .no] (DS ns c (T3 b)) := by
  cases b with
  | true => kernel_rfl
  | false => kernel_rfl
theorem good3 (z0 z1 z2 z3 z4 z5 z6 z7 : Sl) (S : Sto) : i3 [z0, z1, z2, z3, z4, z5, z6, z7, .no] S = .nx [z0, z1, z2, z3, z4, z5, z6, z7, .no] S := by kernel_rfl
theorem ua0 (w : W) (S : Sto) : j0 [.val w, .no, .no, .no, .no, .no, .no] S = .nx [.val w, .val (.str "1"), .no, .no, .no, .no, .no] S := by kernel_rfl
theorem ua1 (b : Bool) (S : Sto) : j1 [.val (spW b), .val (.str "1"), .no, .no, .no, .no, .no] S = .nx [.val (spW b), .val (.str "1"), .no, .no, .no, .no, .no] S := by
  cases b with
  | true => kernel_rfl
  | false => kernel_rfl
theorem ua2 (w : W) (S : Sto) : j2 [.val w, .val (.str "1"), .no, .no, .no, .no, .no] S = .nx [.val w, .val (.str "1"), .no, .no, .no, .no, .no] S := by kernel_rfl
theorem ua3 (w : W) (S : Sto) : j3 [.val w, .val (.str "1"), .no, .no, .no, .no, .no] S = .nx [.val w, .val (.str "1"), .val (.int 10), .val (.int 0), .val (.int 100000), .no, .no] S := by kernel_rfl
theorem steps_eval (b : Bool) (S : Sto) : m__law_steps [spW b] S = .ok (.bl true) S := by
  cases b with
  | true => kernel_rfl
  | false => kernel_rfl
theorem reader_eval (b : Bool) (ns : List Int) (c : Int) : isT (m__law_reader [] (DS ns c (T3 b))) = true := by
  cases b with
  | true => kernel_rfl
  | false => kernel_rfl
theorem units_eval (b : Bool) (ns : List Int) (c : Int) : isT (m__law_units_asked [spW b] (DS ns c (T3 b))) = true := by
  obtain ⟨S', e⟩ := isT_of (reader_eval b ns c)
  have : m__law_units_asked [spW b] (DS ns c (T3 b)) = .ok (.bl true) S' := by
    have hb : b__law_units_asked [.val (spW b), .no, .no, .no, .no, .no, .no] (DS ns c (T3 b)) = .rt (.bl true) S' := by
      rw [_law_units_asked_eq]
      refine (seqgo (ua0 _ _)).trans ((seqgo (ua1 _ _)).trans ((seqgo (ua2 _ _)).trans ((seqgo (ua3 _ _)).trans ?_)))
      simp only [r_law_units_asked_2, p_bind, b_ok, b_exn, b_bad, b_ite, s_ok, s_exn, s_bad, s_ite, q_nx, q_rt, q_exn, q_bad, q_ite, f_nx, f_rt, f_exn, f_bad, f_ite, i_ok, i_rt, i_int, i_bl, i_tt, i_ff, p_ret, p_eC, p_eVar, p_eOp, p_eUn, p_aNil, p_aCons, p_eCall, p_isB, p_tV, p_tNot, p_tAnd, p_tOr, p_eAnd, p_eOr, p_eNot, p_eIf, p_eTup, p_eLst, p_eChain, p_sBind, p_sSeq, p_sPass, p_sRet, p_sRetN, p_sDrop, p_sSet, p_sIf, p_sRaise, p_sAug, p_sUnp, p_sPar, p_sFor, p_bdN, p_bdT, p_body, p_add, p_addS, p_addT, p_addL, p_addI, p_sub, p_mul, p_mulI, p_mulS, p_fdiv, p_mod, p_pow, p_lt, p_le, p_gt, p_ge, p_isN, p_isB2, p_isnN, p_isnB2, p_neg, p_ixT, p_ixL, p_ixO, p_ofS, p_abs, p_max2, p_lenT, p_lenL, p_lenO, p_eq, p_ne, p_isI, p_iLst, p_iTup, p_iRg1, p_iRg2, p_eNewS, p_eComp, p_inB, p_in, p_nin, p_sSto, List.map_cons, List.map_nil, List.cons_append, List.nil_append, List.append_nil, List.set_cons_zero, List.set_cons_succ, List.getElem?_cons_zero, List.getElem?_cons_succ, List.getElem?_nil, List.length_cons, List.length_nil, List.zip_cons_cons, List.zip_nil_left, List.zip_nil_right, List.foldl_cons, List.foldl_nil, List.replicate, Nat.sub_self, Nat.reduceSub, Nat.reduceAdd, Nat.reduceLeDiff, Nat.reduceLT, Nat.zero_add, Int.reduceLT, Int.reduceLE, Int.reduceNeg, Int.reduceSub, Int.reduceAdd, Int.reduceMul, Int.reduceBEq, Bool.or_true, Bool.true_or, Bool.or_false, Bool.false_or, if_true, if_false, ite_true, ite_false, reduceIte, Bool.not_true, Bool.not_false, Bool.true_and, Bool.and_true, Bool.false_and, Bool.and_false, decide_true, decide_false, Bool.false_eq_true, eq_self, reduceCtorEq, true_and, and_true, and_self, sh, shs, dat, dats, ev_int, ev_str, ev_bl, ev_tup, ev_lst, ev_nil, ev_cons, ev_nc, ev_cn, ev_nn, ev_ni, ev_in, at0, at1, at2, at3, cst0, cst1, cst2, cst3, cst4, cst7, cst9, steps_eval, e]
      try simp only [cond_true]
    unfold m__law_units_asked
    simp only [p_bind, b_ok, b_exn, b_bad, b_ite, s_ok, s_exn, s_bad, s_ite, q_nx, q_rt, q_exn, q_bad, q_ite, f_nx, f_rt, f_exn, f_bad, f_ite, i_ok, i_rt, i_int, i_bl, i_tt, i_ff, p_ret, p_eC, p_eVar, p_eOp, p_eUn, p_aNil, p_aCons, p_eCall, p_isB, p_tV, p_tNot, p_tAnd, p_tOr, p_eAnd, p_eOr, p_eNot, p_eIf, p_eTup, p_eLst, p_eChain, p_sBind, p_sSeq, p_sPass, p_sRet, p_sRetN, p_sDrop, p_sSet, p_sIf, p_sRaise, p_sAug, p_sUnp, p_sPar, p_sFor, p_bdN, p_bdT, p_body, p_add, p_addS, p_addT, p_addL, p_addI, p_sub, p_mul, p_mulI, p_mulS, p_fdiv, p_mod, p_pow, p_lt, p_le, p_gt, p_ge, p_isN, p_isB2, p_isnN, p_isnB2, p_neg, p_ixT, p_ixL, p_ixO, p_ofS, p_abs, p_max2, p_lenT, p_lenL, p_lenO, p_eq, p_ne, p_isI, p_iLst, p_iTup, p_iRg1, p_iRg2, p_eNewS, p_eComp, p_inB, p_in, p_nin, p_sSto, List.map_cons, List.map_nil, List.cons_append, List.nil_append, List.append_nil, List.set_cons_zero, List.set_cons_succ, List.getElem?_cons_zero, List.getElem?_cons_succ, List.getElem?_nil, List.length_cons, List.length_nil, List.zip_cons_cons, List.zip_nil_left, List.zip_nil_right, List.foldl_cons, List.foldl_nil, List.replicate, Nat.sub_self, Nat.reduceSub, Nat.reduceAdd, Nat.reduceLeDiff, Nat.reduceLT, Nat.zero_add, Int.reduceLT, Int.reduceLE, Int.reduceNeg, Int.reduceSub, Int.reduceAdd, Int.reduceMul, Int.reduceBEq, Bool.or_true, Bool.true_or, Bool.or_false, Bool.false_or, if_true, if_false, ite_true, ite_false, reduceIte, Bool.not_true, Bool.not_false, Bool.true_and, Bool.and_true, Bool.false_and, Bool.and_false, decide_true, decide_false, Bool.false_eq_true, eq_self, reduceCtorEq, true_and, and_true, and_self, sh, shs, dat, dats, ev_int, ev_str, ev_bl, ev_tup, ev_lst, ev_nil, ev_cons, ev_nc, ev_cn, ev_nn, ev_ni, ev_in, at0, at1, at2, at3, cst0, cst1, cst2, cst3, cst4, cst7, cst9]
    generalize b__law_units_asked = f at hb
    simp only [hb]
    rfl
  rw [this]
  rfl
theorem odd_set {w0 : W} (z0 : Sl) (S : Sto) (h : m__law_start [w0] [] = .ok (.obj 1) S) : b_law [.val w0, .no, .no, .no, .no, .no, .no, .no, .no] [] = rest1 [.val w0, .val (.obj 1), .val (fr 0 1), .val (fr 1 2), .val oddW, .no, .no, .no, .no] S := by
  rw [law_eq]
  simp only [p_bind, b_ok, b_exn, b_bad, b_ite, s_ok, s_exn, s_bad, s_ite, q_nx, q_rt, q_exn, q_bad, q_ite, f_nx, f_rt, f_exn, f_bad, f_ite, i_ok, i_rt, i_int, i_bl, i_tt, i_ff, p_ret, p_eC, p_eVar, p_eOp, p_eUn, p_aNil, p_aCons, p_eCall, p_isB, p_tV, p_tNot, p_tAnd, p_tOr, p_eAnd, p_eOr, p_eNot, p_eIf, p_eTup, p_eLst, p_eChain, p_sBind, p_sSeq, p_sPass, p_sRet, p_sRetN, p_sDrop, p_sSet, p_sIf, p_sRaise, p_sAug, p_sUnp, p_sPar, p_sFor, p_bdN, p_bdT, p_body, p_add, p_addS, p_addT, p_addL, p_addI, p_sub, p_mul, p_mulI, p_mulS, p_fdiv, p_mod, p_pow, p_lt, p_le, p_gt, p_ge, p_isN, p_isB2, p_isnN, p_isnB2, p_neg, p_ixT, p_ixL, p_ixO, p_ofS, p_abs, p_max2, p_lenT, p_lenL, p_lenO, p_eq, p_ne, p_isI, p_iLst, p_iTup, p_iRg1, p_iRg2, p_eNewS, p_eComp, p_inB, p_in, p_nin, p_sSto, List.map_cons, List.map_nil, List.cons_append, List.nil_append, List.append_nil, List.set_cons_zero, List.set_cons_succ, List.getElem?_cons_zero, List.getElem?_cons_succ, List.getElem?_nil, List.length_cons, List.length_nil, List.zip_cons_cons, List.zip_nil_left, List.zip_nil_right, List.foldl_cons, List.foldl_nil, List.replicate, Nat.sub_self, Nat.reduceSub, Nat.reduceAdd, Nat.reduceLeDiff, Nat.reduceLT, Nat.zero_add, Int.reduceLT, Int.reduceLE, Int.reduceNeg, Int.reduceSub, Int.reduceAdd, Int.reduceMul, Int.reduceBEq, Bool.or_true, Bool.true_or, Bool.or_false, Bool.false_or, if_true, if_false, ite_true, ite_false, reduceIte, Bool.not_true, Bool.not_false, Bool.true_and, Bool.and_true, Bool.false_and, Bool.and_false, decide_true, decide_false, Bool.false_eq_true, eq_self, reduceCtorEq, true_and, and_true, and_self, sh, shs, dat, dats, ev_int, ev_str, ev_bl, ev_tup, ev_lst, ev_nil, ev_cons, ev_nc, ev_cn, ev_nn, ev_ni, ev_in, at0, at1, at2, at3, cst0, cst1, cst2, cst3, cst4, cst7, cst9, h]
  generalize rest1 = f
  rfl
theorem pure_law : ∀ ns : List Int, ns.length ≤ 63 → ∃ S, m_law [.scr (ns.map W.int)] [] = .ok (.bl true) S := by
  intro ns hl
  obtain ⟨ms, e1, hm⟩ := start_eval ns hl
  have h1 : DOk T1 (DS ms 0 T1) := ⟨ms, 0, rfl, hm⟩
  obtain ⟨d, S2, e2, h2, d0, d1⟩ := draw_eval h1 (lim := 2) (by decide) (by decide)
  obtain ⟨ms2, c2, rfl, hm2⟩ := h2
  obtain ⟨S3, e3⟩ := isT_of (units_eval (d == 0) ms2 c2)
  refine ⟨S3, ?_⟩
  have hs : ∀ e : En, (sSet 6 (eTup (aCons (eVar 2) (aCons (eC (.bl true)) (aCons (eVar 3) (aCons (eOp opEq (eCall m__law_draw (aCons (eVar 1) (aCons (eC (.int 2)) aNil))) (eC (.int 0))) aNil))))) [.val (.scr (ns.map W.int)), .val (.obj 1), .val (fr 0 1), .val (fr 1 2), .val oddW, .val (.tup [.int 0, .bl true, fr 1 2, .bl true]), .no, .no, .no] (DS ms 0 T1)) = .nx [.val (.scr (ns.map W.int)), .val (.obj 1), .val (fr 0 1), .val (fr 1 2), .val oddW, .val (.tup [.int 0, .bl true, fr 1 2, .bl true]), .val (spW (d == 0)), .no, .no] (DS ms2 c2 T1) := by
    intro _
    simp only [p_bind, b_ok, b_exn, b_bad, b_ite, s_ok, s_exn, s_bad, s_ite, q_nx, q_rt, q_exn, q_bad, q_ite, f_nx, f_rt, f_exn, f_bad, f_ite, i_ok, i_rt, i_int, i_bl, i_tt, i_ff, p_ret, p_eC, p_eVar, p_eOp, p_eUn, p_aNil, p_aCons, p_eCall, p_isB, p_tV, p_tNot, p_tAnd, p_tOr, p_eAnd, p_eOr, p_eNot, p_eIf, p_eTup, p_eLst, p_eChain, p_sBind, p_sSeq, p_sPass, p_sRet, p_sRetN, p_sDrop, p_sSet, p_sIf, p_sRaise, p_sAug, p_sUnp, p_sPar, p_sFor, p_bdN, p_bdT, p_body, p_add, p_addS, p_addT, p_addL, p_addI, p_sub, p_mul, p_mulI, p_mulS, p_fdiv, p_mod, p_pow, p_lt, p_le, p_gt, p_ge, p_isN, p_isB2, p_isnN, p_isnB2, p_neg, p_ixT, p_ixL, p_ixO, p_ofS, p_abs, p_max2, p_lenT, p_lenL, p_lenO, p_eq, p_ne, p_isI, p_iLst, p_iTup, p_iRg1, p_iRg2, p_eNewS, p_eComp, p_inB, p_in, p_nin, p_sSto, List.map_cons, List.map_nil, List.cons_append, List.nil_append, List.append_nil, List.set_cons_zero, List.set_cons_succ, List.getElem?_cons_zero, List.getElem?_cons_succ, List.getElem?_nil, List.length_cons, List.length_nil, List.zip_cons_cons, List.zip_nil_left, List.zip_nil_right, List.foldl_cons, List.foldl_nil, List.replicate, Nat.sub_self, Nat.reduceSub, Nat.reduceAdd, Nat.reduceLeDiff, Nat.reduceLT, Nat.zero_add, Int.reduceLT, Int.reduceLE, Int.reduceNeg, Int.reduceSub, Int.reduceAdd, Int.reduceMul, Int.reduceBEq, Bool.or_true, Bool.true_or, Bool.or_false, Bool.false_or, if_true, if_false, ite_true, ite_false, reduceIte, Bool.not_true, Bool.not_false, Bool.true_and, Bool.and_true, Bool.false_and, Bool.and_false, decide_true, decide_false, Bool.false_eq_true, eq_self, reduceCtorEq, true_and, and_true, and_self, sh, shs, dat, dats, ev_int, ev_str, ev_bl, ev_tup, ev_lst, ev_nil, ev_cons, ev_nc, ev_cn, ev_nn, ev_ni, ev_in, at0, at1, at2, at3, cst0, cst1, cst2, cst3, cst4, cst7, cst9, e2]
    rfl
  have hb := odd_set (w0 := .scr (ns.map W.int)) .no _ e1
  have hq : b_law [.val (.scr (ns.map W.int)), .no, .no, .no, .no, .no, .no, .no, .no] [] = .rt (.bl true) S3 := by
    rw [hb]
    have e7 : ∀ b : Bool, (sSet 7 (eTup (aCons (eTup (aCons (eC (.int 1)) (aCons (eC (.int 3)) aNil))) (aCons (eC (.bl true)) (aCons (eTup (aCons (eC (.int 1)) (aCons (eC (.int 3)) aNil))) (aCons (eC (.bl true)) aNil)))))) [.val (.scr (ns.map W.int)), .val (.obj 1), .val (fr 0 1), .val (fr 1 2), .val oddW, .val (.tup [.int 0, .bl true, fr 1 2, .bl true]), .val (spW b), .no, .no] (DS ms2 c2 (T2 b)) = .nx [.val (.scr (ns.map W.int)), .val (.obj 1), .val (fr 0 1), .val (fr 1 2), .val oddW, .val (.tup [.int 0, .bl true, fr 1 2, .bl true]), .val (spW b), .val tight, .no] (DS ms2 c2 (T2 b)) := fun _ => rfl
    refine (seqgo (odd_eval _ ms 0)).trans ((seqgo (hs [])).trans ((seqgo (good1 _ _ _ _ _ _ _ ms2 c2)).trans ((seqgo (e7 _)).trans ((seqgo (good2 _ _ _ _ _ _ _ ms2 c2)).trans ((seqgo (good3 _ _ _ _ _ _ _ _ _)).trans ?_)))))
    simp only [rest5, p_bind, b_ok, b_exn, b_bad, b_ite, s_ok, s_exn, s_bad, s_ite, q_nx, q_rt, q_exn, q_bad, q_ite, f_nx, f_rt, f_exn, f_bad, f_ite, i_ok, i_rt, i_int, i_bl, i_tt, i_ff, p_ret, p_eC, p_eVar, p_eOp, p_eUn, p_aNil, p_aCons, p_eCall, p_isB, p_tV, p_tNot, p_tAnd, p_tOr, p_eAnd, p_eOr, p_eNot, p_eIf, p_eTup, p_eLst, p_eChain, p_sBind, p_sSeq, p_sPass, p_sRet, p_sRetN, p_sDrop, p_sSet, p_sIf, p_sRaise, p_sAug, p_sUnp, p_sPar, p_sFor, p_bdN, p_bdT, p_body, p_add, p_addS, p_addT, p_addL, p_addI, p_sub, p_mul, p_mulI, p_mulS, p_fdiv, p_mod, p_pow, p_lt, p_le, p_gt, p_ge, p_isN, p_isB2, p_isnN, p_isnB2, p_neg, p_ixT, p_ixL, p_ixO, p_ofS, p_abs, p_max2, p_lenT, p_lenL, p_lenO, p_eq, p_ne, p_isI, p_iLst, p_iTup, p_iRg1, p_iRg2, p_eNewS, p_eComp, p_inB, p_in, p_nin, p_sSto, List.map_cons, List.map_nil, List.cons_append, List.nil_append, List.append_nil, List.set_cons_zero, List.set_cons_succ, List.getElem?_cons_zero, List.getElem?_cons_succ, List.getElem?_nil, List.length_cons, List.length_nil, List.zip_cons_cons, List.zip_nil_left, List.zip_nil_right, List.foldl_cons, List.foldl_nil, List.replicate, Nat.sub_self, Nat.reduceSub, Nat.reduceAdd, Nat.reduceLeDiff, Nat.reduceLT, Nat.zero_add, Int.reduceLT, Int.reduceLE, Int.reduceNeg, Int.reduceSub, Int.reduceAdd, Int.reduceMul, Int.reduceBEq, Bool.or_true, Bool.true_or, Bool.or_false, Bool.false_or, if_true, if_false, ite_true, ite_false, reduceIte, Bool.not_true, Bool.not_false, Bool.true_and, Bool.and_true, Bool.false_and, Bool.and_false, decide_true, decide_false, Bool.false_eq_true, eq_self, reduceCtorEq, true_and, and_true, and_self, sh, shs, dat, dats, ev_int, ev_str, ev_bl, ev_tup, ev_lst, ev_nil, ev_cons, ev_nc, ev_cn, ev_nn, ev_ni, ev_in, at0, at1, at2, at3, cst0, cst1, cst2, cst3, cst4, cst7, cst9, e3]
  unfold m_law
  simp only [p_bind, b_ok, b_exn, b_bad, b_ite, s_ok, s_exn, s_bad, s_ite, q_nx, q_rt, q_exn, q_bad, q_ite, f_nx, f_rt, f_exn, f_bad, f_ite, i_ok, i_rt, i_int, i_bl, i_tt, i_ff, p_ret, p_eC, p_eVar, p_eOp, p_eUn, p_aNil, p_aCons, p_eCall, p_isB, p_tV, p_tNot, p_tAnd, p_tOr, p_eAnd, p_eOr, p_eNot, p_eIf, p_eTup, p_eLst, p_eChain, p_sBind, p_sSeq, p_sPass, p_sRet, p_sRetN, p_sDrop, p_sSet, p_sIf, p_sRaise, p_sAug, p_sUnp, p_sPar, p_sFor, p_bdN, p_bdT, p_body, p_add, p_addS, p_addT, p_addL, p_addI, p_sub, p_mul, p_mulI, p_mulS, p_fdiv, p_mod, p_pow, p_lt, p_le, p_gt, p_ge, p_isN, p_isB2, p_isnN, p_isnB2, p_neg, p_ixT, p_ixL, p_ixO, p_ofS, p_abs, p_max2, p_lenT, p_lenL, p_lenO, p_eq, p_ne, p_isI, p_iLst, p_iTup, p_iRg1, p_iRg2, p_eNewS, p_eComp, p_inB, p_in, p_nin, p_sSto, List.map_cons, List.map_nil, List.cons_append, List.nil_append, List.append_nil, List.set_cons_zero, List.set_cons_succ, List.getElem?_cons_zero, List.getElem?_cons_succ, List.getElem?_nil, List.length_cons, List.length_nil, List.zip_cons_cons, List.zip_nil_left, List.zip_nil_right, List.foldl_cons, List.foldl_nil, List.replicate, Nat.sub_self, Nat.reduceSub, Nat.reduceAdd, Nat.reduceLeDiff, Nat.reduceLT, Nat.zero_add, Int.reduceLT, Int.reduceLE, Int.reduceNeg, Int.reduceSub, Int.reduceAdd, Int.reduceMul, Int.reduceBEq, Bool.or_true, Bool.true_or, Bool.or_false, Bool.false_or, if_true, if_false, ite_true, ite_false, reduceIte, Bool.not_true, Bool.not_false, Bool.true_and, Bool.and_true, Bool.false_and, Bool.and_false, decide_true, decide_false, Bool.false_eq_true, eq_self, reduceCtorEq, true_and, and_true, and_self, sh, shs, dat, dats, ev_int, ev_str, ev_bl, ev_tup, ev_lst, ev_nil, ev_cons, ev_nc, ev_cn, ev_nn, ev_ni, ev_in, at0, at1, at2, at3, cst0, cst1, cst2, cst3, cst4, cst7, cst9]
  generalize b_law = f at hq
  simp only [hq]
  rfl
end K14
end
open PySem PySem.W PyProof.Rows
set_option maxHeartbeats 0 in
theorem PySem.Challenge.cw_shortdecimals_k14_more_errors_holds : PySem.Challenge.rw_shortdecimals_k14_more_errors.Holds := by
  w_on; o_law; k_head; (case hw => w_witness2)
  k_fill
  refine L2.walk_of (l := PySem.Challenge.rw_shortdecimals_k14_more_errors) (n := 63) (k := 12) (x := "_law_script") (CX := fun w => L2.CX PySem.Challenge.rw_shortdecimals_k14_more_errors.prog w) (sp := fun w => Zz.spL _ K14.m_law) rfl (by decide) rfl ⟨rfl, by decide, by decide⟩ (fun w h Y => PySem.W.kIn_of Y) ?F (fun _ H a ns hl hO hS => Zz.law_end K14.pure_law H a ns hl hO hS) (fun w H s e s' h => Zz.cx_end w H s e s' h)
  case F =>
    intro w mg fa h KX Gn hmg
    refine K14.all_mk KX Gn hmg ?G ?f__law_start ?f_common ?f_is_any ?f_less ?f_is_span ?f_is_range ?f_check_range ?f_power_of ?f_ends_of ?f_least_of ?f_least_digits ?f_shortest ?f_tops_in ?f_simplest_of ?f_lowest ?f_simplest ?f_simplest_all ?f_minus ?f_width ?f_Reader___init__ ?f_is_int ?f_is_fraction ?f_check_fraction ?f_within ?f_contains ?f_nearest ?f_check_digits ?f_count_decimals ?f_decimals_in ?f__law_span_call ?f_check_whole ?f_check_rule ?f_span_of ?f_range_of ?f_units_of ?f_reads_as ?f_reading_of ?f_fractions_reading ?f_count_reading ?f_written ?f_format_decimal ?f_digits_to_tell ?f_digits_of ?f_parts_of ?f_period ?f_digit_at ?f_digit_sum ?f_check_steps ?f_twice_of ?f_traps_under ?f_twice ?f_met ?f_Reader_tell ?f__law_call ?f__law_error ?f__law_asked ?f__law_draw ?f__law_steps ?f_Reader_undo ?f_Reader_span ?f_Reader___len__ ?f_Reader_simplest ?f_Reader_shortest ?f__law_reader ?f__law_units_asked ?f_law
    case G =>
      refine' ⟨?g_MOST_DIGITS, ?g_MOST_TRIED, ?g_MOST_UNDER, ?g_RULES, ?g_ValueError, ?g_abs, ?g_all, ?g_bool, ?g_cvE, ?g_exF, ?g_exm6, ?g_int, ?g_isinstance, ?g_kit0, ?g_kit1, ?g_kit2, ?g_kit3, ?g_kit4, ?g_kit5, ?g_kit6, ?g_kitV, ?g_len, ?g_list, ?g_max, ?g_range, ?g_rd, ?g_set, ?g_str, ?g_sum, ?g_tuple, ?g_x_BadFraction, ?g_x_BadNumber, ?g_x_BadRange, ?g_x_BadRule, ?g_x_BadText, ?g_x_DecimalError, ?g_x_NotFound⟩
      (case g_MOST_DIGITS => (refine' Zz.gint_mk KX Gn ?a ?b; (case a => k_is); (case b => rfl)))
      (case g_MOST_TRIED => (refine' Zz.gint_mk KX Gn ?a ?b; (case a => k_is); (case b => rfl)))
      (case g_MOST_UNDER => (refine' Zz.gint_mk KX Gn ?a ?b; (case a => k_is); (case b => rfl)))
      (case g_RULES => (refine' Zz.gtup_mk KX Gn ?a ?b ?c ?d ?e ?f; (case a => k_is); (case b => k_is); (case c => rfl); (case d => rfl); (case e => decide); (case f => exact (.cons ⟨_, rfl⟩ (.cons ⟨_, rfl⟩ (.cons ⟨_, rfl⟩ (.cons ⟨_, rfl⟩ (.cons ⟨_, rfl⟩ (.cons ⟨_, rfl⟩ (.cons ⟨_, rfl⟩ (.nil)))))))))))
      (case g_ValueError => (refine' PySem.W.mg_none_of KX Gn ?a; (case a => k_is)))
      (case g_abs => (refine' PySem.W.mg_none_of KX Gn ?a; (case a => k_is)))
      (case g_all => (refine' PySem.W.mg_none_of KX Gn ?a; (case a => k_is)))
      (case g_bool => (refine' PySem.W.mg_none_of KX Gn ?a; (case a => k_is)))
      (case g_cvE => rfl)
      (case g_exF => (refine' Zz.six ?c0 ?c1 ?c2 ?c3 ?c4 ?c5; (case c0 => (refine' Zz.exF_mk rfl ?a ?h1 ?h2 ?h3 ?h4 ?h5 ?h6 ?h7 ?h8; (case a => k_is); (case h1 => k_is); (case h2 => k_is); (case h3 => k_is); (case h4 => k_is); (case h5 => k_is); (case h6 => k_is); (case h7 => k_is); (case h8 => k_is))); (case c1 => (refine' Zz.exF_mk rfl ?a ?h1 ?h2 ?h3 ?h4 ?h5 ?h6 ?h7 ?h8; (case a => k_is); (case h1 => k_is); (case h2 => k_is); (case h3 => k_is); (case h4 => k_is); (case h5 => k_is); (case h6 => k_is); (case h7 => k_is); (case h8 => k_is))); (case c2 => (refine' Zz.exF_mk rfl ?a ?h1 ?h2 ?h3 ?h4 ?h5 ?h6 ?h7 ?h8; (case a => k_is); (case h1 => k_is); (case h2 => k_is); (case h3 => k_is); (case h4 => k_is); (case h5 => k_is); (case h6 => k_is); (case h7 => k_is); (case h8 => k_is))); (case c3 => (refine' Zz.exF_mk rfl ?a ?h1 ?h2 ?h3 ?h4 ?h5 ?h6 ?h7 ?h8; (case a => k_is); (case h1 => k_is); (case h2 => k_is); (case h3 => k_is); (case h4 => k_is); (case h5 => k_is); (case h6 => k_is); (case h7 => k_is); (case h8 => k_is))); (case c4 => (refine' Zz.exF_mk rfl ?a ?h1 ?h2 ?h3 ?h4 ?h5 ?h6 ?h7 ?h8; (case a => k_is); (case h1 => k_is); (case h2 => k_is); (case h3 => k_is); (case h4 => k_is); (case h5 => k_is); (case h6 => k_is); (case h7 => k_is); (case h8 => k_is))); (case c5 => (refine' Zz.exF_mk rfl ?a ?h1 ?h2 ?h3 ?h4 ?h5 ?h6 ?h7 ?h8; (case a => k_is); (case h1 => k_is); (case h2 => k_is); (case h3 => k_is); (case h4 => k_is); (case h5 => k_is); (case h6 => k_is); (case h7 => k_is); (case h8 => k_is)))))
      (case g_exm6 => (refine' Zz.six ?c0 ?c1 ?c2 ?c3 ?c4 ?c5; (case c0 => (refine' Zz.exm_mk (c := 0) (k := 6) rfl ?a rfl ?a2 ?h1 ?h2 ?h3 ?h4 ?hb; (case a => k_is); (case a2 => k_is); (case h1 => k_is); (case h2 => k_is); (case h3 => k_is); (case h4 => k_is); (case hb => rfl))); (case c1 => (refine' Zz.exm_mk (c := 1) (k := 6) rfl ?a rfl ?a2 ?h1 ?h2 ?h3 ?h4 ?hb; (case a => k_is); (case a2 => k_is); (case h1 => k_is); (case h2 => k_is); (case h3 => k_is); (case h4 => k_is); (case hb => rfl))); (case c2 => (refine' Zz.exm_mk (c := 2) (k := 6) rfl ?a rfl ?a2 ?h1 ?h2 ?h3 ?h4 ?hb; (case a => k_is); (case a2 => k_is); (case h1 => k_is); (case h2 => k_is); (case h3 => k_is); (case h4 => k_is); (case hb => rfl))); (case c3 => (refine' Zz.exm_mk (c := 3) (k := 6) rfl ?a rfl ?a2 ?h1 ?h2 ?h3 ?h4 ?hb; (case a => k_is); (case a2 => k_is); (case h1 => k_is); (case h2 => k_is); (case h3 => k_is); (case h4 => k_is); (case hb => rfl))); (case c4 => (refine' Zz.exm_mk (c := 4) (k := 6) rfl ?a rfl ?a2 ?h1 ?h2 ?h3 ?h4 ?hb; (case a => k_is); (case a2 => k_is); (case h1 => k_is); (case h2 => k_is); (case h3 => k_is); (case h4 => k_is); (case hb => rfl))); (case c5 => (refine' Zz.exm_mk (c := 5) (k := 6) rfl ?a rfl ?a2 ?h1 ?h2 ?h3 ?h4 ?hb; (case a => k_is); (case a2 => k_is); (case h1 => k_is); (case h2 => k_is); (case h3 => k_is); (case h4 => k_is); (case hb => rfl)))))
      (case g_int => (refine' PySem.W.mg_none_of KX Gn ?a; (case a => k_is)))
      (case g_isinstance => (refine' PySem.W.mg_none_of KX Gn ?a; (case a => k_is)))
      (case g_kit0 => (refine' Zz.six ?c0 ?c1 ?c2 ?c3 ?c4 ?c5; (case c0 => (refine' Zz.kit_mk (c := 0) (k := 0) rfl ?a rfl ?a2 ?h ?hb; (case a => k_is); (case a2 => k_is); (case h => kit_is); (case hb => rfl))); (case c1 => (refine' Zz.kit_mk (c := 1) (k := 0) rfl ?a rfl ?a2 ?h ?hb; (case a => k_is); (case a2 => k_is); (case h => kit_is); (case hb => rfl))); (case c2 => (refine' Zz.kit_mk (c := 2) (k := 0) rfl ?a rfl ?a2 ?h ?hb; (case a => k_is); (case a2 => k_is); (case h => kit_is); (case hb => rfl))); (case c3 => (refine' Zz.kit_mk (c := 3) (k := 0) rfl ?a rfl ?a2 ?h ?hb; (case a => k_is); (case a2 => k_is); (case h => kit_is); (case hb => rfl))); (case c4 => (refine' Zz.kit_mk (c := 4) (k := 0) rfl ?a rfl ?a2 ?h ?hb; (case a => k_is); (case a2 => k_is); (case h => kit_is); (case hb => rfl))); (case c5 => (refine' Zz.kit_mk (c := 5) (k := 0) rfl ?a rfl ?a2 ?h ?hb; (case a => k_is); (case a2 => k_is); (case h => kit_is); (case hb => rfl)))))
      (case g_kit1 => (refine' Zz.six ?c0 ?c1 ?c2 ?c3 ?c4 ?c5; (case c0 => (refine' Zz.kit_mk (c := 0) (k := 1) rfl ?a rfl ?a2 ?h ?hb; (case a => k_is); (case a2 => k_is); (case h => kit_is); (case hb => rfl))); (case c1 => (refine' Zz.kit_mk (c := 1) (k := 1) rfl ?a rfl ?a2 ?h ?hb; (case a => k_is); (case a2 => k_is); (case h => kit_is); (case hb => rfl))); (case c2 => (refine' Zz.kit_mk (c := 2) (k := 1) rfl ?a rfl ?a2 ?h ?hb; (case a => k_is); (case a2 => k_is); (case h => kit_is); (case hb => rfl))); (case c3 => (refine' Zz.kit_mk (c := 3) (k := 1) rfl ?a rfl ?a2 ?h ?hb; (case a => k_is); (case a2 => k_is); (case h => kit_is); (case hb => rfl))); (case c4 => (refine' Zz.kit_mk (c := 4) (k := 1) rfl ?a rfl ?a2 ?h ?hb; (case a => k_is); (case a2 => k_is); (case h => kit_is); (case hb => rfl))); (case c5 => (refine' Zz.kit_mk (c := 5) (k := 1) rfl ?a rfl ?a2 ?h ?hb; (case a => k_is); (case a2 => k_is); (case h => kit_is); (case hb => rfl)))))
      (case g_kit2 => (refine' Zz.six ?c0 ?c1 ?c2 ?c3 ?c4 ?c5; (case c0 => (refine' Zz.kit_mk (c := 0) (k := 2) rfl ?a rfl ?a2 ?h ?hb; (case a => k_is); (case a2 => k_is); (case h => kit_is); (case hb => rfl))); (case c1 => (refine' Zz.kit_mk (c := 1) (k := 2) rfl ?a rfl ?a2 ?h ?hb; (case a => k_is); (case a2 => k_is); (case h => kit_is); (case hb => rfl))); (case c2 => (refine' Zz.kit_mk (c := 2) (k := 2) rfl ?a rfl ?a2 ?h ?hb; (case a => k_is); (case a2 => k_is); (case h => kit_is); (case hb => rfl))); (case c3 => (refine' Zz.kit_mk (c := 3) (k := 2) rfl ?a rfl ?a2 ?h ?hb; (case a => k_is); (case a2 => k_is); (case h => kit_is); (case hb => rfl))); (case c4 => (refine' Zz.kit_mk (c := 4) (k := 2) rfl ?a rfl ?a2 ?h ?hb; (case a => k_is); (case a2 => k_is); (case h => kit_is); (case hb => rfl))); (case c5 => (refine' Zz.kit_mk (c := 5) (k := 2) rfl ?a rfl ?a2 ?h ?hb; (case a => k_is); (case a2 => k_is); (case h => kit_is); (case hb => rfl)))))
      (case g_kit3 => (refine' Zz.six ?c0 ?c1 ?c2 ?c3 ?c4 ?c5; (case c0 => (refine' Zz.kit_mk (c := 0) (k := 3) rfl ?a rfl ?a2 ?h ?hb; (case a => k_is); (case a2 => k_is); (case h => kit_is); (case hb => rfl))); (case c1 => (refine' Zz.kit_mk (c := 1) (k := 3) rfl ?a rfl ?a2 ?h ?hb; (case a => k_is); (case a2 => k_is); (case h => kit_is); (case hb => rfl))); (case c2 => (refine' Zz.kit_mk (c := 2) (k := 3) rfl ?a rfl ?a2 ?h ?hb; (case a => k_is); (case a2 => k_is); (case h => kit_is); (case hb => rfl))); (case c3 => (refine' Zz.kit_mk (c := 3) (k := 3) rfl ?a rfl ?a2 ?h ?hb; (case a => k_is); (case a2 => k_is); (case h => kit_is); (case hb => rfl))); (case c4 => (refine' Zz.kit_mk (c := 4) (k := 3) rfl ?a rfl ?a2 ?h ?hb; (case a => k_is); (case a2 => k_is); (case h => kit_is); (case hb => rfl))); (case c5 => (refine' Zz.kit_mk (c := 5) (k := 3) rfl ?a rfl ?a2 ?h ?hb; (case a => k_is); (case a2 => k_is); (case h => kit_is); (case hb => rfl)))))
      (case g_kit4 => (refine' Zz.six ?c0 ?c1 ?c2 ?c3 ?c4 ?c5; (case c0 => (refine' Zz.kit_mk (c := 0) (k := 4) rfl ?a rfl ?a2 ?h ?hb; (case a => k_is); (case a2 => k_is); (case h => kit_is); (case hb => rfl))); (case c1 => (refine' Zz.kit_mk (c := 1) (k := 4) rfl ?a rfl ?a2 ?h ?hb; (case a => k_is); (case a2 => k_is); (case h => kit_is); (case hb => rfl))); (case c2 => (refine' Zz.kit_mk (c := 2) (k := 4) rfl ?a rfl ?a2 ?h ?hb; (case a => k_is); (case a2 => k_is); (case h => kit_is); (case hb => rfl))); (case c3 => (refine' Zz.kit_mk (c := 3) (k := 4) rfl ?a rfl ?a2 ?h ?hb; (case a => k_is); (case a2 => k_is); (case h => kit_is); (case hb => rfl))); (case c4 => (refine' Zz.kit_mk (c := 4) (k := 4) rfl ?a rfl ?a2 ?h ?hb; (case a => k_is); (case a2 => k_is); (case h => kit_is); (case hb => rfl))); (case c5 => (refine' Zz.kit_mk (c := 5) (k := 4) rfl ?a rfl ?a2 ?h ?hb; (case a => k_is); (case a2 => k_is); (case h => kit_is); (case hb => rfl)))))
      (case g_kit5 => (refine' Zz.six ?c0 ?c1 ?c2 ?c3 ?c4 ?c5; (case c0 => (refine' Zz.kit_mk (c := 0) (k := 5) rfl ?a rfl ?a2 ?h ?hb; (case a => k_is); (case a2 => k_is); (case h => kit_is); (case hb => rfl))); (case c1 => (refine' Zz.kit_mk (c := 1) (k := 5) rfl ?a rfl ?a2 ?h ?hb; (case a => k_is); (case a2 => k_is); (case h => kit_is); (case hb => rfl))); (case c2 => (refine' Zz.kit_mk (c := 2) (k := 5) rfl ?a rfl ?a2 ?h ?hb; (case a => k_is); (case a2 => k_is); (case h => kit_is); (case hb => rfl))); (case c3 => (refine' Zz.kit_mk (c := 3) (k := 5) rfl ?a rfl ?a2 ?h ?hb; (case a => k_is); (case a2 => k_is); (case h => kit_is); (case hb => rfl))); (case c4 => (refine' Zz.kit_mk (c := 4) (k := 5) rfl ?a rfl ?a2 ?h ?hb; (case a => k_is); (case a2 => k_is); (case h => kit_is); (case hb => rfl))); (case c5 => (refine' Zz.kit_mk (c := 5) (k := 5) rfl ?a rfl ?a2 ?h ?hb; (case a => k_is); (case a2 => k_is); (case h => kit_is); (case hb => rfl)))))
      (case g_kit6 => (refine' Zz.six ?c0 ?c1 ?c2 ?c3 ?c4 ?c5; (case c0 => (refine' Zz.kit_mk (c := 0) (k := 6) rfl ?a rfl ?a2 ?h ?hb; (case a => k_is); (case a2 => k_is); (case h => kit_is); (case hb => rfl))); (case c1 => (refine' Zz.kit_mk (c := 1) (k := 6) rfl ?a rfl ?a2 ?h ?hb; (case a => k_is); (case a2 => k_is); (case h => kit_is); (case hb => rfl))); (case c2 => (refine' Zz.kit_mk (c := 2) (k := 6) rfl ?a rfl ?a2 ?h ?hb; (case a => k_is); (case a2 => k_is); (case h => kit_is); (case hb => rfl))); (case c3 => (refine' Zz.kit_mk (c := 3) (k := 6) rfl ?a rfl ?a2 ?h ?hb; (case a => k_is); (case a2 => k_is); (case h => kit_is); (case hb => rfl))); (case c4 => (refine' Zz.kit_mk (c := 4) (k := 6) rfl ?a rfl ?a2 ?h ?hb; (case a => k_is); (case a2 => k_is); (case h => kit_is); (case hb => rfl))); (case c5 => (refine' Zz.kit_mk (c := 5) (k := 6) rfl ?a rfl ?a2 ?h ?hb; (case a => k_is); (case a2 => k_is); (case h => kit_is); (case hb => rfl)))))
      (case g_kitV => (refine' Zz.six ?c0 ?c1 ?c2 ?c3 ?c4 ?c5; (case c0 => (refine' Zz.kitV_mk rfl ?a ?h; (case a => k_is); (case h => kit_is))); (case c1 => (refine' Zz.kitV_mk rfl ?a ?h; (case a => k_is); (case h => kit_is))); (case c2 => (refine' Zz.kitV_mk rfl ?a ?h; (case a => k_is); (case h => kit_is))); (case c3 => (refine' Zz.kitV_mk rfl ?a ?h; (case a => k_is); (case h => kit_is))); (case c4 => (refine' Zz.kitV_mk rfl ?a ?h; (case a => k_is); (case h => kit_is))); (case c5 => (refine' Zz.kitV_mk rfl ?a ?h; (case a => k_is); (case h => kit_is)))))
      (case g_len => (refine' PySem.W.mg_none_of KX Gn ?a; (case a => k_is)))
      (case g_list => (refine' PySem.W.mg_none_of KX Gn ?a; (case a => k_is)))
      (case g_max => (refine' PySem.W.mg_none_of KX Gn ?a; (case a => k_is)))
      (case g_range => (refine' PySem.W.mg_none_of KX Gn ?a; (case a => k_is)))
      (case g_rd => (refine' Zz.rdf_mk KX Gn ?a ?pg ?hd ?po ?sa ?n1 ?n2 ?mk ?kp; (case a => k_is); (case pg => k_is); (case hd => k_is); (case po => k_is); (case sa => k_is); (case n1 => k_is); (case n2 => k_is); (case mk => k_is); (case kp => k_is)))
      (case g_set => (refine' PySem.W.mg_none_of KX Gn ?a; (case a => k_is)))
      (case g_str => (refine' PySem.W.mg_none_of KX Gn ?a; (case a => k_is)))
      (case g_sum => (refine' PySem.W.mg_none_of KX Gn ?a; (case a => k_is)))
      (case g_tuple => (refine' PySem.W.mg_none_of KX Gn ?a; (case a => k_is)))
      (case g_x_BadFraction => (refine' Zz.xf_mk KX Gn rfl ?xa ?xq ?xk ?xb ?xt; (case xa => k_is); (case xq => k_exc); (case xk => k_is); (case xb => k_is); (case xt => k_is)))
      (case g_x_BadNumber => (refine' Zz.xf_mk KX Gn rfl ?xa ?xq ?xk ?xb ?xt; (case xa => k_is); (case xq => k_exc); (case xk => k_is); (case xb => k_is); (case xt => k_is)))
      (case g_x_BadRange => (refine' Zz.xf_mk KX Gn rfl ?xa ?xq ?xk ?xb ?xt; (case xa => k_is); (case xq => k_exc); (case xk => k_is); (case xb => k_is); (case xt => k_is)))
      (case g_x_BadRule => (refine' Zz.xf_mk KX Gn rfl ?xa ?xq ?xk ?xb ?xt; (case xa => k_is); (case xq => k_exc); (case xk => k_is); (case xb => k_is); (case xt => k_is)))
      (case g_x_BadText => (refine' Zz.xf_mk KX Gn rfl ?xa ?xq ?xk ?xb ?xt; (case xa => k_is); (case xq => k_exc); (case xk => k_is); (case xb => k_is); (case xt => k_is)))
      (case g_x_DecimalError => (refine' Zz.xf_mk KX Gn rfl ?xa ?xq ?xk ?xb ?xt; (case xa => k_is); (case xq => k_exc); (case xk => k_is); (case xb => k_is); (case xt => k_is)))
      (case g_x_NotFound => (refine' Zz.xf_mk KX Gn rfl ?xa ?xq ?xk ?xb ?xt; (case xa => k_is); (case xq => k_exc); (case xk => k_is); (case xb => k_is); (case xt => k_is)))
    (case f_Reader___init__ => (refine' Zz.mf_mk ?a ?m ?i ?l ?c ?k; (case a => k_is); (case m => k_is); (case i => k_is); (case l => k_is); (case c => k_is); (case k => k_is)))
    (case f_Reader_tell => (refine' Zz.mf_mk ?a ?m ?i ?l ?c ?k; (case a => k_is); (case m => k_is); (case i => k_is); (case l => k_is); (case c => k_is); (case k => k_is)))
    (case f_Reader_undo => (refine' Zz.mf_mk ?a ?m ?i ?l ?c ?k; (case a => k_is); (case m => k_is); (case i => k_is); (case l => k_is); (case c => k_is); (case k => k_is)))
    (case f_Reader_span => (refine' Zz.mf_mk ?a ?m ?i ?l ?c ?k; (case a => k_is); (case m => k_is); (case i => k_is); (case l => k_is); (case c => k_is); (case k => k_is)))
    (case f_Reader___len__ => (refine' Zz.mf_mk ?a ?m ?i ?l ?c ?k; (case a => k_is); (case m => k_is); (case i => k_is); (case l => k_is); (case c => k_is); (case k => k_is)))
    (case f_Reader_simplest => (refine' Zz.mf_mk ?a ?m ?i ?l ?c ?k; (case a => k_is); (case m => k_is); (case i => k_is); (case l => k_is); (case c => k_is); (case k => k_is)))
    (case f_Reader_shortest => (refine' Zz.mf_mk ?a ?m ?i ?l ?c ?k; (case a => k_is); (case m => k_is); (case i => k_is); (case l => k_is); (case c => k_is); (case k => k_is)))
    all_goals (refine' Zz.ff_mk ?a ?b ?c ?d; (case a => k_is); (case b => k_is); (case c => k_is); (case d => k_is))
