import PyProof.Rows.All
import HandS.ForMost
import HandS.ForExc
import HandS.TryMany
import HandS.ExcIs
import HandS.IsInst
import HandS.Conv
import HandS.Walk
import HandS.Zip
import HandS.Wide
import HandS.Lambda
import HandS.SetFor
import HandS.Flow
import HandS.EndBits
import HandS.TupAny
import HandS.TupMul
import HandS.TupLe
import KE.GoesMore
import HandS.EndTab
import HandS.CallLocal
import PySem.Challenge.RW_upsdowns_k74_whole_codes_and_numbers_of
set_option Elab.async false
set_option linter.all false
set_option maxRecDepth 100000
set_option maxHeartbeats 4000000
namespace DV
open PySem PySem.Spec PyProof.Rows L2

/-! # Data: values without addresses; what a slot holds -/
inductive D where
  | v (x : V)
  | tup (xs : List D)
  | lst (xs : List D)
abbrev D.int (i : Int) : D := .v (.int i)
abbrev D.bl (b : Bool) : D := .v (.bl b)
abbrev D.str (x : Str) : D := .v (.str x)
abbrev D.non : D := .v .non
/-- dat: data that stays as it is; own: a list that is changed in place (t: the caller's) -/
inductive AV where
  | dat (d : D)
  | own (t : Bool) (xs : List D)
abbrev AE := List (Option AV)

/-! ## what stands for data: lists not at banned places -/
abbrev Ban := Addr → Prop
/-- a list of the heap that is not banned -/
def SqB (B : Ban) (H : Hp) (a : Addr) (xs : List V) : Prop := H a = some (.lst xs) ∧ ¬ B a
mutual
def Rp (K : PySem.W.Frag) (B : Ban) (H : Hp) : D → V → Prop
  | .v x, u => u = x
  | .tup ds, u => ∃ a xs, u = .ref a ∧ SqT K H a xs ∧ RpL K B H ds xs
  | .lst ds, u => ∃ a xs, u = .ref a ∧ SqB B H a xs ∧ RpL K B H ds xs
def RpL (K : PySem.W.Frag) (B : Ban) (H : Hp) : List D → List V → Prop
  | [], xs => xs = []
  | d :: ds, xs => ∃ x r, xs = x :: r ∧ Rp K B H d x ∧ RpL K B H ds r
end
/-- .. but the outermost list may stand anywhere -/
def Rq (K : PySem.W.Frag) (B : Ban) (H : Hp) : D → V → Prop
  | .lst ds, u => ∃ a xs, u = .ref a ∧ H a = some (.lst xs) ∧ RpL K B H ds xs
  | d, u => Rp K B H d u
/-! no list within -/
mutual
def lf : D → Bool
  | .v _ => true
  | .tup ds => lfL ds
  | .lst _ => false
def lfL : List D → Bool
  | [] => true
  | d :: ds => lf d && lfL ds
end
/-- banned places hold lists -/
def BL (B : Ban) (H : Hp) : Prop := ∀ a, B a → ∃ vs, H a = some (.lst vs)
/-! the tables of code objects that lambdas are made by -/
class TabC where
  T : List (Addr × Str)
abbrev NT (o : HO) : Prop := ∀ ps, o ≠ .tbl ps
theorem nt_lst {vs : List V} : NT (.lst vs) := fun _ z => by cases z
variable [TabC]
abbrev TbOk (H : Hp) : Prop := LamX.Tabs TabC.T H
/-- all stays, but tables may grow -/
structure Sm (H H' : Hp) : Prop where
  ob : ∀ b o, H b = some o → NT o → H' b = some o
  tb : TbOk H → TbOk H'
theorem Sm.refl (H : Hp) : Sm H H := ⟨fun _ _ h _ => h, fun t => t⟩
theorem Sm.trans {H H1 H2 : Hp} (a : Sm H H1) (b : Sm H1 H2) : Sm H H2 := ⟨fun c o h n => b.ob c o (a.ob c o h n) n, fun t => b.tb (a.tb t)⟩
theorem Sm.of {H H' : Hp} (e : ∀ b o, H b = some o → H' b = some o) : Sm H H' := ⟨fun b o h _ => e b o h, fun t => t.ext e⟩
theorem Sm.lst {H H' : Hp} (k : Sm H H') {a : Addr} {vs : List V} (e : H a = some (.lst vs)) : H' a = some (.lst vs) := k.ob _ _ e nt_lst
/-- all that is not banned stays -/
structure Kp (B : Ban) (H H' : Hp) : Prop where
  ob : ∀ b o, H b = some o → ¬ B b → NT o → H' b = some o
  tb : TbOk H → TbOk H'
theorem Kp.refl (B : Ban) (H : Hp) : Kp B H H := ⟨fun _ _ h _ _ => h, fun t => t⟩
theorem Kp.trans {B : Ban} {H H1 H2 : Hp} (a : Kp B H H1) (b : Kp B H1 H2) : Kp B H H2 := ⟨fun c o h n nt => b.ob c o (a.ob c o h n nt) n nt, fun t => b.tb (a.tb t)⟩
theorem Kp.of {B : Ban} {H H' : Hp} (e : Sm H H') : Kp B H H' := ⟨fun b o h _ nt => e.ob b o h nt, e.tb⟩
theorem Kp.sm {B : Ban} {H H' : Hp} (e : Kp B H H') (n : ∀ b, ¬ B b) : Sm H H' := ⟨fun b o h nt => e.ob b o h (n b) nt, e.tb⟩
theorem Kp.mono {B B' : Ban} {H H' : Hp} (k : Kp B H H') (w : ∀ b, B b → B' b) : Kp B' H H' := ⟨fun b o e n nt => k.ob b o e (fun z => n (w b z)) nt, k.tb⟩
theorem Kp.lst {B : Ban} {H H' : Hp} (k : Kp B H H') {a : Addr} {vs : List V} (e : H a = some (.lst vs)) (n : ¬ B a) : H' a = some (.lst vs) := k.ob _ _ e n nt_lst
/-- a list at a is written -/
theorem Kp.upd {H : Hp} {a : Addr} {us vs : List V} (e : H a = some (.lst us)) : Kp (fun b => b = a) H (L2.upd H a (.lst vs)) := by
  have k : ∀ b o, H b = some o → b ≠ a → L2.upd H a (.lst vs) b = some o := fun b o e n => by rw [upd_ne n]; exact e
  refine ⟨fun b o e n _ => k b o e n, fun t p hp => ?_⟩
  obtain ⟨ps, h1, h2, h3⟩ := t p hp
  refine ⟨ps, k _ _ h1 (fun z => by rw [z, e] at h1; cases h1), h2, fun pos cv hc => ?_⟩
  obtain ⟨c, e1, e2⟩ := h3 pos cv hc
  exact ⟨c, e1, k _ _ e2 (fun z => by rw [z, e] at e2; unfold LamX.CodeO at e2; cases e2)⟩
section
variable {K : PySem.W.Frag} {B B' : Ban} {H H' : Hp}
def BLw (B : Ban) (H : Hp) : Prop := ∀ a o, B a → H a = some o → NT o → ∃ vs, o = .lst vs
theorem BL.w (bl : BL B H) : BLw B H := fun a o b e _ => let ⟨vs, e'⟩ := bl a b; ⟨vs, Option.some.inj (e.symm.trans e')⟩
theorem SqT.kp {a : Addr} {xs : List V} (bl : BLw B H) (k : Kp B H H') (h : SqT K H a xs) : SqT K H' a xs := by
  have nb : ∀ o, H a = some o → NT o → (∀ vs, o ≠ .lst vs) → ¬ B a := fun o e nt n b => by
    obtain ⟨vs, e'⟩ := bl a o b e nt
    exact n vs e'
  rcases h with (h | ⟨o, h⟩) | h
  · have nt : ∀ ps, HO.tup xs ≠ .tbl ps := fun _ e => by cases e
    exact .inl (.inl (k.ob _ _ h (nb _ h nt fun _ e => by cases e) nt))
  · have nt : NT (.frz o (.tup xs)) := fun _ e => by cases e
    exact .inl (.inr ⟨o, k.ob _ _ h (nb _ h nt fun _ e => by cases e) nt⟩)
  · exact .inr h
theorem SqB.kp {a : Addr} {xs : List V} (k : Kp B H H') (h : SqB B H a xs) : SqB B H' a xs := ⟨k.lst h.1 h.2, h.2⟩
theorem SqB.same {a : Addr} {xs : List V} (k : Sm H H') (h : SqB B H a xs) : SqB B H' a xs := h.kp (Kp.of k)
theorem SqB.weak {a : Addr} {xs : List V} (w : ∀ a, B' a → B a) (h : SqB B H a xs) : SqB B' H a xs := ⟨h.1, fun b => h.2 (w a b)⟩
mutual
theorem Rp.kpw (bl : BLw B H) (k : Kp B H H') : ∀ {d : D} {u : V}, Rp K B H d u → Rp K B H' d u
  | .v _, _, h => h
  | .tup _, _, ⟨a, xs, e, s, r⟩ => ⟨a, xs, e, SqT.kp bl k s, RpL.kpw bl k r⟩
  | .lst _, _, ⟨a, xs, e, s, r⟩ => ⟨a, xs, e, SqB.kp k s, RpL.kpw bl k r⟩
theorem RpL.kpw (bl : BLw B H) (k : Kp B H H') : ∀ {ds : List D} {xs : List V}, RpL K B H ds xs → RpL K B H' ds xs
  | [], _, h => h
  | _ :: _, _, ⟨x, r, e, h1, h2⟩ => ⟨x, r, e, Rp.kpw bl k h1, RpL.kpw bl k h2⟩
end
theorem Rp.kp (bl : BL B H) (k : Kp B H H') {d : D} {u : V} (h : Rp K B H d u) : Rp K B H' d u := Rp.kpw bl.w k h
theorem RpL.kp (bl : BL B H) (k : Kp B H H') {ds : List D} {xs : List V} (h : RpL K B H ds xs) : RpL K B H' ds xs := RpL.kpw bl.w k h
mutual
theorem Rp.same (k : Sm H H') : ∀ {d : D} {u : V}, Rp K B H d u → Rp K B H' d u
  | .v _, _, h => h
  | .tup _, _, ⟨a, xs, e, s, r⟩ => ⟨a, xs, e, by
      rcases s with (h | ⟨o, h⟩) | h
      · exact .inl (.inl (k.ob _ _ h fun _ e => by cases e))
      · exact .inl (.inr ⟨o, k.ob _ _ h fun _ e => by cases e⟩)
      · exact .inr h, RpL.same k r⟩
  | .lst _, _, ⟨a, xs, e, s, r⟩ => ⟨a, xs, e, s.same k, RpL.same k r⟩
theorem RpL.same (k : Sm H H') : ∀ {ds : List D} {xs : List V}, RpL K B H ds xs → RpL K B H' ds xs
  | [], _, h => h
  | _ :: _, _, ⟨x, r, e, h1, h2⟩ => ⟨x, r, e, Rp.same k h1, RpL.same k h2⟩
end
mutual
theorem Rp.weak (w : ∀ a, B' a → B a) : ∀ {d : D} {u : V}, Rp K B H d u → Rp K B' H d u
  | .v _, _, h => h
  | .tup _, _, ⟨a, xs, e, s, r⟩ => ⟨a, xs, e, s, RpL.weak w r⟩
  | .lst _, _, ⟨a, xs, e, s, r⟩ => ⟨a, xs, e, s.weak w, RpL.weak w r⟩
theorem RpL.weak (w : ∀ a, B' a → B a) : ∀ {ds : List D} {xs : List V}, RpL K B H ds xs → RpL K B' H ds xs
  | [], _, h => h
  | _ :: _, _, ⟨x, r, e, h1, h2⟩ => ⟨x, r, e, Rp.weak w h1, RpL.weak w h2⟩
end
mutual
theorem Rp.lf : ∀ {d : D} {u : V}, lf d = true → Rp K B H d u → Rp K B' H d u
  | .v _, _, _, h => h
  | .tup _, _, l, ⟨a, xs, e, s, r⟩ => ⟨a, xs, e, s, RpL.lf l r⟩
  | .lst _, _, l, _ => by cases l
theorem RpL.lf : ∀ {ds : List D} {xs : List V}, lfL ds = true → RpL K B H ds xs → RpL K B' H ds xs
  | [], _, _, h => h
  | _ :: _, _, l, ⟨x, r, e, h1, h2⟩ => by
    have l' := (Bool.and_eq_true_iff.mp l)
    exact ⟨x, r, e, Rp.lf l'.1 h1, RpL.lf l'.2 h2⟩
end
/-! one place more is banned that nothing of the heap stood at -/
mutual
theorem Rp.ban {p : Addr} (hp : H p = none) : ∀ {d : D} {u : V}, Rp K B H d u → Rp K (fun b => b = p ∨ B b) H d u
  | .v _, _, h => h
  | .tup _, _, ⟨a, xs, e, s, r⟩ => ⟨a, xs, e, s, RpL.ban hp r⟩
  | .lst _, _, ⟨a, xs, e, s, r⟩ => ⟨a, xs, e, ⟨s.1, fun z => z.elim (fun q' => by
      have h := s.1
      rw [q', hp] at h; cases h) s.2⟩, RpL.ban hp r⟩
theorem RpL.ban {p : Addr} (hp : H p = none) : ∀ {ds : List D} {xs : List V}, RpL K B H ds xs → RpL K (fun b => b = p ∨ B b) H ds xs
  | [], _, h => h
  | _ :: _, _, ⟨x, r, e, h1, h2⟩ => ⟨x, r, e, Rp.ban hp h1, RpL.ban hp h2⟩
end
theorem Rq.of {d : D} {u : V} (h : Rp K B H d u) : Rq K B H d u := by
  cases d with
  | v x => exact h
  | tup ds => exact h
  | lst ds => obtain ⟨a, xs, e, s, r⟩ := h; exact ⟨a, xs, e, s.1, r⟩
theorem Rq.same {d : D} {u : V} (k : Sm H H') (h : Rq K B H d u) : Rq K B H' d u := by
  cases d with
  | v x => exact h
  | tup ds => exact Rp.same (d := .tup ds) k h
  | lst ds => obtain ⟨a, xs, e, s, r⟩ := h; exact ⟨a, xs, e, k.lst s, RpL.same k r⟩
theorem RpL.len : ∀ {ds : List D} {xs : List V}, RpL K B H ds xs → ds.length = xs.length
  | [], _, h => by cases h; rfl
  | _ :: _, _, ⟨x, r, e, _, h2⟩ => by subst e; simp [RpL.len h2]
theorem RpL.get : ∀ {ds : List D} {xs : List V} {i : Nat} {d : D}, RpL K B H ds xs → ds[i]? = some d → ∃ x, xs[i]? = some x ∧ Rp K B H d x
  | [], _, _, _, _, e => by simp at e
  | _ :: _, _, 0, _, ⟨x, r, e1, h1, _⟩, e => by subst e1; simp at e; subst e; exact ⟨x, rfl, h1⟩
  | _ :: _, _, i + 1, _, ⟨x, r, e1, _, h2⟩, e => by subst e1; simpa using RpL.get h2 (by simpa using e)
theorem RpL.get' : ∀ {ds : List D} {xs : List V} {i : Nat} {x : V}, RpL K B H ds xs → xs[i]? = some x → ∃ d, ds[i]? = some d ∧ Rp K B H d x
  | [], _, _, _, h, e => by cases h; simp at e
  | d :: _, _, 0, _, ⟨x, r, e1, h1, _⟩, e => by subst e1; simp at e; subst e; exact ⟨d, rfl, h1⟩
  | _ :: _, _, i + 1, _, ⟨x, r, e1, _, h2⟩, e => by subst e1; simpa using RpL.get' h2 (by simpa using e)
theorem RpL.append : ∀ {ds es : List D} {xs ys : List V}, RpL K B H ds xs → RpL K B H es ys → RpL K B H (ds ++ es) (xs ++ ys)
  | [], _, _, _, h, h' => by cases h; exact h'
  | _ :: _, _, _, _, ⟨x, r, e1, h1, h2⟩, h' => by subst e1; exact ⟨x, r ++ _, rfl, h1, RpL.append h2 h'⟩
theorem RpL.take : ∀ {ds : List D} {xs : List V} (n : Nat), RpL K B H ds xs → RpL K B H (ds.take n) (xs.take n)
  | _, _, 0, _ => by rw [List.take_zero, List.take_zero]; rfl
  | [], _, n + 1, h => by cases h; rfl
  | _ :: _, _, n + 1, ⟨x, r, e1, h1, h2⟩ => by subst e1; exact ⟨x, _, rfl, h1, RpL.take n h2⟩
theorem RpL.drop : ∀ {ds : List D} {xs : List V} (n : Nat), RpL K B H ds xs → RpL K B H (ds.drop n) (xs.drop n)
  | _, _, 0, h => h
  | [], _, n + 1, h => by cases h; rfl
  | _ :: _, _, n + 1, ⟨x, r, e1, h1, h2⟩ => by subst e1; exact RpL.drop n h2
theorem RpL.set : ∀ {ds : List D} {xs : List V} (n : Nat) {d : D} {u : V}, RpL K B H ds xs → Rp K B H d u → RpL K B H (ds.set n d) (xs.set n u)
  | [], _, n, _, _, h, _ => by cases h; rfl
  | _ :: _, _, 0, _, _, ⟨x, r, e1, h1, h2⟩, h => by subst e1; exact ⟨_, _, rfl, h, h2⟩
  | _ :: _, _, n + 1, _, _, ⟨x, r, e1, h1, h2⟩, h => by subst e1; exact ⟨x, _, rfl, h1, RpL.set n h2 h⟩
theorem RpL.erase : ∀ {ds : List D} {xs : List V} (n : Nat), RpL K B H ds xs → RpL K B H (ds.eraseIdx n) (xs.eraseIdx n)
  | [], _, n, h => by cases h; rfl
  | _ :: _, _, 0, ⟨x, r, e1, h1, h2⟩ => by subst e1; exact h2
  | _ :: _, _, n + 1, ⟨x, r, e1, h1, h2⟩ => by subst e1; exact ⟨x, _, rfl, h1, RpL.erase n h2⟩
theorem RpL.rev {ds : List D} {xs : List V} (h : RpL K B H ds xs) : RpL K B H ds.reverse xs.reverse := by
  induction ds generalizing xs with
  | nil => cases h; rfl
  | cons d ds ih =>
    obtain ⟨x, r, rfl, h1, h2⟩ := h
    rw [List.reverse_cons, List.reverse_cons]
    exact (ih h2).append ⟨x, [], rfl, h1, rfl⟩
theorem RpL.dropLast {ds : List D} {xs : List V} (h : RpL K B H ds xs) : RpL K B H ds.dropLast xs.dropLast := by
  rw [List.dropLast_eq_take, List.dropLast_eq_take, h.len]
  exact h.take _
theorem RpL.rep {d : D} {u : V} (h : Rp K B H d u) : ∀ n : Nat, RpL K B H (List.replicate n d) (List.replicate n u)
  | 0 => rfl
  | n + 1 => ⟨u, _, rfl, h, RpL.rep h n⟩
theorem RpL.one {d : D} {u : V} (h : Rp K B H d u) : RpL K B H [d] [u] := ⟨u, [], rfl, h, rfl⟩
/-- raw values -/
theorem RpL.vals : ∀ (xs : List V), RpL K B H (xs.map D.v) xs
  | [] => rfl
  | x :: xs => ⟨x, xs, rfl, rfl, RpL.vals xs⟩
theorem RpL.vals' : ∀ {xs ys : List V}, RpL K B H (xs.map D.v) ys → ys = xs
  | [], _, h => h
  | x :: xs, _, ⟨y, r, e, h1, h2⟩ => by subst e; cases h1; rw [RpL.vals' h2]
theorem ints_map (ns : List Int) : ns.map D.int = (ns.map V.int).map D.v := by rw [List.map_map]; rfl
theorem RpL.ints' {ns : List Int} {ys : List V} (h : RpL K B H (ns.map D.int) ys) : ys = ns.map V.int := by
  rw [ints_map] at h; exact RpL.vals' h
end

/-! ## the relation between what is told of slots and what stands -/
/-- places of lists that data does not speak of; of these the ones that may be written -/
structure Bw where
  on : Ban
  wr : Ban
  sub : ∀ a, wr a → on a
instance : Coe Bw Ban := ⟨Bw.on⟩
theorem Bw.up {B : Bw} {H H' : Hp} (k : Kp B.wr H H') : Kp B.on H H' := k.mono B.sub
/-- nothing at a but perhaps a table -/
def Fr0 (H : Hp) (a : Addr) : Prop := ∀ o, H a = some o → ¬ NT o
structure Cc where
  K : PySem.W.Frag
  H0 : Hp
  B0 : Ban
  M : Ban
  E : XK
  cl : Str → Addr
structure Rel (C : Cc) (B : Bw) (A : AE) (σ : L2.St) (H : Hp) : Prop where
  len : A.length = σ.length
  dat : ∀ (i : Nat) d, A[i]? = some (some (.dat d)) → ∃ v, σ[i]? = some (some v) ∧ Rp C.K B.on H d v
  own : ∀ (i : Nat) t xs, A[i]? = some (some (.own t xs)) → ∃ a vs, σ[i]? = some (some (.ref a)) ∧ H a = some (.lst vs) ∧ B.wr a ∧ RpL C.K B.on H xs vs ∧ (if t = true then C.M a else Fr0 C.H0 a ∧ ¬ C.B0 a)
  inj : ∀ (i j : Nat) t t' xs ys a, A[i]? = some (some (.own t xs)) → A[j]? = some (some (.own t' ys)) → σ[i]? = some (some (.ref a)) → σ[j]? = some (some (.ref a)) → i = j
  bl : BL B.on H
  b0 : ∀ a, C.B0 a → B.on a
  m0 : ∀ a, C.M a → B.on a
  kp : Kp C.M C.H0 H
  tabs : TbOk H
section
variable {C : Cc} {B : Bw} {A : AE} {σ : L2.St} {H H' : Hp}
theorem BL.same {B : Ban} (bl : BL B H) (k : Sm H H') : BL B H' := fun a b => let ⟨vs, e⟩ := bl a b; ⟨vs, k.lst e⟩
theorem Rel.same (r : Rel C B A σ H) (k : Sm H H') : Rel C B A σ H' where
  len := r.len
  dat := fun i d e => let ⟨v, e1, h⟩ := r.dat i d e; ⟨v, e1, h.same k⟩
  own := fun i t xs e => let ⟨a, vs, e1, e2, b, h, m⟩ := r.own i t xs e; ⟨a, vs, e1, k.lst e2, b, h.same k, m⟩
  inj := r.inj
  bl := r.bl.same k
  b0 := r.b0
  m0 := r.m0
  kp := r.kp.trans (Kp.of k)
  tabs := k.tb r.tabs
theorem Rel.new (r : Rel C B A σ H) {p : Addr} {o : HO} (h : H p = none) : Sm H (upd H p o) := Sm.of fun b u e => by
  rw [upd_ne (ne_of_none e h)]; exact e
theorem same_new {p : Addr} {o : HO} (h : H p = none) : Sm H (upd H p o) := Sm.of fun b u e => by
  rw [upd_ne (ne_of_none e h)]; exact e
theorem BL.free {B : Ban} {p : Addr} (bl : BL B H) (h : H p = none) : ¬ B p := fun b => by
  obtain ⟨vs, e⟩ := bl p b
  rw [h] at e; cases e
end

/-! ## readings by functions over what is told -/
/-- quiet, its value clean; quiet, its value perhaps a list in place; with changes of lists in place -/
def tQ (C : Cc) (f : AE → Option D) : TE := fun σ H Q => ∃ B A d, Rel C B A σ H ∧ f A = some d ∧ ∀ v H', Sm H H' → Rp C.K B.on H' d v → Q v H'
def tR (C : Cc) (f : AE → Option D) : TE := fun σ H Q => ∃ B A d, Rel C B A σ H ∧ f A = some d ∧ ∀ v H', Sm H H' → Rq C.K B.on H' d v → Q v H'
def tF (C : Cc) (f : AE → Option (D × AE)) : TE := fun σ H Q => ∃ B A d A', Rel C B A σ H ∧ f A = some (d, A') ∧ ∀ v H', Rel C B A' σ H' → Kp B.wr H H' → Rp C.K B.on H' d v → Q v H'
/-- tests -/
def tQT (C : Cc) (f : AE → Option Bool) : TT := fun σ H Q => ∃ B A b, Rel C B A σ H ∧ f A = some b ∧ ∀ H', Sm H H' → Q b H'
def tFT (C : Cc) (f : AE → Option (Bool × AE)) : TT := fun σ H Q => ∃ B A b A', Rel C B A σ H ∧ f A = some (b, A') ∧ ∀ H', Rel C B A' σ H' → Kp B.wr H H' → Q b H'
/-- lists of arguments -/
def tQA (C : Cc) (f : AE → Option (List D)) : TA := fun σ H Q => ∃ B A ds, Rel C B A σ H ∧ f A = some ds ∧ ∀ vs H', Sm H H' → RpL C.K B.on H' ds vs → Q vs H'
def tFA (C : Cc) (f : AE → Option (List D × AE)) : TA := fun σ H Q => ∃ B A ds A', Rel C B A σ H ∧ f A = some (ds, A') ∧ ∀ vs H', Rel C B A' σ H' → Kp B.wr H H' → RpL C.K B.on H' ds vs → Q vs H'
/-- arguments that may be lists in place -/
def RqL (K : PySem.W.Frag) (B : Ban) (H : Hp) : List D → List V → Prop
  | [], xs => xs = []
  | d :: ds, xs => ∃ x r, xs = x :: r ∧ Rq K B H d x ∧ RqL K B H ds r
def tRA (C : Cc) (f : AE → Option (List D)) : TA := fun σ H Q => ∃ B A ds, Rel C B A σ H ∧ f A = some ds ∧ ∀ vs H', Sm H H' → RqL C.K B.on H' ds vs → Q vs H'

section
variable {X : Cx} {C : Cc} {e : Expr}
theorem PE_imp {t t' : TE} (h : PE X e t) (i : ∀ σ H Q, t' σ H Q → t σ H Q) : PE X e t' := ⟨fun pins s σ H Q I q => h.run pins s σ H Q I (i _ _ _ q)⟩
theorem PT_imp {t t' : TT} (h : PT X e t) (i : ∀ σ H Q, t' σ H Q → t σ H Q) : PT X e t' := ⟨fun pins s σ H Q I q => h.run pins s σ H Q I (i _ _ _ q)⟩
theorem PW_imp {t t' : TT} (h : PW X e t) (i : ∀ σ H Q, t' σ H Q → t σ H Q) : PW X e t' := ⟨fun w pins s σ H Q I q => h.run w pins s σ H Q I (i _ _ _ q)⟩
theorem PA_imp {es : List Expr} {t t' : TA} (h : PA X es t) (i : ∀ σ H Q, t' σ H Q → t σ H Q) : PA X es t' := ⟨fun p pins s σ H Q I q => h.run p pins s σ H Q I (i _ _ _ q)⟩
theorem PS_imp {st : Stmt} {t t' : TS} (h : PS X st t) (i : ∀ D σ H, t' D σ H → t D σ H) : PS X st t' := ⟨fun pins s σ H D I q => h.run pins s σ H D I (i _ _ _ q)⟩
theorem PSs_imp {st : List Stmt} {t t' : TS} (h : PSs X st t) (i : ∀ D σ H, t' D σ H → t D σ H) : PSs X st t' := ⟨fun pins s σ H D I q => h.run pins s σ H D I (i _ _ _ q)⟩
theorem PI_imp {tg it : Expr} {t t' : TI} (h : PI X tg it t) (i : ∀ σ H Q, t' σ H Q → t σ H Q) : PI X tg it t' := ⟨fun pins s σ H Q I q => h.run pins s σ H Q I (i _ _ _ q)⟩
/-- a clean value -/
theorem rd {f : AE → Option D} (h : PE X e (tQ C f)) : PE X e (tR C f) := PE_imp h fun σ H Q ⟨B, A, d, r, ef, k⟩ => ⟨B, A, d, r, ef, fun v H' s q => k v H' s (Rq.of q)⟩
def qf (f : AE → Option D) : AE → Option (D × AE) := fun A => (f A).map fun d => (d, A)
theorem qf_inv {f : AE → Option D} {A A' : AE} {d : D} (h : qf f A = some (d, A')) : f A = some d ∧ A' = A := by
  unfold qf at h
  cases e : f A with
  | none => rw [e] at h; cases h
  | some x => rw [e] at h; simp only [Option.map_some, Option.some.injEq, Prod.mk.injEq] at h; exact ⟨by rw [h.1], h.2.symm⟩
theorem ef {f : AE → Option D} (h : PE X e (tQ C f)) : PE X e (tF C (qf f)) := PE_imp h fun σ H Q ⟨B, A, d, A', r, ef, k⟩ => by
  obtain ⟨h1, rfl⟩ := qf_inv ef
  exact ⟨B, A', d, r, h1, fun v H' s q => k v H' (r.same s) (Kp.of s) q⟩
def qtf (f : AE → Option Bool) : AE → Option (Bool × AE) := fun A => (f A).map fun d => (d, A)
theorem qtf_inv {f : AE → Option Bool} {A A' : AE} {d : Bool} (h : qtf f A = some (d, A')) : f A = some d ∧ A' = A := by
  unfold qtf at h
  cases e : f A with
  | none => rw [e] at h; cases h
  | some x => rw [e] at h; simp only [Option.map_some, Option.some.injEq, Prod.mk.injEq] at h; exact ⟨by rw [h.1], h.2.symm⟩
theorem eft {f : AE → Option Bool} (h : PT X e (tQT C f)) : PT X e (tFT C (qtf f)) := PT_imp h fun σ H Q ⟨B, A, d, A', r, ef, k⟩ => by
  obtain ⟨h1, rfl⟩ := qtf_inv ef
  exact ⟨B, A', d, r, h1, fun H' s => k H' (r.same s) (Kp.of s)⟩
end
end DV

namespace DV
open PySem PySem.Spec PyProof.Rows L2
variable [TabC]

/-! # operators on data -/
def rD (K : PySem.W.Frag) (m : D → D → Option D) : R2 := fun x y H Q => ∃ B d e z, BL B H ∧ Rq K B H d x ∧ Rq K B H e y ∧ m d e = some z ∧ ∀ v H', Sm H H' → Rp K B H' z v → Q v H'
def rU1 (K : PySem.W.Frag) (m : D → Option D) : V → Hp → VK → Prop := fun x H Q => ∃ B d z, BL B H ∧ Rq K B H d x ∧ m d = some z ∧ ∀ v H', Sm H H' → Rp K B H' z v → Q v H'
def rC (K : PySem.W.Frag) (m : List D → Option D) : List V → Hp → VK → Prop := fun vs H Q => ∃ B ds z, BL B H ∧ RqL K B H ds vs ∧ m ds = some z ∧ ∀ v H', Sm H H' → Rp K B H' z v → Q v H'

section
variable {K : PySem.W.Frag} {B : Ban} {H : Hp}
theorem RqL.one {d : D} {vs : List V} (h : RqL K B H [d] vs) : ∃ x, vs = [x] ∧ Rq K B H d x := by
  obtain ⟨x, r, rfl, h1, h2⟩ := h
  cases h2
  exact ⟨x, rfl, h1⟩
theorem RqL.two {d e : D} {vs : List V} (h : RqL K B H [d, e] vs) : ∃ x y, vs = [x, y] ∧ Rq K B H d x ∧ Rq K B H e y := by
  obtain ⟨x, r, rfl, h1, y, r2, rfl, h2, h3⟩ := h
  cases h3
  exact ⟨x, y, rfl, h1, h2⟩
theorem RqL.of : ∀ {ds : List D} {vs : List V}, RpL K B H ds vs → RqL K B H ds vs
  | [], _, h => h
  | _ :: _, _, ⟨x, r, e, h1, h2⟩ => ⟨x, r, e, Rq.of h1, RqL.of h2⟩
theorem Rp.tupNew {ds : List D} {xs : List V} {p : Addr} (h : RpL K B H ds xs) (hp : H p = none) : Rp K B (upd H p (.tup xs)) (.tup ds) (.ref p) :=
  ⟨p, xs, rfl, SqT.of upd_same, h.same (same_new hp)⟩
theorem Rp.lstNew {ds : List D} {xs : List V} {p : Addr} (bl : BL B H) (h : RpL K B H ds xs) (hp : H p = none) : Rp K B (upd H p (.lst xs)) (.lst ds) (.ref p) :=
  ⟨p, xs, rfl, ⟨upd_same, bl.free hp⟩, h.same (same_new hp)⟩
end

def szOk (n : Nat) : Bool := decide (n ≤ 16777216)
theorem szOk.le {n : Nat} (h : szOk n = true) : n ≤ sizeLine := by rw [sizeLine_eq]; exact of_decide_eq_true h
theorem szOk.of {n : Nat} (h : n ≤ 16777216) : szOk n = true := decide_eq_true h

def mAdd : D → D → Option D
  | .v (.int i), .v (.int j) => some (.int (i + j))
  | .v (.str x), .v (.str y) => if szOk (x.length + y.length) then some (.str (x ++ y)) else none
  | .tup xs, .tup ys => if szOk (xs.length + ys.length) then some (.tup (xs ++ ys)) else none
  | .lst xs, .lst ys => if szOk (xs.length + ys.length) then some (.lst (xs ++ ys)) else none
  | _, _ => none
def mSub : D → D → Option D
  | .v (.int i), .v (.int j) => some (.int (i - j))
  | _, _ => none
def mulOk (i j : Int) : Bool := decide (i.natAbs < 2 ^ 64) || decide (j.natAbs < 2 ^ 64) || decide (i.natAbs.log2 + j.natAbs.log2 < 1000000)
def mMul : D → D → Option D
  | .v (.int i), .v (.int j) => if mulOk i j then some (.int (i * j)) else none
  | .lst xs, .v (.int k) => if decide (k.natAbs < 2 ^ 63) && szOk (xs.length * k.toNat) then some (.lst (List.replicate k.toNat xs).flatten) else none
  | .tup xs, .v (.int k) => if !xs.isEmpty && decide (2 ≤ k ∧ k ≤ 1000 ∧ xs.length ≤ 1000) then some (.tup (List.replicate k.toNat xs).flatten) else none
  | _, _ => none
def mDiv : D → D → Option D
  | .v (.int i), .v (.int j) => if decide (0 < j) && decide (j.natAbs.log2 < 9000) then some (.int (i / j)) else none
  | _, _ => none
def mMod : D → D → Option D
  | .v (.int i), .v (.int j) => if decide (0 < j) then some (.int (i % j)) else none
  | _, _ => none
def mPow : D → D → Option D
  | .v (.int i), .v (.int j) => if decide (0 ≤ j ∧ j.natAbs ≤ 1000000 ∧ i.natAbs < 2 ^ 64) then some (.int (i ^ j.toNat)) else none
  | _, _ => none
def intsOf : List D → Option (List Int)
  | [] => some []
  | .v (.int i) :: r => (intsOf r).map (i :: ·)
  | _ => none
theorem intsOf_map : ∀ ns : List Int, intsOf (ns.map D.int) = some ns
  | [] => rfl
  | n :: ns => by show (intsOf (ns.map D.int)).map (n :: ·) = _; rw [intsOf_map ns]; rfl
theorem intsOf_inv : ∀ {ds : List D} {ns : List Int}, intsOf ds = some ns → ds = ns.map D.int
  | [], ns, h => by simp [intsOf] at h; subst h; rfl
  | .v (.int i) :: r, ns, h => by
    unfold intsOf at h
    cases e : intsOf r with
    | none => rw [e] at h; cases h
    | some m => rw [e] at h; cases h; rw [intsOf_inv e]; rfl
  | .v .non :: _, _, h => by cases h
  | .v (.bl _) :: _, _, h => by cases h
  | .v (.str _) :: _, _, h => by cases h
  | .v (.byt _) :: _, _, h => by cases h
  | .v (.flt _) :: _, _, h => by cases h
  | .v (.ref _) :: _, _, h => by cases h
  | .v (.ty _) :: _, _, h => by cases h
  | .tup _ :: _, _, h => by cases h
  | .lst _ :: _, _, h => by cases h
def blsOf : List D → Option (List Bool)
  | [] => some []
  | .v (.bl i) :: r => (blsOf r).map (i :: ·)
  | _ => none
theorem blsOf_map : ∀ ns : List Bool, blsOf (ns.map D.bl) = some ns
  | [] => rfl
  | n :: ns => by show (blsOf (ns.map D.bl)).map (n :: ·) = _; rw [blsOf_map ns]; rfl
theorem blsOf_inv : ∀ {ds : List D} {ns : List Bool}, blsOf ds = some ns → ds = ns.map D.bl
  | [], ns, h => by simp [blsOf] at h; subst h; rfl
  | .v (.bl i) :: r, ns, h => by
    unfold blsOf at h
    cases e : blsOf r with
    | none => rw [e] at h; cases h
    | some m => rw [e] at h; cases h; rw [blsOf_inv e]; rfl
  | .v .non :: _, _, h => by cases h
  | .v (.int _) :: _, _, h => by cases h
  | .v (.str _) :: _, _, h => by cases h
  | .v (.byt _) :: _, _, h => by cases h
  | .v (.flt _) :: _, _, h => by cases h
  | .v (.ref _) :: _, _, h => by cases h
  | .v (.ty _) :: _, _, h => by cases h
  | .tup _ :: _, _, h => by cases h
  | .lst _ :: _, _, h => by cases h
def flatsOf : List D → Option (List V)
  | [] => some []
  | .v x :: r => if flatV x then (flatsOf r).map (x :: ·) else none
  | _ => none
theorem flatsOf_inv : ∀ {ds : List D} {ns : List V}, flatsOf ds = some ns → ds = ns.map D.v ∧ ns.all flatV = true
  | [], ns, h => by simp [flatsOf] at h; subst h; exact ⟨rfl, rfl⟩
  | .v i :: r, ns, h => by
    unfold flatsOf at h
    split at h
    · rename_i hf
      cases e : flatsOf r with
      | none => rw [e] at h; cases h
      | some m => rw [e] at h; cases h; obtain ⟨h1, h2⟩ := flatsOf_inv e; rw [h1]; exact ⟨rfl, by rw [List.all_cons, hf, h2]; rfl⟩
    · cases h
  | .tup _ :: _, _, h => by cases h
  | .lst _ :: _, _, h => by cases h
theorem flatsOf_map : ∀ {ns : List V}, ns.all flatV = true → flatsOf (ns.map D.v) = some ns
  | [], _ => rfl
  | n :: ns, h => by
    rw [List.all_cons, Bool.and_eq_true] at h
    show (if flatV n then (flatsOf (ns.map D.v)).map (n :: ·) else none) = _
    rw [if_pos h.1, flatsOf_map h.2]; rfl
def mLt : D → D → Option D
  | .v (.int i), .v (.int j) => some (.bl (decide (i < j)))
  | .tup xs, .tup ys => (intsOf xs).bind fun ns => (intsOf ys).bind fun ms => some (.bl (HT.lexLt ns ms))
  | _, _ => none
def mLe : D → D → Option D
  | .v (.int i), .v (.int j) => some (.bl (decide (i ≤ j)))
  | _, _ => none
def mGt : D → D → Option D
  | .v (.int i), .v (.int j) => some (.bl (decide (j < i)))
  | _, _ => none
def mGe : D → D → Option D
  | .v (.int i), .v (.int j) => some (.bl (decide (j ≤ i)))
  | _, _ => none
/-! ## as the model's own data, for == -/
mutual
def toP : D → Option PyData
  | .v .non => some .none
  | .v (.bl b) => some (.bool b)
  | .v (.int i) => some (.int i)
  | .v (.str x) => some (.str x)
  | .v _ => none
  | .tup ds => (toPL ds).map PyData.tuple
  | .lst ds => (toPL ds).map PyData.list
def toPL : List D → Option (List PyData)
  | [] => some []
  | d :: ds => (toP d).bind fun p => (toPL ds).map (p :: ·)
end
def mEqB (d e : D) : Option Bool := (toP d).bind fun p => (toP e).bind fun q => if SeqAt.shaped p && SeqAt.shaped q then some (PyData.eqv p q) else none
def mEq (d e : D) : Option D := (mEqB d e).map D.bl
def mNe (d e : D) : Option D := (mEqB d e).map fun b => D.bl (!b)
def isNon : D → Bool
  | .v .non => true
  | _ => false
def mIs (d : D) : D → Option D
  | .v .non => some (.bl (isNon d))
  | _ => none
def mIsNot (d : D) : D → Option D
  | .v .non => some (.bl (!isNon d))
  | _ => none
def mIn : D → D → Option D
  | .v x, .tup ys => if flatV x then (flatsOf ys).map fun zs => .bl (inV x zs) else none
  | .v x, .lst ys => if flatV x then (flatsOf ys).map fun zs => .bl (inV x zs) else none
  | _, _ => none
def mNotIn : D → D → Option D
  | .v x, .tup ys => if flatV x then (flatsOf ys).map fun zs => .bl (!inV x zs) else none
  | .v x, .lst ys => if flatV x then (flatsOf ys).map fun zs => .bl (!inV x zs) else none
  | _, _ => none
section
variable {X : Cx} {K : PySem.W.Frag} {B : Ban} {H H' : Hp}
theorem RpL.repF {ds : List D} {xs : List V} (h : RpL K B H ds xs) : ∀ k : Nat, RpL K B H (List.replicate k ds).flatten (List.replicate k xs).flatten
  | 0 => rfl
  | k + 1 => by
    rw [List.replicate_succ, List.replicate_succ, List.flatten_cons, List.flatten_cons]
    exact h.append (RpL.repF h k)
theorem op_addD : OpR X (binaryOp .Add) (rD X.K mAdd) := by
  intro pins s σ H x y v u Q I rx ry h
  obtain ⟨B, d, e, z, bl, hd, he, em, q⟩ := h
  unfold mAdd at em
  split at em
  · cases em; cases hd; cases he
    exact op_add pins s σ H _ _ v u Q I rx ry ⟨_, _, rfl, rfl, q _ _ (Sm.refl _) rfl⟩
  · split at em
    · rename_i hz
      cases em; cases hd; cases he
      exact op_add_str pins s σ H _ _ v u Q I rx ry ⟨_, _, rfl, rfl, szOk.le hz, q _ _ (Sm.refl _) rfl⟩
    · cases em
  · split at em
    · rename_i hz
      cases em
      obtain ⟨a, xs, rfl, s1, r1⟩ := hd
      obtain ⟨b, ys, rfl, s2, r2⟩ := he
      refine op_catA pins s σ H _ _ v u Q I rx ry ⟨a, b, xs, ys, rfl, rfl, s1, s2, by rw [← r1.len, ← r2.len]; exact szOk.le hz, fun e => ?_, fun _ e => ?_, fun _ _ p hp => ?_⟩
      · refine q _ _ (Sm.refl _) ⟨b, xs ++ ys, rfl, ?_, r1.append r2⟩
        rw [e]; exact s2
      · refine q _ _ (Sm.refl _) ⟨a, xs ++ ys, rfl, ?_, r1.append r2⟩
        rw [e, List.append_nil]; exact s1
      · exact q _ _ (same_new hp) (Rp.tupNew (r1.append r2) hp)
    · cases em
  · split at em
    · rename_i hz
      cases em
      obtain ⟨a, xs, rfl, s1, r1⟩ := hd
      obtain ⟨b, ys, rfl, s2, r2⟩ := he
      exact op_cat pins s σ H _ _ v u Q I rx ry ⟨a, b, xs, ys, rfl, rfl, s1, s2, by rw [← r1.len, ← r2.len]; exact szOk.le hz, fun p hp => q _ _ (same_new hp) (Rp.lstNew bl (r1.append r2) hp)⟩
    · cases em
  · cases em
theorem op_subD : OpR X (binaryOp .Sub) (rD X.K mSub) := by
  intro pins s σ H x y v u Q I rx ry h
  obtain ⟨B, d, e, z, bl, hd, he, em, q⟩ := h
  unfold mSub at em
  split at em
  · cases em; cases hd; cases he
    exact op_sub pins s σ H _ _ v u Q I rx ry ⟨_, _, rfl, rfl, q _ _ (Sm.refl _) rfl⟩
  · cases em
theorem op_mulD : OpR X (binaryOp .Mult) (rD X.K mMul) := by
  intro pins s σ H x y v u Q I rx ry h
  obtain ⟨B, d, e, z, bl, hd, he, em, q⟩ := h
  unfold mMul at em
  split at em
  · split at em
    · rename_i hz
      cases em; cases hd; cases he
      unfold mulOk at hz
      rw [Bool.or_eq_true, Bool.or_eq_true, decide_eq_true_eq, decide_eq_true_eq, decide_eq_true_eq] at hz
      rcases hz with hz | hz
      · exact op_mul pins s σ H _ _ v u Q I rx ry ⟨_, _, rfl, rfl, (by show _ ∨ _; omega), q _ _ (Sm.refl _) rfl⟩
      · exact op_mulW pins s σ H _ _ v u Q I rx ry ⟨_, _, rfl, rfl, hz, q _ _ (Sm.refl _) rfl⟩
    · cases em
  · split at em
    · rename_i hz
      cases em
      rw [Bool.and_eq_true, decide_eq_true_eq] at hz
      obtain ⟨a, xs, rfl, s1, r1⟩ := hd
      cases he
      refine op_rep pins s σ H _ _ v u Q I rx ry ⟨a, _, xs, rfl, rfl, s1, by omega, by omega, by rw [← r1.len]; exact szOk.le hz.2, fun p hp => q _ _ (same_new hp) (Rp.lstNew bl (r1.repF _) hp)⟩
    · cases em
  · split at em
    · rename_i hz
      cases em
      rw [Bool.and_eq_true, decide_eq_true_eq, Bool.not_eq_true', List.isEmpty_eq_false_iff] at hz
      obtain ⟨a, xs, rfl, s1, r1⟩ := hd
      cases he
      refine op_repT pins s σ H _ _ v u Q I rx ry ⟨a, _, xs, rfl, rfl, s1, fun e => hz.1 (List.eq_nil_of_length_eq_zero (by rw [r1.len, e]; rfl)), hz.2.1, hz.2.2.1, by rw [← r1.len]; exact hz.2.2.2, fun p hp => q _ _ (same_new hp) (Rp.tupNew (r1.repF _) hp)⟩
    · cases em
  · cases em
theorem op_divD : OpR X (binaryOp .FloorDiv) (rD X.K mDiv) := by
  intro pins s σ H x y v u Q I rx ry h
  obtain ⟨B, d, e, z, bl, hd, he, em, q⟩ := h
  unfold mDiv at em
  split at em
  · split at em
    · rename_i hz
      cases em; cases hd; cases he
      rw [Bool.and_eq_true, decide_eq_true_eq, decide_eq_true_eq] at hz
      exact op_fdivW pins s σ H _ _ v u Q I rx ry ⟨_, _, rfl, rfl, hz, q _ _ (Sm.refl _) rfl⟩
    · cases em
  · cases em
theorem op_modD : OpR X (binaryOp .Mod) (rD X.K mMod) := by
  intro pins s σ H x y v u Q I rx ry h
  obtain ⟨B, d, e, z, bl, hd, he, em, q⟩ := h
  unfold mMod at em
  split at em
  · split at em
    · rename_i hz
      cases em; cases hd; cases he
      rw [decide_eq_true_eq] at hz
      exact op_mod pins s σ H _ _ v u Q I rx ry ⟨_, _, rfl, rfl, hz, q _ _ (Sm.refl _) rfl⟩
    · cases em
  · cases em
theorem op_powD : OpR X (binaryOp .Pow) (rD X.K mPow) := by
  intro pins s σ H x y v u Q I rx ry h
  obtain ⟨B, d, e, z, bl, hd, he, em, q⟩ := h
  unfold mPow at em
  split at em
  · split at em
    · rename_i hz
      cases em; cases hd; cases he
      rw [decide_eq_true_eq] at hz
      exact op_pow pins s σ H _ _ v u Q I rx ry ⟨_, _, rfl, rfl, ⟨hz.1, by omega, hz.2.2⟩, q _ _ (Sm.refl _) rfl⟩
    · cases em
  · cases em
theorem op_ltD (hu : X.A.units < cLine) : OpR X (compareOp .Lt) (rD X.K mLt) := by
  intro pins s σ H x y v u Q I rx ry h
  obtain ⟨B, d, e, z, bl, hd, he, em, q⟩ := h
  unfold mLt at em
  split at em
  · cases em; cases hd; cases he
    exact op_lt pins s σ H _ _ v u Q I rx ry ⟨_, _, rfl, rfl, q _ _ (Sm.refl _) rfl⟩
  · rename_i xs ys
    cases e1 : intsOf xs with
    | none => rw [e1] at em; cases em
    | some ns =>
      cases e2 : intsOf ys with
      | none => rw [e1, e2] at em; cases em
      | some ms =>
        rw [e1, e2] at em
        cases em
        obtain ⟨a, us, rfl, s1, r1⟩ := hd
        obtain ⟨b, ws, rfl, s2, r2⟩ := he
        rw [intsOf_inv e1] at r1
        rw [intsOf_inv e2] at r2
        rw [r1.ints'] at s1
        rw [r2.ints'] at s2
        exact op_ltT hu pins s σ H _ _ v u Q I rx ry ⟨a, b, ns, ms, rfl, rfl, s1, s2, q _ _ (Sm.refl _) rfl⟩
  · cases em
theorem op_leD : OpR X (compareOp .LtE) (rD X.K mLe) := by
  intro pins s σ H x y v u Q I rx ry h
  obtain ⟨B, d, e, z, bl, hd, he, em, q⟩ := h
  unfold mLe at em
  split at em
  · cases em; cases hd; cases he
    exact op_le pins s σ H _ _ v u Q I rx ry ⟨_, _, rfl, rfl, q _ _ (Sm.refl _) rfl⟩
  · cases em
theorem op_gtD : OpR X (compareOp .Gt) (rD X.K mGt) := by
  intro pins s σ H x y v u Q I rx ry h
  obtain ⟨B, d, e, z, bl, hd, he, em, q⟩ := h
  unfold mGt at em
  split at em
  · cases em; cases hd; cases he
    exact op_gt pins s σ H _ _ v u Q I rx ry ⟨_, _, rfl, rfl, q _ _ (Sm.refl _) rfl⟩
  · cases em
theorem op_geD : OpR X (compareOp .GtE) (rD X.K mGe) := by
  intro pins s σ H x y v u Q I rx ry h
  obtain ⟨B, d, e, z, bl, hd, he, em, q⟩ := h
  unfold mGe at em
  split at em
  · cases em; cases hd; cases he
    exact op_ge pins s σ H _ _ v u Q I rx ry ⟨_, _, rfl, rfl, q _ _ (Sm.refl _) rfl⟩
  · cases em
mutual
theorem Rp.dp : ∀ {d : D} {u : V} {p : PyData}, Rp K B H d u → toP d = some p → Dp K H u p
  | .v .non, _, _, h, e => by cases h; cases e; exact .non
  | .v (.bl _), _, _, h, e => by cases h; cases e; exact .bl _
  | .v (.int _), _, _, h, e => by cases h; cases e; exact .int _
  | .v (.str _), _, _, h, e => by cases h; cases e; exact .str _
  | .v (.byt _), _, _, _, e => by cases e
  | .v (.flt _), _, _, _, e => by cases e
  | .v (.ref _), _, _, _, e => by cases e
  | .v (.ty _), _, _, _, e => by cases e
  | .tup ds, _, p, ⟨a, xs, e1, s, r⟩, e => by
    unfold toP at e
    cases e2 : toPL ds with
    | none => rw [e2] at e; cases e
    | some ps => rw [e2] at e; cases e; subst e1; exact .tup s (RpL.dp r e2)
  | .lst ds, _, p, ⟨a, xs, e1, s, r⟩, e => by
    unfold toP at e
    cases e2 : toPL ds with
    | none => rw [e2] at e; cases e
    | some ps => rw [e2] at e; cases e; subst e1; exact .lst (SqL.of s.1) (RpL.dp r e2)
theorem RpL.dp : ∀ {ds : List D} {xs : List V} {ps : List PyData}, RpL K B H ds xs → toPL ds = some ps → DpAll K H xs ps
  | [], _, _, h, e => by cases h; cases e; exact .nil
  | d :: ds, _, _, ⟨x, r, e1, h1, h2⟩, e => by
    unfold toPL at e
    cases e2 : toP d with
    | none => rw [e2] at e; cases e
    | some p =>
      cases e3 : toPL ds with
      | none => rw [e2, e3] at e; cases e
      | some ps => rw [e2, e3] at e; cases e; subst e1; exact .cons (Rp.dp h1 e2) (RpL.dp h2 e3)
end
theorem Rq.dp {d : D} {u : V} {p : PyData} (h : Rq K B H d u) (e : toP d = some p) : Dp K H u p := by
  cases d with
  | v x => exact Rp.dp (d := .v x) (B := B) h e
  | tup ds => exact Rp.dp (d := .tup ds) (B := B) h e
  | lst ds =>
    obtain ⟨a, xs, rfl, s, r⟩ := h
    unfold toP at e
    cases e2 : toPL ds with
    | none => rw [e2] at e; cases e
    | some ps => rw [e2] at e; cases e; exact .lst (SqL.of s) (RpL.dp r e2)
theorem mEqB_inv {d e : D} {b : Bool} (h : mEqB d e = some b) : ∃ p q, toP d = some p ∧ toP e = some q ∧ SeqAt.shaped p = true ∧ SeqAt.shaped q = true ∧ b = PyData.eqv p q := by
  unfold mEqB at h
  cases e1 : toP d with
  | none => rw [e1] at h; cases h
  | some p =>
    cases e2 : toP e with
    | none => rw [e1, e2] at h; cases h
    | some q =>
      rw [e1, e2] at h
      simp only [Option.bind_some] at h
      split at h
      · rename_i hz
        rw [Bool.and_eq_true] at hz
        cases h
        exact ⟨p, q, rfl, rfl, hz.1, hz.2, rfl⟩
      · cases h
theorem op_eqDD (hu : X.A.units + 64 < cLine) : OpR X (compareOp .Eq) (rD X.K mEq) := by
  intro pins s σ H x y v u Q I rx ry h
  obtain ⟨B, d, e, z, bl, hd, he, em, q⟩ := h
  unfold mEq at em
  cases e1 : mEqB d e with
  | none => rw [e1] at em; cases em
  | some b =>
    rw [e1] at em; cases em
    obtain ⟨p1, p2, h1, h2, s1, s2, rfl⟩ := mEqB_inv e1
    exact op_eqD hu pins s σ H _ _ v u Q I rx ry ⟨p1, p2, hd.dp h1, he.dp h2, s1, s2, q _ _ (Sm.refl _) rfl⟩
theorem op_neDD (hu : X.A.units + 64 < cLine) : OpR X (compareOp .NotEq) (rD X.K mNe) := by
  intro pins s σ H x y v u Q I rx ry h
  obtain ⟨B, d, e, z, bl, hd, he, em, q⟩ := h
  unfold mNe at em
  cases e1 : mEqB d e with
  | none => rw [e1] at em; cases em
  | some b =>
    rw [e1] at em; cases em
    obtain ⟨p1, p2, h1, h2, s1, s2, rfl⟩ := mEqB_inv e1
    exact op_neD hu pins s σ H _ _ v u Q I rx ry ⟨p1, p2, hd.dp h1, he.dp h2, s1, s2, q _ _ (Sm.refl _) rfl⟩
theorem isNon_of {d : D} {x : V} (h : Rq K B H d x) : decide (x = .non) = isNon d := by
  cases d with
  | v y =>
    have e : x = y := h
    subst e
    cases x <;> first | rfl | exact decide_eq_false (fun z => by cases z)
  | tup ds => obtain ⟨a, xs, rfl, _⟩ := h; rfl
  | lst ds => obtain ⟨a, xs, rfl, _⟩ := h; rfl
theorem op_isD : OpR X (compareOp .Is) (rD X.K mIs) := by
  intro pins s σ H x y v u Q I rx ry h
  obtain ⟨B, d, e, z, bl, hd, he, em, q⟩ := h
  unfold mIs at em
  split at em
  · cases em; cases he
    refine op_isN pins s σ H _ _ v u Q I rx ry ⟨rfl, ?_⟩
    rw [isNon_of hd]
    exact q _ _ (Sm.refl _) rfl
  · cases em
theorem op_isNotD : OpR X (compareOp .IsNot) (rD X.K mIsNot) := by
  intro pins s σ H x y v u Q I rx ry h
  obtain ⟨B, d, e, z, bl, hd, he, em, q⟩ := h
  unfold mIsNot at em
  split at em
  · cases em; cases he
    refine op_notN pins s σ H _ _ v u Q I rx ry ⟨rfl, ?_⟩
    rw [isNon_of hd]
    exact q _ _ (Sm.refl _) rfl
  · cases em
theorem Rq.seq {d : D} {u : V} {ds : List D} (e : d = .lst ds ∨ d = .tup ds) (h : Rq K B H d u) : ∃ a xs, u = .ref a ∧ (SqL K H a xs ∨ SqT K H a xs) ∧ RpL K B H ds xs := by
  rcases e with rfl | rfl
  · obtain ⟨a, xs, rfl, s, r⟩ := h; exact ⟨a, xs, rfl, .inl (SqL.of s), r⟩
  · obtain ⟨a, xs, rfl, s, r⟩ := h; exact ⟨a, xs, rfl, .inr s, r⟩
theorem mIn_inv {neg : Bool} {d e : D} {z : D} (h : (if neg then mNotIn d e else mIn d e) = some z) : ∃ x ys zs, d = .v x ∧ (e = .lst ys ∨ e = .tup ys) ∧ flatV x = true ∧ flatsOf ys = some zs ∧ z = .bl (if neg then !inV x zs else inV x zs) := by
  cases neg with
  | true =>
    rw [if_pos rfl] at h
    unfold mNotIn at h
    split at h
    all_goals first | (cases h; done) | skip
    all_goals
      split at h
      · rename_i x ys hf
        cases e2 : flatsOf ys with
        | none => rw [e2] at h; cases h
        | some zs => rw [e2] at h; cases h; exact ⟨x, ys, zs, rfl, by first | exact .inl rfl | exact .inr rfl, hf, e2, rfl⟩
      · cases h
  | false =>
    rw [if_neg (by decide)] at h
    unfold mIn at h
    split at h
    all_goals first | (cases h; done) | skip
    all_goals
      split at h
      · rename_i x ys hf
        cases e2 : flatsOf ys with
        | none => rw [e2] at h; cases h
        | some zs => rw [e2] at h; cases h; exact ⟨x, ys, zs, rfl, by first | exact .inl rfl | exact .inr rfl, hf, e2, rfl⟩
      · cases h
theorem op_inD : OpR X (compareOp .In) (rD X.K mIn) := by
  intro pins s σ H x y v u Q I rx ry h
  obtain ⟨B, d, e, z, bl, hd, he, em, q⟩ := h
  obtain ⟨x', ys, zs, rfl, e1, fx, e2, rfl⟩ := mIn_inv (neg := false) em
  obtain ⟨a, xs, rfl, s1, r1⟩ := Rq.seq e1 he
  obtain ⟨e3, fz⟩ := flatsOf_inv e2
  rw [e3] at r1
  rw [RpL.vals' r1] at s1
  have hx : x = x' := hd
  subst hx
  exact op_in_seq pins s σ H _ _ v u Q I rx ry ⟨a, zs, rfl, s1, fx, fz, q _ _ (Sm.refl _) rfl⟩
theorem op_notInD : OpR X (compareOp .NotIn) (rD X.K mNotIn) := by
  intro pins s σ H x y v u Q I rx ry h
  obtain ⟨B, d, e, z, bl, hd, he, em, q⟩ := h
  obtain ⟨x', ys, zs, rfl, e1, fx, e2, rfl⟩ := mIn_inv (neg := true) em
  obtain ⟨a, xs, rfl, s1, r1⟩ := Rq.seq e1 he
  obtain ⟨e3, fz⟩ := flatsOf_inv e2
  rw [e3] at r1
  rw [RpL.vals' r1] at s1
  have hx : x = x' := hd
  subst hx
  exact op_notIn_seq pins s σ H _ _ v u Q I rx ry ⟨a, zs, rfl, s1, fx, fz, q _ _ (Sm.refl _) rfl⟩
end
end DV

namespace DV
open PySem PySem.Spec PyProof.Rows L2
variable [TabC]

/-! # expressions -/
section
variable {X : Cx} {C : Cc} {B : Bw} {A A' : AE} {σ : L2.St} {H H' : Hp}
/-! ## names and constants -/
def fVar (i : Nat) : AE → Option D := fun A => match A[i]? with
  | some (some (.dat d)) => some d
  | _ => none
def fOwn (i : Nat) : AE → Option D := fun A => match A[i]? with
  | some (some (.dat d)) => some d
  | some (some (.own t xs)) => some (.lst xs)
  | _ => none
theorem fVar_inv {i : Nat} {d : D} (h : fVar i A = some d) : A[i]? = some (some (.dat d)) := by
  unfold fVar at h
  split at h
  · rename_i e; cases h; exact e
  · cases h
theorem q_var {i : Nat} {e : Expr} (h : PE X e (tVar i)) : PE X e (tQ C (fVar i)) := PE_imp h fun σ H Q ⟨B, A, d, r, ef, k⟩ => by
  obtain ⟨v, e1, q⟩ := r.dat i d (fVar_inv ef)
  exact ⟨v, e1, k v H (Sm.refl H) q⟩
theorem r_var {i : Nat} {e : Expr} (h : PE X e (tVar i)) : PE X e (tR C (fOwn i)) := PE_imp h fun σ H Q ⟨B, A, d, r, ef, k⟩ => by
  unfold fOwn at ef
  split at ef
  · rename_i e1
    cases ef
    obtain ⟨v, e1, q⟩ := r.dat i d e1
    exact ⟨v, e1, k v H (Sm.refl H) (Rq.of q)⟩
  · rename_i xs e1
    cases ef
    obtain ⟨a, vs, e1, e2, _, q, _⟩ := r.own i _ xs e1
    exact ⟨_, e1, k _ H (Sm.refl H) ⟨a, vs, rfl, e2, q⟩⟩
  · cases ef
def fC (d : V) : AE → Option D := fun _ => some (.v d)
theorem q_c {d : V} {e : Expr} (h : PE X e (tC d)) : PE X e (tQ C (fC d)) := PE_imp h fun σ H Q ⟨B, A, d', r, ef, k⟩ => by
  cases ef
  exact k _ H (Sm.refl H) rfl

/-! ## argument lists -/
def fNil : AE → Option (List D) := fun _ => some []
def fCons (f : AE → Option D) (g : AE → Option (List D)) : AE → Option (List D) := fun A => (f A).bind fun d => (g A).map (d :: ·)
theorem fCons_inv {f : AE → Option D} {g : AE → Option (List D)} {ds : List D} (h : fCons f g A = some ds) : ∃ d r, f A = some d ∧ g A = some r ∧ ds = d :: r := by
  unfold fCons at h
  cases e1 : f A with
  | none => rw [e1] at h; cases h
  | some d =>
    cases e2 : g A with
    | none => rw [e1, e2] at h; cases h
    | some r => rw [e1, e2] at h; cases h; exact ⟨d, r, rfl, rfl, rfl⟩
theorem qa_nil : PA X [] (tQA C fNil) := PA_imp pa_nil fun σ H Q ⟨B, A, ds, r, ef, k⟩ => by
  cases ef; exact k [] H (Sm.refl H) rfl
theorem qa_cons {e : Expr} {es : List Expr} {f : AE → Option D} {g : AE → Option (List D)} (h : PE X e (tQ C f)) (t : PA X es (tQA C g)) (hs : starEach (e :: es) X.env = (false, eval e X.env) :: starEach es X.env := by rfl) :
    PA X (e :: es) (tQA C (fCons f g)) := PA_imp (pa_cons h t hs) fun σ H Q ⟨B, A, ds, r, ef, k⟩ => by
  obtain ⟨d, ds', h1, h2, rfl⟩ := fCons_inv ef
  exact ⟨B, A, d, r, h1, fun v H1 s1 q1 => ⟨B, A, ds', r.same s1, h2, fun vs H2 s2 q2 => k _ H2 (s1.trans s2) ⟨v, vs, rfl, q1.same s2, q2⟩⟩⟩
theorem ra_nil : PA X [] (tRA C fNil) := PA_imp pa_nil fun σ H Q ⟨B, A, ds, r, ef, k⟩ => by
  cases ef; exact k [] H (Sm.refl H) rfl
theorem ra_cons {e : Expr} {es : List Expr} {f : AE → Option D} {g : AE → Option (List D)} (h : PE X e (tR C f)) (t : PA X es (tRA C g)) (hs : starEach (e :: es) X.env = (false, eval e X.env) :: starEach es X.env := by rfl) :
    PA X (e :: es) (tRA C (fCons f g)) := PA_imp (pa_cons h t hs) fun σ H Q ⟨B, A, ds, r, ef, k⟩ => by
  obtain ⟨d, ds', h1, h2, rfl⟩ := fCons_inv ef
  exact ⟨B, A, d, r, h1, fun v H1 s1 q1 => ⟨B, A, ds', r.same s1, h2, fun vs H2 s2 q2 => k _ H2 (s1.trans s2) ⟨v, vs, rfl, q1.same s2, q2⟩⟩⟩
def gNil : AE → Option (List D × AE) := fun A => some ([], A)
def gCons (f : AE → Option (D × AE)) (g : AE → Option (List D × AE)) : AE → Option (List D × AE) := fun A => (f A).bind fun p => (g p.2).map fun q => (p.1 :: q.1, q.2)
theorem gCons_inv {f : AE → Option (D × AE)} {g : AE → Option (List D × AE)} {ds : List D} (h : gCons f g A = some (ds, A')) : ∃ d A1 r, f A = some (d, A1) ∧ g A1 = some (r, A') ∧ ds = d :: r := by
  unfold gCons at h
  cases e1 : f A with
  | none => rw [e1] at h; cases h
  | some p =>
    obtain ⟨d, A1⟩ := p
    rw [e1, Option.bind_some] at h
    cases e2 : g A1 with
    | none => rw [e2] at h; cases h
    | some q => rw [e2] at h; cases h; exact ⟨d, A1, q.1, rfl, e2, rfl⟩
theorem fa_nil : PA X [] (tFA C gNil) := PA_imp pa_nil fun σ H Q ⟨B, A, ds, A', r, ef, k⟩ => by
  cases ef; exact k [] H r (Kp.refl _ H) rfl
theorem fa_cons {e : Expr} {es : List Expr} {f : AE → Option (D × AE)} {g : AE → Option (List D × AE)} (h : PE X e (tF C f)) (t : PA X es (tFA C g)) (hs : starEach (e :: es) X.env = (false, eval e X.env) :: starEach es X.env := by rfl) :
    PA X (e :: es) (tFA C (gCons f g)) := PA_imp (pa_cons h t hs) fun σ H Q ⟨B, A, ds, A', r, ef, k⟩ => by
  obtain ⟨d, A1, ds', h1, h2, rfl⟩ := gCons_inv ef
  exact ⟨B, A, d, A1, r, h1, fun v H1 r1 s1 q1 => ⟨B, A1, ds', A', r1, h2, fun vs H2 r2 s2 q2 => k _ H2 r2 (s1.trans s2) ⟨v, vs, rfl, q1.kp r1.bl (Bw.up s2), q2⟩⟩⟩
def qa (f : AE → Option (List D)) : AE → Option (List D × AE) := fun A => (f A).map fun d => (d, A)
theorem efa {es : List Expr} {f : AE → Option (List D)} (h : PA X es (tQA C f)) : PA X es (tFA C (qa f)) := PA_imp h fun σ H Q ⟨B, A, d, A', r, ef, k⟩ => by
  unfold qa at ef
  cases e1 : f A with
  | none => rw [e1] at ef; cases ef
  | some y => rw [e1] at ef; cases ef; exact ⟨B, A, _, r, e1, fun v H' s q => k v H' (r.same s) (Kp.of s) q⟩

/-! ## two-place operators, comparisons -/
def fB (m : D → D → Option D) (f g : AE → Option D) : AE → Option D := fun A => (f A).bind fun x => (g A).bind fun y => m x y
theorem fB_inv {m : D → D → Option D} {f g : AE → Option D} {d : D} (h : fB m f g A = some d) : ∃ x y, f A = some x ∧ g A = some y ∧ m x y = some d := by
  unfold fB at h
  cases e1 : f A with
  | none => rw [e1] at h; cases h
  | some x =>
    cases e2 : g A with
    | none => rw [e1, e2] at h; cases h
    | some y => rw [e1, e2] at h; exact ⟨x, y, rfl, rfl, h⟩
def gB (m : D → D → Option D) (f g : AE → Option (D × AE)) : AE → Option (D × AE) := fun A => (f A).bind fun p => (g p.2).bind fun q => (m p.1 q.1).map fun z => (z, q.2)
theorem gB_inv {m : D → D → Option D} {f g : AE → Option (D × AE)} {d : D} (h : gB m f g A = some (d, A')) : ∃ x A1 y, f A = some (x, A1) ∧ g A1 = some (y, A') ∧ m x y = some d := by
  unfold gB at h
  cases e1 : f A with
  | none => rw [e1] at h; cases h
  | some p =>
    obtain ⟨x, A1⟩ := p
    rw [e1, Option.bind_some] at h
    cases e2 : g A1 with
    | none => rw [e2] at h; cases h
    | some q =>
      obtain ⟨y, A2⟩ := q
      rw [e2, Option.bind_some] at h
      cases e3 : m x y with
      | none => rw [e3] at h; cases h
      | some z => rw [e3] at h; cases h; exact ⟨x, A1, y, rfl, e2, e3⟩
/-- the reading of a two-place operation over quiet parts, and over others -/
theorem tOp_q {m : D → D → Option D} {f g : AE → Option D} {Q : VK} (hK : X.K = C.K) (h : tQ C (fB m f g) σ H Q) : tOp (rD X.K m) (tR C f) (tR C g) σ H Q := by
  obtain ⟨B, A, d, r, ef, k⟩ := h
  obtain ⟨x, y, h1, h2, h3⟩ := fB_inv ef
  rw [hK]
  exact ⟨B, A, x, r, h1, fun v H1 s1 q1 => ⟨B, A, y, r.same s1, h2, fun u H2 s2 q2 => ⟨B, x, y, d, (r.same (s1.trans s2)).bl, q1.same s2, q2, h3, fun w H' s q => k w H' ((s1.trans s2).trans s) q⟩⟩⟩
theorem tOp_f {m : D → D → Option D} {f g : AE → Option (D × AE)} {Q : VK} (hK : X.K = C.K) (h : tF C (gB m f g) σ H Q) : tOp (rD X.K m) (tF C f) (tF C g) σ H Q := by
  obtain ⟨B, A, d, A', r, ef, k⟩ := h
  obtain ⟨x, A1, y, h1, h2, h3⟩ := gB_inv ef
  rw [hK]
  exact ⟨B, A, x, A1, r, h1, fun v H1 r1 s1 q1 => ⟨B, A1, y, A', r1, h2, fun u H2 r2 s2 q2 => ⟨B, x, y, d, r2.bl, Rq.of (q1.kp r1.bl (Bw.up s2)), Rq.of q2, h3, fun w H' s q => k w H' (r2.same s) ((s1.trans s2).trans (Kp.of s)) q⟩⟩⟩
variable {a b : Expr} {pos : Pos} {f g : AE → Option D} {f' g' : AE → Option (D × AE)} {m : D → D → Option D}
theorem q_bin {op : Operator} (ho : OpR X (binaryOp op) (rD X.K m)) (ha : PE X a (tR C f)) (hb : PE X b (tR C g)) (hK : X.K = C.K := by rfl) : PE X (.BinOp a op b pos) (tQ C (fB m f g)) :=
  PE_imp (pe_op ho ha hb) fun _ _ _ h => tOp_q hK h
theorem f_bin {op : Operator} (ho : OpR X (binaryOp op) (rD X.K m)) (ha : PE X a (tF C f')) (hb : PE X b (tF C g')) (hK : X.K = C.K := by rfl) : PE X (.BinOp a op b pos) (tF C (gB m f' g')) :=
  PE_imp (pe_op ho ha hb) fun _ _ _ h => tOp_f hK h
theorem q_cmp {op : CmpOp} (ho : OpR X (compareOp op) (rD X.K m)) (ha : PE X a (tR C f)) (hb : PE X b (tR C g)) (hm : behindInMarks op b = false := by first | exact nobehind _ (by decide) (by decide) | rfl) (hK : X.K = C.K := by rfl) :
    PE X (.Compare a [op] [b] pos) (tQ C (fB m f g)) := PE_imp (pe_cmpR ho ha hb hm) fun _ _ _ h => tOp_q hK h
theorem f_cmp {op : CmpOp} (ho : OpR X (compareOp op) (rD X.K m)) (ha : PE X a (tF C f')) (hb : PE X b (tF C g')) (hm : behindInMarks op b = false := by first | exact nobehind _ (by decide) (by decide) | rfl) (hK : X.K = C.K := by rfl) :
    PE X (.Compare a [op] [b] pos) (tF C (gB m f' g')) := PE_imp (pe_cmpR ho ha hb hm) fun _ _ _ h => tOp_f hK h
/-- a value as a test -/
def asB : D → Option Bool
  | .v (.bl b) => some b
  | _ => none
theorem asB_inv {d : D} {b : Bool} (h : asB d = some b) : d = .bl b := by
  unfold asB at h
  split at h
  · cases h; rfl
  · cases h
def fT (f : AE → Option D) : AE → Option Bool := fun A => (f A).bind asB
theorem fT_inv {f : AE → Option D} {b : Bool} (h : fT f A = some b) : f A = some (.bl b) := by
  unfold fT at h
  cases e : f A with
  | none => rw [e] at h; cases h
  | some d => rw [e] at h; rw [asB_inv h]
def gT (f : AE → Option (D × AE)) : AE → Option (Bool × AE) := fun A => (f A).bind fun p => (asB p.1).map fun b => (b, p.2)
theorem gT_inv {f : AE → Option (D × AE)} {b : Bool} (h : gT f A = some (b, A')) : f A = some (.bl b, A') := by
  unfold gT at h
  cases e : f A with
  | none => rw [e] at h; cases h
  | some p =>
    rw [e, Option.bind_some] at h
    cases e2 : asB p.1 with
    | none => rw [e2] at h; cases h
    | some c => rw [e2] at h; cases h; rw [← asB_inv e2]
theorem tB_q {Q : Bool → Hp → Prop} {t : TE} (ht : ∀ σ H Q, tQ C f σ H Q → t σ H Q) (h : tQT C (fT f) σ H Q) : tB t σ H Q := by
  obtain ⟨B, A, b, r, ef, k⟩ := h
  exact ht σ H _ ⟨B, A, _, r, fT_inv ef, fun v H' s q => ⟨b, q, k H' s⟩⟩
theorem tB_f {Q : Bool → Hp → Prop} {t : TE} (ht : ∀ σ H Q, tF C f' σ H Q → t σ H Q) (h : tFT C (gT f') σ H Q) : tB t σ H Q := by
  obtain ⟨B, A, b, A', r, ef, k⟩ := h
  exact ht σ H _ ⟨B, A, _, A', r, gT_inv ef, fun v H' r' s q => ⟨b, q, k H' r' s⟩⟩
theorem qt_val {e : Expr} (h : PE X e (tQ C f)) (he : ∀ whole, isTrue e X.env whole = (do let v ← whole; standAt e.pos; holding [v] (truthy v)) := by intro _; rfl) : PT X e (tQT C (fT f)) :=
  PT_imp (pt_val h he) fun _ _ _ q => tB_q (fun _ _ _ x => x) q
theorem ft_val {e : Expr} (h : PE X e (tF C f')) (he : ∀ whole, isTrue e X.env whole = (do let v ← whole; standAt e.pos; holding [v] (truthy v)) := by intro _; rfl) : PT X e (tFT C (gT f')) :=
  PT_imp (pt_val h he) fun _ _ _ q => tB_f (fun _ _ _ x => x) q
theorem tTest_q {Q : Bool → Hp → Prop} {t : TE} (ht : ∀ σ H Q, tQ C f σ H Q → t σ H Q) (h : tQT C (fT f) σ H Q) : tTest t σ H Q := tB_q ht h
theorem tTest_f {Q : Bool → Hp → Prop} {t : TE} (ht : ∀ σ H Q, tF C f' σ H Q → t σ H Q) (h : tFT C (gT f') σ H Q) : tTest t σ H Q := tB_f ht h
theorem qt_cmp {op : CmpOp} (ho : OpR X (compareOp op) (rD X.K m)) (ha : PE X a (tR C f)) (hb : PE X b (tR C g)) (hm : behindInMarks op b = false := by first | exact nobehind _ (by decide) (by decide) | rfl) (hK : X.K = C.K := by rfl) :
    PT X (.Compare a [op] [b] pos) (tQT C (fT (fB m f g))) := PT_imp (pt_cmpR ho ha hb hm) fun _ _ _ h => tTest_q (fun _ _ _ q => tOp_q hK q) h
theorem ft_cmp {op : CmpOp} (ho : OpR X (compareOp op) (rD X.K m)) (ha : PE X a (tF C f')) (hb : PE X b (tF C g')) (hm : behindInMarks op b = false := by first | exact nobehind _ (by decide) (by decide) | rfl) (hK : X.K = C.K := by rfl) :
    PT X (.Compare a [op] [b] pos) (tFT C (gT (gB m f' g'))) := PT_imp (pt_cmpR ho ha hb hm) fun _ _ _ h => tTest_f (fun _ _ _ q => tOp_f hK q) h
/-! ## a < b < c, quiet -/
def fChain (m m' : D → D → Option D) (f g h : AE → Option D) : AE → Option D := fun A => (f A).bind fun x => (g A).bind fun y => (m x y).bind fun z => (asB z).bind fun k => if k then (h A).bind fun w => m' y w else some (.bl false)
theorem tChain_q {m m' : D → D → Option D} {f g h : AE → Option D} {Q : VK} (hK : X.K = C.K) (hh : tQ C (fChain m m' f g h) σ H Q) : tChain (rD X.K m) (rD X.K m') (tR C f) (tR C g) (tR C h) σ H Q := by
  obtain ⟨B, A, d, r, ef, k⟩ := hh
  unfold fChain at ef
  cases e1 : f A with
  | none => rw [e1] at ef; cases ef
  | some x =>
    cases e2 : g A with
    | none => rw [e1, e2] at ef; cases ef
    | some y =>
      rw [e1, e2, Option.bind_some, Option.bind_some] at ef
      cases e3 : m x y with
      | none => rw [e3] at ef; cases ef
      | some z =>
        rw [e3, Option.bind_some] at ef
        cases e4 : asB z with
        | none => rw [e4] at ef; cases ef
        | some c =>
          rw [e4, Option.bind_some] at ef
          have ez := asB_inv e4
          subst ez
          rw [hK]
          refine ⟨B, A, x, r, e1, fun v H1 s1 q1 => ⟨B, A, y, r.same s1, e2, fun u H2 s2 q2 => ⟨B, x, y, _, (r.same (s1.trans s2)).bl, q1.same s2, q2, e3, fun w H3 s3 q3 => ⟨c, q3, ?_⟩⟩⟩⟩
          cases c with
          | false =>
            cases ef
            exact iteF (k _ _ ((s1.trans s2).trans s3) rfl)
          | true =>
            rw [if_pos rfl] at ef
            refine iteT ?_
            cases e5 : h A with
            | none => rw [e5] at ef; cases ef
            | some w' =>
              rw [e5, Option.bind_some] at ef
              exact ⟨B, A, w', r.same ((s1.trans s2).trans s3), e5, fun u' H4 s4 q4 => ⟨B, y, w', d, (r.same (((s1.trans s2).trans s3).trans s4)).bl, q2.same (s3.trans s4), q4, ef, fun v' H' s q => k v' H' ((((s1.trans s2).trans s3).trans s4).trans s) q⟩⟩
variable {c : Expr} {h : AE → Option D} {m' : D → D → Option D}
theorem q_chain {op op' : CmpOp} (ho : OpR X (compareOp op) (rD X.K m)) (ho' : OpR X (compareOp op') (rD X.K m')) (ha : PE X a (tR C f)) (hb : PE X b (tR C g)) (hc : PE X c (tR C h))
    (hm : lastMarks [op, op'] [b, c] = false := by with_unfolding_all rfl) (hK : X.K = C.K := by rfl) : PE X (.Compare a [op, op'] [b, c] pos) (tQ C (fChain m m' f g h)) := PE_imp (pe_chain ho ho' ha hb hc hm) fun _ _ _ q => tChain_q hK q
theorem qt_chain {op op' : CmpOp} (ho : OpR X (compareOp op) (rD X.K m)) (ho' : OpR X (compareOp op') (rD X.K m')) (ha : PE X a (tR C f)) (hb : PE X b (tR C g)) (hc : PE X c (tR C h))
    (hm : lastMarks [op, op'] [b, c] = false := by with_unfolding_all rfl) (hK : X.K = C.K := by rfl) : PT X (.Compare a [op, op'] [b, c] pos) (tQT C (fT (fChain m m' f g h))) := PT_imp (pt_chain ho ho' ha hb hc hm) fun _ _ _ q => tTest_q (fun _ _ _ z => tChain_q hK z) q
/-! ## and, or, not -/
def fAnd (p q : AE → Option Bool) : AE → Option Bool := fun A => (p A).bind fun b => if b then q A else some false
def fOr (p q : AE → Option Bool) : AE → Option Bool := fun A => (p A).bind fun b => if b then some true else q A
def fNot (p : AE → Option Bool) : AE → Option Bool := fun A => (p A).map (!·)
def gAnd (p q : AE → Option (Bool × AE)) : AE → Option (Bool × AE) := fun A => (p A).bind fun b => if b.1 then q b.2 else some (false, b.2)
def gOr (p q : AE → Option (Bool × AE)) : AE → Option (Bool × AE) := fun A => (p A).bind fun b => if b.1 then some (true, b.2) else q b.2
def gNot (p : AE → Option (Bool × AE)) : AE → Option (Bool × AE) := fun A => (p A).map fun b => (!b.1, b.2)
variable {p q : AE → Option Bool} {p' q' : AE → Option (Bool × AE)} {rest : List Expr}
theorem qw_1 {op : BoolOp} (h : PT X a (tQT C p)) : PW X (.BoolOp op [a] pos) (tQT C p) := match op with
  | .And => pw_and1 h
  | .Or => pw_or1 h
theorem fw_1 {op : BoolOp} (h : PT X a (tFT C p')) : PW X (.BoolOp op [a] pos) (tFT C p') := match op with
  | .And => pw_and1 h
  | .Or => pw_or1 h
theorem qw_and (h1 : PT X a (tQT C p)) (h2 : PW X (.BoolOp .And (b :: rest) pos) (tQT C q)) : PW X (.BoolOp .And (a :: b :: rest) pos) (tQT C (fAnd p q)) := PW_imp (pw_and h1 h2) fun σ H Q ⟨B, A, v, r, ef, k⟩ => by
  unfold fAnd at ef
  cases e : p A with
  | none => rw [e] at ef; cases ef
  | some c =>
    rw [e, Option.bind_some] at ef
    refine ⟨B, A, c, r, e, fun H1 s1 => ?_⟩
    cases c with
    | true => exact iteT ⟨B, A, v, r.same s1, ef, fun H' s => k H' (s1.trans s)⟩
    | false => cases ef; exact iteF (k H1 s1)
theorem qw_or (h1 : PT X a (tQT C p)) (h2 : PW X (.BoolOp .Or (b :: rest) pos) (tQT C q)) : PW X (.BoolOp .Or (a :: b :: rest) pos) (tQT C (fOr p q)) := PW_imp (pw_or h1 h2) fun σ H Q ⟨B, A, v, r, ef, k⟩ => by
  unfold fOr at ef
  cases e : p A with
  | none => rw [e] at ef; cases ef
  | some c =>
    rw [e, Option.bind_some] at ef
    refine ⟨B, A, c, r, e, fun H1 s1 => ?_⟩
    cases c with
    | false => exact iteF ⟨B, A, v, r.same s1, ef, fun H' s => k H' (s1.trans s)⟩
    | true => cases ef; exact iteT (k H1 s1)
theorem fw_and (h1 : PT X a (tFT C p')) (h2 : PW X (.BoolOp .And (b :: rest) pos) (tFT C q')) : PW X (.BoolOp .And (a :: b :: rest) pos) (tFT C (gAnd p' q')) := PW_imp (pw_and h1 h2) fun σ H Q ⟨B, A, v, A', r, ef, k⟩ => by
  unfold gAnd at ef
  cases e : p' A with
  | none => rw [e] at ef; cases ef
  | some c =>
    obtain ⟨c, A1⟩ := c
    rw [e, Option.bind_some] at ef
    refine ⟨B, A, c, A1, r, e, fun H1 r1 s1 => ?_⟩
    cases c with
    | true => exact iteT ⟨B, A1, v, A', r1, ef, fun H' r' s => k H' r' (s1.trans s)⟩
    | false => cases ef; exact iteF (k H1 r1 s1)
theorem fw_or (h1 : PT X a (tFT C p')) (h2 : PW X (.BoolOp .Or (b :: rest) pos) (tFT C q')) : PW X (.BoolOp .Or (a :: b :: rest) pos) (tFT C (gOr p' q')) := PW_imp (pw_or h1 h2) fun σ H Q ⟨B, A, v, A', r, ef, k⟩ => by
  unfold gOr at ef
  cases e : p' A with
  | none => rw [e] at ef; cases ef
  | some c =>
    obtain ⟨c, A1⟩ := c
    rw [e, Option.bind_some] at ef
    refine ⟨B, A, c, A1, r, e, fun H1 r1 s1 => ?_⟩
    cases c with
    | false => exact iteF ⟨B, A1, v, A', r1, ef, fun H' r' s => k H' r' (s1.trans s)⟩
    | true => cases ef; exact iteT (k H1 r1 s1)
theorem qt_not (h1 : PT X a (tQT C p)) : PT X (.UnaryOp .Not a pos) (tQT C (fNot p)) := PT_imp (pt_not h1) fun σ H Q ⟨B, A, v, r, ef, k⟩ => by
  unfold fNot at ef
  cases e : p A with
  | none => rw [e] at ef; cases ef
  | some c => rw [e] at ef; cases ef; exact ⟨B, A, c, r, e, fun H1 s1 => k H1 s1⟩
theorem ft_not (h1 : PT X a (tFT C p')) : PT X (.UnaryOp .Not a pos) (tFT C (gNot p')) := PT_imp (pt_not h1) fun σ H Q ⟨B, A, v, A', r, ef, k⟩ => by
  unfold gNot at ef
  cases e : p' A with
  | none => rw [e] at ef; cases ef
  | some c => rw [e] at ef; cases ef; exact ⟨B, A, c.1, c.2, r, e, fun H1 r1 s1 => k H1 r1 s1⟩
/-! as values -/
def fAndV (f g : AE → Option D) : AE → Option D := fun A => (f A).bind fun x => (asB x).bind fun b => if b then g A else some (.bl false)
def fOrV (f g : AE → Option D) : AE → Option D := fun A => (f A).bind fun x => (asB x).bind fun b => if b then some (.bl true) else g A
def fNotV (f : AE → Option D) : AE → Option D := fun A => (f A).bind fun x => (asB x).map fun b => .bl (!b)
def gAndV (f g : AE → Option (D × AE)) : AE → Option (D × AE) := fun A => (f A).bind fun x => (asB x.1).bind fun b => if b then g x.2 else some (.bl false, x.2)
def gOrV (f g : AE → Option (D × AE)) : AE → Option (D × AE) := fun A => (f A).bind fun x => (asB x.1).bind fun b => if b then some (.bl true, x.2) else g x.2
theorem q_one {op : BoolOp} (h : PE X a (tQ C f)) : PE X (.BoolOp op [a] pos) (tQ C f) := pe_one h
theorem f_one {op : BoolOp} (h : PE X a (tF C f')) : PE X (.BoolOp op [a] pos) (tF C f') := pe_one h
theorem q_and (h1 : PE X a (tQ C f)) (h2 : PE X (.BoolOp .And (b :: rest) pos) (tQ C g)) : PE X (.BoolOp .And (a :: b :: rest) pos) (tQ C (fAndV f g)) := PE_imp (pe_and h1 h2) fun σ H Q ⟨B, A, v, r, ef, k⟩ => by
  unfold fAndV at ef
  cases e : f A with
  | none => rw [e] at ef; cases ef
  | some x =>
    rw [e, Option.bind_some] at ef
    cases e2 : asB x with
    | none => rw [e2] at ef; cases ef
    | some c =>
      rw [e2, Option.bind_some] at ef
      have := asB_inv e2; subst this
      refine ⟨B, A, _, r, e, fun u H1 s1 q1 => ⟨c, q1, ?_⟩⟩
      cases c with
      | true => exact iteT ⟨B, A, v, r.same s1, ef, fun w H' s q => k w H' (s1.trans s) q⟩
      | false => cases ef; exact iteF (k _ H1 s1 rfl)
theorem q_or (h1 : PE X a (tQ C f)) (h2 : PE X (.BoolOp .Or (b :: rest) pos) (tQ C g)) : PE X (.BoolOp .Or (a :: b :: rest) pos) (tQ C (fOrV f g)) := PE_imp (pe_or h1 h2) fun σ H Q ⟨B, A, v, r, ef, k⟩ => by
  unfold fOrV at ef
  cases e : f A with
  | none => rw [e] at ef; cases ef
  | some x =>
    rw [e, Option.bind_some] at ef
    cases e2 : asB x with
    | none => rw [e2] at ef; cases ef
    | some c =>
      rw [e2, Option.bind_some] at ef
      have := asB_inv e2; subst this
      refine ⟨B, A, _, r, e, fun u H1 s1 q1 => ⟨c, q1, ?_⟩⟩
      cases c with
      | false => exact iteF ⟨B, A, v, r.same s1, ef, fun w H' s q => k w H' (s1.trans s) q⟩
      | true => cases ef; exact iteT (k _ H1 s1 rfl)
theorem f_and (h1 : PE X a (tF C f')) (h2 : PE X (.BoolOp .And (b :: rest) pos) (tF C g')) : PE X (.BoolOp .And (a :: b :: rest) pos) (tF C (gAndV f' g')) := PE_imp (pe_and h1 h2) fun σ H Q ⟨B, A, v, A', r, ef, k⟩ => by
  unfold gAndV at ef
  cases e : f' A with
  | none => rw [e] at ef; cases ef
  | some x =>
    obtain ⟨x, A1⟩ := x
    rw [e, Option.bind_some] at ef
    cases e2 : asB x with
    | none => rw [e2] at ef; cases ef
    | some c =>
      rw [e2, Option.bind_some] at ef
      have := asB_inv e2; subst this
      refine ⟨B, A, _, A1, r, e, fun u H1 r1 s1 q1 => ⟨c, q1, ?_⟩⟩
      cases c with
      | true => exact iteT ⟨B, A1, v, A', r1, ef, fun w H' r' s q => k w H' r' (s1.trans s) q⟩
      | false => cases ef; exact iteF (k _ H1 r1 s1 rfl)
theorem f_or (h1 : PE X a (tF C f')) (h2 : PE X (.BoolOp .Or (b :: rest) pos) (tF C g')) : PE X (.BoolOp .Or (a :: b :: rest) pos) (tF C (gOrV f' g')) := PE_imp (pe_or h1 h2) fun σ H Q ⟨B, A, v, A', r, ef, k⟩ => by
  unfold gOrV at ef
  cases e : f' A with
  | none => rw [e] at ef; cases ef
  | some x =>
    obtain ⟨x, A1⟩ := x
    rw [e, Option.bind_some] at ef
    cases e2 : asB x with
    | none => rw [e2] at ef; cases ef
    | some c =>
      rw [e2, Option.bind_some] at ef
      have := asB_inv e2; subst this
      refine ⟨B, A, _, A1, r, e, fun u H1 r1 s1 q1 => ⟨c, q1, ?_⟩⟩
      cases c with
      | false => exact iteF ⟨B, A1, v, A', r1, ef, fun w H' r' s q => k w H' r' (s1.trans s) q⟩
      | true => cases ef; exact iteT (k _ H1 r1 s1 rfl)
theorem q_not (h1 : PE X a (tQ C f)) : PE X (.UnaryOp .Not a pos) (tQ C (fNotV f)) := PE_imp (pe_not h1) fun σ H Q ⟨B, A, v, r, ef, k⟩ => by
  unfold fNotV at ef
  cases e : f A with
  | none => rw [e] at ef; cases ef
  | some x =>
    rw [e, Option.bind_some] at ef
    cases e2 : asB x with
    | none => rw [e2] at ef; cases ef
    | some c =>
      rw [e2] at ef
      have := asB_inv e2; subst this
      cases ef
      exact ⟨B, A, _, r, e, fun u H1 s1 q1 => ⟨c, q1, k _ H1 s1 rfl⟩⟩
/-! ## a if t else b -/
def fIf (p : AE → Option Bool) (f g : AE → Option D) : AE → Option D := fun A => (p A).bind fun b => if b then f A else g A
def gIf (p : AE → Option (Bool × AE)) (f g : AE → Option (D × AE)) : AE → Option (D × AE) := fun A => (p A).bind fun b => if b.1 then f b.2 else g b.2
theorem q_if (hc : PT X c (tQT C p)) (ha : PE X a (tQ C f)) (hb : PE X b (tQ C g)) : PE X (.IfExp c a b pos) (tQ C (fIf p f g)) := PE_imp (pe_ifExp hc ha hb) fun σ H Q ⟨B, A, v, r, ef, k⟩ => by
  unfold fIf at ef
  cases e : p A with
  | none => rw [e] at ef; cases ef
  | some c =>
    rw [e, Option.bind_some] at ef
    refine ⟨B, A, c, r, e, fun H1 s1 => ?_⟩
    cases c with
    | true => exact iteT ⟨B, A, v, r.same s1, ef, fun w H' s q => k w H' (s1.trans s) q⟩
    | false => exact iteF ⟨B, A, v, r.same s1, ef, fun w H' s q => k w H' (s1.trans s) q⟩
theorem f_if (hc : PT X c (tFT C p')) (ha : PE X a (tF C f')) (hb : PE X b (tF C g')) : PE X (.IfExp c a b pos) (tF C (gIf p' f' g')) := PE_imp (pe_ifExp hc ha hb) fun σ H Q ⟨B, A, v, A', r, ef, k⟩ => by
  unfold gIf at ef
  cases e : p' A with
  | none => rw [e] at ef; cases ef
  | some c =>
    obtain ⟨c, A1⟩ := c
    rw [e, Option.bind_some] at ef
    refine ⟨B, A, c, A1, r, e, fun H1 r1 s1 => ?_⟩
    cases c with
    | true => exact iteT ⟨B, A1, v, A', r1, ef, fun w H' r' s q => k w H' r' (s1.trans s) q⟩
    | false => exact iteF ⟨B, A1, v, A', r1, ef, fun w H' r' s q => k w H' r' (s1.trans s) q⟩
/-! ## displays -/
def fTup (f : AE → Option (List D)) : AE → Option D := fun A => (f A).bind fun ds => if szOk ds.length then some (.tup ds) else none
def fLst (f : AE → Option (List D)) : AE → Option D := fun A => (f A).bind fun ds => if szOk ds.length then some (.lst ds) else none
def gTupE (f : AE → Option (List D × AE)) : AE → Option (D × AE) := fun A => (f A).bind fun ds => if szOk ds.1.length then some (.tup ds.1, ds.2) else none
def gLst (f : AE → Option (List D × AE)) : AE → Option (D × AE) := fun A => (f A).bind fun ds => if szOk ds.1.length then some (.lst ds.1, ds.2) else none
variable {es : List Expr} {fs : AE → Option (List D)} {fs' : AE → Option (List D × AE)}
theorem q_tup {x1} (h : PA X es (tQA C fs)) : PE X (.Tuple es x1 pos) (tQ C (fTup fs)) := PE_imp (pe_tup h) fun σ H Q ⟨B, A, v, r, ef, k⟩ => by
  unfold fTup at ef
  cases e : fs A with
  | none => rw [e] at ef; cases ef
  | some ds =>
    rw [e, Option.bind_some] at ef
    split at ef
    · rename_i hz
      cases ef
      exact ⟨B, A, ds, r, e, fun vs H1 s1 q1 => ⟨by rw [← q1.len]; exact szOk.le hz, fun p hp => k _ _ (s1.trans (same_new hp)) (Rp.tupNew q1 hp)⟩⟩
    · cases ef
theorem q_lst (h : PA X es (tQA C fs)) : PE X (.List es pos) (tQ C (fLst fs)) := PE_imp (pe_lst h) fun σ H Q ⟨B, A, v, r, ef, k⟩ => by
  unfold fLst at ef
  cases e : fs A with
  | none => rw [e] at ef; cases ef
  | some ds =>
    rw [e, Option.bind_some] at ef
    split at ef
    · rename_i hz
      cases ef
      exact ⟨B, A, ds, r, e, fun vs H1 s1 q1 => ⟨by rw [← q1.len]; exact szOk.le hz, fun p hp => k _ _ (s1.trans (same_new hp)) (Rp.lstNew (r.same s1).bl q1 hp)⟩⟩
    · cases ef
theorem f_tup {x1} (h : PA X es (tFA C fs')) : PE X (.Tuple es x1 pos) (tF C (gTupE fs')) := PE_imp (pe_tup h) fun σ H Q ⟨B, A, v, A', r, ef, k⟩ => by
  unfold gTupE at ef
  cases e : fs' A with
  | none => rw [e] at ef; cases ef
  | some ds =>
    obtain ⟨ds, A1⟩ := ds
    rw [e, Option.bind_some] at ef
    split at ef
    · rename_i hz
      cases ef
      exact ⟨B, A, ds, A1, r, e, fun vs H1 r1 s1 q1 => ⟨by rw [← q1.len]; exact szOk.le hz, fun p hp => k _ _ (r1.same (same_new hp)) (s1.trans (Kp.of (same_new hp))) (Rp.tupNew q1 hp)⟩⟩
    · cases ef
theorem f_lst (h : PA X es (tFA C fs')) : PE X (.List es pos) (tF C (gLst fs')) := PE_imp (pe_lst h) fun σ H Q ⟨B, A, v, A', r, ef, k⟩ => by
  unfold gLst at ef
  cases e : fs' A with
  | none => rw [e] at ef; cases ef
  | some ds =>
    obtain ⟨ds, A1⟩ := ds
    rw [e, Option.bind_some] at ef
    split at ef
    · rename_i hz
      cases ef
      exact ⟨B, A, ds, A1, r, e, fun vs H1 r1 s1 q1 => ⟨by rw [← q1.len]; exact szOk.le hz, fun p hp => k _ _ (r1.same (same_new hp)) (s1.trans (Kp.of (same_new hp))) (Rp.lstNew r1.bl q1 hp)⟩⟩
    · cases ef
/-! ## items, slices -/
def mIx : D → D → Option D
  | .lst xs, .v (.int i) => atI xs i
  | .tup xs, .v (.int i) => atI xs i
  | .v (.str z), .v (.int i) => if szOk z.length then (atI z.cps.toList i).map fun c => .str ⟨#[c]⟩ else none
  | _, _ => none
theorem atI_len {α β : Type} {xs : List α} {ys : List β} {i : Int} {x : α} (hl : xs.length = ys.length) (h : atI xs i = some x) : ∃ j, ixN xs.length i = some j ∧ ixN ys.length i = some j ∧ xs[j]? = some x := by
  unfold atI at h
  cases e : ixN xs.length i with
  | none => rw [e] at h; cases h
  | some j => rw [e, Option.bind_some] at h; exact ⟨j, rfl, by rw [← hl]; exact e, h⟩
theorem RpL.atI {K : PySem.W.Frag} {B : Ban} {ds : List D} {xs : List V} {i : Int} {d : D} (h : RpL K B H ds xs) (e : atI ds i = some d) : ∃ x, L2.atI xs i = some x ∧ Rp K B H d x := by
  obtain ⟨j, _, h2, h3⟩ := atI_len h.len e
  obtain ⟨x, e1, r⟩ := h.get h3
  exact ⟨x, by unfold L2.atI; rw [h2, Option.bind_some]; exact e1, r⟩
theorem ix_D : IxR X (rD X.K mIx) := by
  intro value slice pins s σ H x y v u Q I rx ry h hs
  obtain ⟨B, d, e, z, bl, hd, he, em, q⟩ := h
  unfold mIx at em
  split at em
  · cases he
    obtain ⟨a, xs, rfl, s1, r1⟩ := hd
    obtain ⟨x, e1, r2⟩ := r1.atI em
    exact ix_list value slice pins s σ H _ _ v u Q I rx ry ⟨a, xs, _, x, rfl, rfl, SqL.of s1, e1, q _ _ (Sm.refl _) r2⟩ hs
  · cases he
    obtain ⟨a, xs, rfl, s1, r1⟩ := hd
    obtain ⟨x, e1, r2⟩ := r1.atI em
    exact ix_tup value slice pins s σ H _ _ v u Q I rx ry ⟨a, xs, _, x, rfl, rfl, s1, e1, q _ _ (Sm.refl _) r2⟩ hs
  · rename_i zz ii
    split at em
    · rename_i hz
      cases he; cases hd
      cases e1 : atI zz.cps.toList ii with
      | none => rw [e1] at em; cases em
      | some c =>
        rw [e1] at em; cases em
        exact ix_str value slice pins s σ H _ _ v u Q I rx ry ⟨_, _, c, rfl, rfl, szOk.le hz, e1, q _ _ (Sm.refl _) rfl⟩ hs
    · cases em
  · cases em
theorem q_ix (ha : PE X a (tR C f)) (hb : PE X b (tR C g)) (hs : PlainIx b := by exact fun _ _ => rfl) (hK : X.K = C.K := by rfl) : PE X (.Subscript a b pos) (tQ C (fB mIx f g)) :=
  PE_imp (pe_ix ix_D ha hb hs) fun _ _ _ h => tOp_q hK h
theorem f_ix (ha : PE X a (tF C f')) (hb : PE X b (tF C g')) (hs : PlainIx b := by exact fun _ _ => rfl) (hK : X.K = C.K := by rfl) : PE X (.Subscript a b pos) (tF C (gB mIx f' g')) :=
  PE_imp (pe_ix ix_D ha hb hs) fun _ _ _ h => tOp_f hK h
def cutD (xs : List D) (lo hi : Option Int) : List D := (xs.drop (HT.sIx xs.length 0 lo)).take (HT.sIx xs.length xs.length hi - HT.sIx xs.length 0 lo)
def mSl (d : D) (lo hi : Option Int) : Option D := match d with
  | .lst xs => some (.lst (cutD xs lo hi))
  | .tup xs => some (.tup (cutD xs lo hi))
  | _ => none
def rS (K : PySem.W.Frag) : V → Option Int → Option Int → Hp → VK → Prop := fun x lo hi H Q => ∃ B d z, BL B H ∧ Rq K B H d x ∧ mSl d lo hi = some z ∧ ∀ v H', Sm H H' → Rp K B H' z v → Q v H'
theorem RpL.cut {K : PySem.W.Frag} {B : Ban} {ds : List D} {xs : List V} (h : RpL K B H ds xs) (lo hi : Option Int) : RpL K B H (cutD ds lo hi) (cutV xs lo hi) := by
  unfold cutD cutV
  rw [h.len]
  exact (h.drop _).take _
theorem sl_D : SlR X (rS X.K) := by
  intro pins s σ H x v vl vu lo hi sl Q I rx hs pl pu h
  obtain ⟨B, d, z, bl, hd, em, q⟩ := h
  unfold mSl at em
  split at em
  · cases em
    obtain ⟨a, xs, rfl, s1, r1⟩ := hd
    exact sl_list pins s σ H _ v vl vu lo hi sl Q I rx hs pl pu ⟨a, xs, rfl, SqL.of s1, fun p hp => q _ _ (same_new hp) (Rp.lstNew bl (r1.cut lo hi) hp)⟩
  · cases em
    obtain ⟨a, xs, rfl, s1, r1⟩ := hd
    refine sl_tupA pins s σ H _ v vl vu lo hi sl Q I rx hs pl pu ⟨a, xs, rfl, s1, fun ⟨e1, e2⟩ => ?_, fun _ p hp => q _ _ (same_new hp) (Rp.tupNew (r1.cut lo hi) hp)⟩
    have e : cutV xs lo hi = xs := by
      unfold cutV
      rw [e1, e2, Nat.sub_zero, List.drop_zero, List.take_length]
    have r2 := r1.cut lo hi
    rw [e] at r2
    exact q _ _ (Sm.refl _) ⟨a, xs, rfl, s1, r2⟩
  · cases em
/-- a part of a slice -/
def tQO (C : Cc) (f : AE → Option (Option Int)) : TO := fun σ H Q => ∃ B A o, Rel C B A σ H ∧ f A = some o ∧ ∀ H', Sm H H' → Q o H'
def fONone : AE → Option (Option Int) := fun _ => some none
def asI : D → Option Int
  | .v (.int i) => some i
  | _ => none
theorem asI_inv {d : D} {b : Int} (h : asI d = some b) : d = .int b := by
  unfold asI at h
  split at h
  · cases h; rfl
  · cases h
def fO (f : AE → Option D) : AE → Option (Option Int) := fun A => (f A).bind fun d => (asI d).map some
theorem qo_none : PO X none (tQO C fONone) := ⟨fun pins s σ H Q I ⟨B, A, o, r, ef, k⟩ => po_none.run pins s σ H Q I (by cases ef; exact k H (Sm.refl H))⟩
theorem qo_some {e : Expr} (h : PE X e (tQ C f)) : PO X (some e) (tQO C (fO f)) := ⟨fun pins s σ H Q I ⟨B, A, o, r, ef, k⟩ => (po_some h).run pins s σ H Q I (by
  unfold fO at ef
  cases e : f A with
  | none => rw [e] at ef; cases ef
  | some d =>
    rw [e, Option.bind_some] at ef
    cases e2 : asI d with
    | none => rw [e2] at ef; cases ef
    | some i =>
      rw [e2] at ef; cases ef
      have := asI_inv e2; subst this
      exact ⟨B, A, _, r, e, fun v H' s q => ⟨i, q, k H' s⟩⟩)⟩
def fSl (f : AE → Option D) (l u : AE → Option (Option Int)) : AE → Option D := fun A => (f A).bind fun d => (l A).bind fun lo => (u A).bind fun hi => mSl d lo hi
theorem q_sl {e : Expr} {lo hi : Option Expr} {p2 : Pos} {l u : AE → Option (Option Int)} (he : PE X e (tR C f)) (hl : PO X lo (tQO C l)) (hu : PO X hi (tQO C u)) (hK : X.K = C.K := by rfl) : PE X (.Subscript e (.Slice lo hi none p2) pos) (tQ C (fSl f l u)) :=
  PE_imp (pe_slice sl_D he hl hu) fun σ H Q ⟨B, A, d, r, ef, k⟩ => by
    unfold fSl at ef
    cases e1 : f A with
    | none => rw [e1] at ef; cases ef
    | some x =>
      rw [e1, Option.bind_some] at ef
      cases e2 : l A with
      | none => rw [e2] at ef; cases ef
      | some lo =>
        rw [e2, Option.bind_some] at ef
        cases e3 : u A with
        | none => rw [e3] at ef; cases ef
        | some hi =>
          rw [e3, Option.bind_some] at ef
          rw [hK]
          exact ⟨B, A, x, r, e1, fun v H1 s1 q1 => ⟨B, A, lo, r.same s1, e2, fun H2 s2 => ⟨B, A, hi, r.same (s1.trans s2), e3, fun H3 s3 => ⟨B, x, d, (r.same ((s1.trans s2).trans s3)).bl, q1.same (s2.trans s3), ef, fun w H' s q => k w H' (((s1.trans s2).trans s3).trans s) q⟩⟩⟩⟩
/-! ## calls of built-ins -/
variable {mc : List D → Option D}
def fCB (mc : List D → Option D) (fs : AE → Option (List D)) : AE → Option D := fun A => (fs A).bind mc
theorem tCB_q {Q : VK} (hK : X.K = C.K) (h : tQ C (fCB mc fs) σ H Q) : tCB (rC X.K mc) (tRA C fs) σ H Q := by
  obtain ⟨B, A, d, r, ef, k⟩ := h
  unfold fCB at ef
  cases e : fs A with
  | none => rw [e] at ef; cases ef
  | some ds =>
    rw [e, Option.bind_some] at ef
    rw [hK]
    exact ⟨B, A, ds, r, e, fun vs H1 s1 q1 => ⟨B, ds, d, (r.same s1).bl, q1, ef, fun w H' s q => k w H' (s1.trans s) q⟩⟩
theorem q_callB {id : String} {x : Str} {p : Pos} {e : Expr} (hc : CallR X (.builtin id) (rC X.K mc)) (hg : Gl X x) (hm : X.mg x = none) (hv : bootBuiltins x = some (.builtin id)) (ha : PA X (e :: es) (tRA C fs)) (hn : x ≠ "__name__" := by decide) (hdb : (x == ("__debug__" : Str)) = false := by decide)
    (he : starEach (e :: es) X.env = (false, eval e X.env) :: starEach es X.env := by rfl) (hpl : (backTo pos (starEach es X.env)).any (·.1) = false := by rfl) (hK : X.K = C.K := by rfl) : PE X (.Call (.Name x p) (e :: es) [] pos) (tQ C (fCB mc fs)) :=
  PE_imp (pe_callB hc hg hm hv ha hn hdb he hpl) fun _ _ _ h => tCB_q hK h
theorem q_callTy {T : String} {x : Str} {p : Pos} {e : Expr} (hc : CallR X (.type T) (rC X.K mc)) (hg : Gl X x) (hm : X.mg x = none) (hv : bootBuiltins x = some (.type T)) (ha : PA X (e :: es) (tRA C fs)) (hn : x ≠ "__name__" := by decide) (hdb : (x == ("__debug__" : Str)) = false := by decide)
    (he : starEach (e :: es) X.env = (false, eval e X.env) :: starEach es X.env := by rfl) (hpl : (backTo pos (starEach es X.env)).any (·.1) = false := by rfl) (hK : X.K = C.K := by rfl) : PE X (.Call (.Name x p) (e :: es) [] pos) (tQ C (fCB mc fs)) :=
  PE_imp (pe_callTy hc hg hm hv ha hn hdb he hpl) fun _ _ _ h => tCB_q hK h
def gCB (mc : List D → Option D) (fs : AE → Option (List D × AE)) : AE → Option (D × AE) := fun A => (fs A).bind fun q => (mc q.1).map fun d => (d, q.2)
theorem tCB_f {Q : VK} (hK : X.K = C.K) (h : tF C (gCB mc fs') σ H Q) : tCB (rC X.K mc) (tFA C fs') σ H Q := by
  obtain ⟨B, A, d, A', r, ef, k⟩ := h
  unfold gCB at ef
  cases e : fs' A with
  | none => rw [e] at ef; cases ef
  | some ds =>
    obtain ⟨ds, A1⟩ := ds
    rw [e, Option.bind_some] at ef
    cases e2 : mc ds with
    | none => rw [e2] at ef; cases ef
    | some z =>
      rw [e2] at ef; cases ef
      rw [hK]
      exact ⟨B, A, ds, A1, r, e, fun vs H1 r1 s1 q1 => ⟨B, ds, d, r1.bl, RqL.of q1, e2, fun w H' s q => k w H' (r1.same s) (s1.trans (Kp.of s)) q⟩⟩
theorem f_callB {id : String} {x : Str} {p : Pos} {e : Expr} (hc : CallR X (.builtin id) (rC X.K mc)) (hg : Gl X x) (hm : X.mg x = none) (hv : bootBuiltins x = some (.builtin id)) (ha : PA X (e :: es) (tFA C fs')) (hn : x ≠ "__name__" := by decide) (hdb : (x == ("__debug__" : Str)) = false := by decide)
    (he : starEach (e :: es) X.env = (false, eval e X.env) :: starEach es X.env := by rfl) (hpl : (backTo pos (starEach es X.env)).any (·.1) = false := by rfl) (hK : X.K = C.K := by rfl) : PE X (.Call (.Name x p) (e :: es) [] pos) (tF C (gCB mc fs')) :=
  PE_imp (pe_callB hc hg hm hv ha hn hdb he hpl) fun _ _ _ h => tCB_f hK h
theorem f_callTy {T : String} {x : Str} {p : Pos} {e : Expr} (hc : CallR X (.type T) (rC X.K mc)) (hg : Gl X x) (hm : X.mg x = none) (hv : bootBuiltins x = some (.type T)) (ha : PA X (e :: es) (tFA C fs')) (hn : x ≠ "__name__" := by decide) (hdb : (x == ("__debug__" : Str)) = false := by decide)
    (he : starEach (e :: es) X.env = (false, eval e X.env) :: starEach es X.env := by rfl) (hpl : (backTo pos (starEach es X.env)).any (·.1) = false := by rfl) (hK : X.K = C.K := by rfl) : PE X (.Call (.Name x p) (e :: es) [] pos) (tF C (gCB mc fs')) :=
  PE_imp (pe_callTy hc hg hm hv ha hn hdb he hpl) fun _ _ _ h => tCB_f hK h
end
end DV

namespace DV
open PySem PySem.Spec PyProof.Rows L2
variable [TabC]

/-! # built-ins on data -/
def mLen : List D → Option D
  | [.lst xs] => some (.int xs.length)
  | [.tup xs] => some (.int xs.length)
  | [.v (.str z)] => if szOk z.length then some (.int z.length) else none
  | _ => none
def mAbs : List D → Option D
  | [.v (.int i)] => some (.int (if i < 0 then -i else i))
  | _ => none
def mInt : List D → Option D
  | [.v (.int i)] => some (.int i)
  | [.v (.bl b)] => some (.int (if b then 1 else 0))
  | _ => none
def mSum : List D → Option D
  | [.lst xs] => (intsOf xs).map fun ns => .int ns.sum
  | _ => none
def mAll : List D → Option D
  | [.lst xs] => (blsOf xs).map fun bs => .bl (bs.all id)
  | _ => none
def mAny : List D → Option D
  | [.lst xs] => (blsOf xs).map fun bs => .bl (bs.any id)
  | _ => none
def mTuple : List D → Option D
  | [.lst xs] => some (.tup xs)
  | [.tup xs] => some (.tup xs)
  | _ => none
def mList : List D → Option D
  | [.lst xs] => some (.lst xs)
  | [.tup xs] => some (.lst xs)
  | _ => none
def sortI (ns : List Int) : List Int := ns.mergeSort fun a b => decide (a ≤ b)
theorem sortI_perm (ns : List Int) : (sortI ns).Perm ns := List.mergeSort_perm _ _
theorem sortI_pw (ns : List Int) : (sortI ns).Pairwise (· ≤ ·) := by
  have h := List.pairwise_mergeSort (le := fun a b : Int => decide (a ≤ b)) (fun a b c h1 h2 => by
    rw [decide_eq_true_eq] at h1 h2 ⊢; omega) (fun a b => by rw [Bool.or_eq_true, decide_eq_true_eq, decide_eq_true_eq]; omega) ns
  exact h.imp fun h => of_decide_eq_true h
theorem sortI_eq {ns ms : List Int} (p : ms.Perm ns) (s : ms.Pairwise (· ≤ ·)) : ms = sortI ns :=
  List.Perm.eq_of_pairwise (fun a b _ _ h1 h2 => Int.le_antisymm h1 h2) s (sortI_pw ns) (p.trans (sortI_perm ns).symm)
def mSorted : List D → Option D
  | [.lst xs] => (intsOf xs).bind fun ns => if decide (ns.length < 64) then some (.lst ((sortI ns).map D.int)) else none
  | [.tup xs] => (intsOf xs).bind fun ns => if decide (ns.length < 64) then some (.lst ((sortI ns).map D.int)) else none
  | _ => none
def mMax2 : List D → Option D
  | [.v (.int i), .v (.int j)] => some (.int (if j > i then j else i))
  | _ => none
def mMin2 : List D → Option D
  | [.v (.int i), .v (.int j)] => some (.int (if j < i then j else i))
  | _ => none
/-! ## isinstance with built-in classes -/
def kd : D → Option String
  | .v .non => some "NoneType"
  | .v (.bl _) => some "bool"
  | .v (.int _) => some "int"
  | .v (.str _) => some "str"
  | .v _ => none
  | .tup _ => some "tuple"
  | .lst _ => some "list"
def isiD (d : D) (T : String) : Option Bool :=
  if T = "int" then (match d with | .v (.int _) => some true | .v (.bl _) => some true | .v .non => some false | .v (.str _) => some false | .v _ => none | _ => some false)
  else if T = "bool" then (match d with | .v (.bl _) => some true | .v (.int _) => some false | .v .non => some false | .v (.str _) => some false | .v _ => none | _ => some false)
  else if T = "str" then (match d with | .v (.str _) => some true | .v (.int _) => some false | .v .non => some false | .v (.bl _) => some false | .v _ => none | _ => some false)
  else if T = "tuple" then (match d with | .tup _ => some true | .v (.int _) => some false | .v .non => some false | .v (.bl _) => some false | .v (.str _) => some false | .v _ => none | _ => some false)
  else if T = "list" then (match d with | .lst _ => some true | .v (.int _) => some false | .v .non => some false | .v (.bl _) => some false | .v (.str _) => some false | .v _ => none | _ => some false)
  else none
theorem isi_kit {d : D} {T : String} {b : Bool} (h : isiD d T = some b) : ∃ a, kd d = some a ∧ kitB a T = some b := by
  unfold isiD at h
  split at h
  · rename_i e; subst e
    split at h <;> first | (cases h; done) | (cases h; exact ⟨_, rfl, by decide +kernel⟩) | skip
    rename_i h1 h2 h3 h4 h5
    cases d with
    | v x => exact absurd rfl (h5 x)
    | tup xs => cases h; exact ⟨_, rfl, by decide +kernel⟩
    | lst xs => cases h; exact ⟨_, rfl, by decide +kernel⟩
  · split at h
    · rename_i e; subst e
      split at h <;> first | (cases h; done) | (cases h; exact ⟨_, rfl, by decide +kernel⟩) | skip
      rename_i h1 h2 h3 h4 h5
      cases d with
      | v x => exact absurd rfl (h5 x)
      | tup xs => cases h; exact ⟨_, rfl, by decide +kernel⟩
      | lst xs => cases h; exact ⟨_, rfl, by decide +kernel⟩
    · split at h
      · rename_i e; subst e
        split at h <;> first | (cases h; done) | (cases h; exact ⟨_, rfl, by decide +kernel⟩) | skip
        rename_i h1 h2 h3 h4 h5
        cases d with
        | v x => exact absurd rfl (h5 x)
        | tup xs => cases h; exact ⟨_, rfl, by decide +kernel⟩
        | lst xs => cases h; exact ⟨_, rfl, by decide +kernel⟩
      · split at h
        · rename_i e; subst e
          split at h <;> first | (cases h; done) | (cases h; exact ⟨_, rfl, by decide +kernel⟩) | skip
          rename_i h1 h2 h3 h4 h5 h6
          cases d with
          | v x => exact absurd rfl (h6 x)
          | tup xs => exact absurd rfl (h1 xs)
          | lst xs => cases h; exact ⟨_, rfl, by decide +kernel⟩
        · split at h
          · rename_i e; subst e
            split at h <;> first | (cases h; done) | (cases h; exact ⟨_, rfl, by decide +kernel⟩) | skip
            rename_i h1 h2 h3 h4 h5 h6
            cases d with
            | v x => exact absurd rfl (h6 x)
            | tup xs => cases h; exact ⟨_, rfl, by decide +kernel⟩
            | lst xs => exact absurd rfl (h1 xs)
          · cases h
def mIsi : List D → Option D
  | [d, .v (.ty T)] => (isiD d T).map D.bl
  | _ => none

section
variable {X : Cx} {K : PySem.W.Frag} {B : Ban} {H : Hp}
theorem Rq.tyX {d : D} {u : V} {a : String} (h : Rq K B H d u) (e : kd d = some a) : TyX K H u (.type a) := by
  cases d with
  | v x =>
    have hx : u = x := h
    subst hx
    cases u <;> first | (cases e; done) | skip
    all_goals (cases e; first | exact .base .non | exact .base (.bl _) | exact .base (.int _) | exact .base (.str _))
  | tup ds =>
    obtain ⟨p, xs, rfl, s, _⟩ := h
    cases e
    rcases s with (s | ⟨o, s⟩) | ⟨o, its, n, s, c, _⟩
    · exact .base (.tup s)
    · exact .fTuple s
    · exact .kTuple s c
  | lst ds =>
    obtain ⟨p, xs, rfl, s, _⟩ := h
    cases e
    exact .base (.lst s)
theorem c_isi : CallR X (.builtin "isinstance") (rC X.K mIsi) := by
  intro pins s σ H vs us Q I r h
  obtain ⟨B, ds, z, bl, hd, em, q⟩ := h
  unfold mIsi at em
  split at em
  · rename_i d T
    cases e1 : isiD d T with
    | none => rw [e1] at em; cases em
    | some b =>
      rw [e1] at em; cases em
      obtain ⟨a, k1, k2⟩ := isi_kit e1
      obtain ⟨x, y, rfl, h1, h2⟩ := hd.two
      cases (show y = .ty T from h2)
      exact call_isi pins s σ H _ us Q I r ⟨x, _, _, _, b, rfl, .ty T, h1.tyX k1, kit_ty k2, q _ _ (Sm.refl _) rfl⟩
  · cases em
theorem c_len : CallR X (.builtin "len") (rC X.K mLen) := by
  intro pins s σ H vs us Q I r h
  obtain ⟨B, ds, z, bl, hd, em, q⟩ := h
  unfold mLen at em
  split at em
  · obtain ⟨x, rfl, a, xs, rfl, s1, r1⟩ := hd.one
    cases em
    exact call_len pins s σ H _ us Q I r ⟨_, _, rfl, .inl ⟨xs, SqL.of s1, r1.len⟩, q _ _ (Sm.refl _) rfl⟩
  · obtain ⟨x, rfl, a, xs, rfl, s1, r1⟩ := hd.one
    cases em
    exact call_len pins s σ H _ us Q I r ⟨_, _, rfl, .inr ⟨xs, s1, r1.len⟩, q _ _ (Sm.refl _) rfl⟩
  · split at em
    · rename_i hz
      cases em
      obtain ⟨x, rfl, h1⟩ := hd.one
      cases h1
      exact call_len pins s σ H _ us Q I r ⟨_, _, rfl, ⟨szOk.le hz, rfl⟩, q _ _ (Sm.refl _) rfl⟩
    · cases em
  · cases em
theorem c_abs : CallR X (.builtin "abs") (rC X.K mAbs) := by
  intro pins s σ H vs us Q I r h
  obtain ⟨B, ds, z, bl, hd, em, q⟩ := h
  unfold mAbs at em
  split at em
  · obtain ⟨x, rfl, h1⟩ := hd.one
    cases em; cases h1
    exact call_abs pins s σ H _ us Q I r ⟨_, rfl, q _ _ (Sm.refl _) rfl⟩
  · cases em
theorem c_int : CallR X (.type "int") (rC X.K mInt) := by
  intro pins s σ H vs us Q I r h
  obtain ⟨B, ds, z, bl, hd, em, q⟩ := h
  unfold mInt at em
  split at em
  · obtain ⟨x, rfl, h1⟩ := hd.one
    cases em; cases h1
    exact call_int1 pins s σ H _ us Q I r (.inl ⟨_, rfl, q _ _ (Sm.refl _) rfl⟩)
  · obtain ⟨x, rfl, h1⟩ := hd.one
    cases em; cases h1
    exact call_int1 pins s σ H _ us Q I r (.inr ⟨_, rfl, q _ _ (Sm.refl _) rfl⟩)
  · cases em
theorem c_max2 (hc : X.calm = true) : CallR X (.builtin "max") (rC X.K mMax2) := by
  intro pins s σ H vs us Q I r h
  obtain ⟨B, ds, z, bl, hd, em, q⟩ := h
  unfold mMax2 at em
  split at em
  · obtain ⟨x, y, rfl, h1, h2⟩ := hd.two
    cases em; cases h1; cases h2
    exact call_max2 hc pins s σ H _ us Q I r ⟨_, _, rfl, q _ _ (Sm.refl _) rfl⟩
  · cases em
theorem c_min2 (hc : X.calm = true) : CallR X (.builtin "min") (rC X.K mMin2) := by
  intro pins s σ H vs us Q I r h
  obtain ⟨B, ds, z, bl, hd, em, q⟩ := h
  unfold mMin2 at em
  split at em
  · obtain ⟨x, y, rfl, h1, h2⟩ := hd.two
    cases em; cases h1; cases h2
    exact call_min2 hc pins s σ H _ us Q I r ⟨_, _, rfl, q _ _ (Sm.refl _) rfl⟩
  · cases em
theorem c_sum (hc : X.calm = true) : CallR X (.builtin "sum") (rC X.K mSum) := by
  intro pins s σ H vs us Q I r h
  obtain ⟨B, ds, z, bl, hd, em, q⟩ := h
  unfold mSum at em
  split at em
  · rename_i xs
    cases e1 : intsOf xs with
    | none => rw [e1] at em; cases em
    | some ns =>
      rw [e1] at em; cases em
      obtain ⟨x, rfl, a, ys, rfl, s1, r1⟩ := hd.one
      rw [intsOf_inv e1] at r1
      rw [r1.ints'] at s1
      exact cr_sum hc pins s σ H _ us Q I r ⟨a, ns, rfl, SqL.of s1, q _ _ (Sm.refl _) rfl⟩
  · cases em
theorem RpL.bls' {ns : List Bool} {ys : List V} (h : RpL K B H (ns.map D.bl) ys) : ys = ns.map V.bl := by
  have e : ns.map D.bl = (ns.map V.bl).map D.v := by rw [List.map_map]; rfl
  rw [e] at h; exact RpL.vals' h
theorem c_all (hc : X.calm = true) : CallR X (.builtin "all") (rC X.K mAll) := by
  intro pins s σ H vs us Q I r h
  obtain ⟨B, ds, z, bl, hd, em, q⟩ := h
  unfold mAll at em
  split at em
  · rename_i xs
    cases e1 : blsOf xs with
    | none => rw [e1] at em; cases em
    | some ns =>
      rw [e1] at em; cases em
      obtain ⟨x, rfl, a, ys, rfl, s1, r1⟩ := hd.one
      rw [blsOf_inv e1] at r1
      rw [r1.bls'] at s1
      exact cr_all hc pins s σ H _ us Q I r ⟨a, ns, rfl, SqL.of s1, q _ _ (Sm.refl _) rfl⟩
  · cases em
theorem c_any (hc : X.calm = true) : CallR X (.builtin "any") (rC X.K mAny) := by
  intro pins s σ H vs us Q I r h
  obtain ⟨B, ds, z, bl, hd, em, q⟩ := h
  unfold mAny at em
  split at em
  · rename_i xs
    cases e1 : blsOf xs with
    | none => rw [e1] at em; cases em
    | some ns =>
      rw [e1] at em; cases em
      obtain ⟨x, rfl, a, ys, rfl, s1, r1⟩ := hd.one
      rw [blsOf_inv e1] at r1
      rw [r1.bls'] at s1
      exact cr_any hc pins s σ H _ us Q I r ⟨a, ns, rfl, SqL.of s1, q _ _ (Sm.refl _) rfl⟩
  · cases em
theorem c_tuple : CallR X (.type "tuple") (rC X.K mTuple) := by
  intro pins s σ H vs us Q I r h
  obtain ⟨B, ds, z, bl, hd, em, q⟩ := h
  unfold mTuple at em
  split at em
  · obtain ⟨x, rfl, a, xs, rfl, s1, r1⟩ := hd.one
    cases em
    exact call_tuple_of pins s σ H _ us Q I r ⟨a, xs, rfl, .inl ⟨SqL.of s1, fun l hl => q _ _ (same_new hl) (Rp.tupNew r1 hl)⟩⟩
  · obtain ⟨x, rfl, a, xs, rfl, s1, r1⟩ := hd.one
    cases em
    exact call_tuple_of pins s σ H _ us Q I r ⟨a, xs, rfl, .inr ⟨s1, q _ _ (Sm.refl _) ⟨a, xs, rfl, s1, r1⟩⟩⟩
  · cases em
theorem c_list : CallR X (.type "list") (rC X.K mList) := by
  intro pins s σ H vs us Q I r h
  obtain ⟨B, ds, z, bl, hd, em, q⟩ := h
  unfold mList at em
  split at em
  · obtain ⟨x, rfl, a, xs, rfl, s1, r1⟩ := hd.one
    cases em
    exact call_list_of pins s σ H _ us Q I r ⟨a, xs, rfl, .inl (SqL.of s1), fun l hl => q _ _ (same_new hl) (Rp.lstNew bl r1 hl)⟩
  · obtain ⟨x, rfl, a, xs, rfl, s1, r1⟩ := hd.one
    cases em
    exact call_list_of pins s σ H _ us Q I r ⟨a, xs, rfl, .inr s1, fun l hl => q _ _ (same_new hl) (Rp.lstNew bl r1 hl)⟩
  · cases em
end
/-! ## sorted, of a tuple too -/
section
variable {prog : Program} {w : World} {A : Around} {E : Value → Shared → Prop} {s : Shared}
theorem collect_tup {l : Addr} {vs : List Value} {Q : List Value → Shared → Prop} (hl : s.heap.IsTuple l vs.toArray)
    (h : Q vs { s with heap := (s.heap.push (seqObj "list" #[] 0)).update s.heap.objs.size (Obj.mapSeq (· ++ vs.toArray)) }) (hsz : vs.length ≤ sizeLine) :
    wpAny (model prog w) A (collect (.ref l)) Q E s := by
  obtain ⟨o, ho, hc, n, hd⟩ := id hl
  unfold collect
  refine wpAny_bind (wpAny_runValue (codeAny_builtin entry_proto_collect' ?_))
  show wpAny _ _ (do again (.builtin "list.__iadd__" ⟨[← newList [], .ref l], []⟩)) _ _ s
  refine wpAny_bind (wpAny_newList (wpAny_pure ⟨Code.quiet_builtin _ (by decide +kernel), codeAny_builtin entry_list_iadd' ?_⟩))
  show wpAny _ _ (Builtin.List.listExtendWith (.ref s.heap.objs.size) (.ref l) (.ref s.heap.objs.size)) _ _ { s with heap := s.heap.push (seqObj "list" #[] 0) }
  unfold Builtin.List.listExtendWith
  have ho' : (s.heap.push (seqObj "list" #[] 0)).get? l = some o := Heap.get?_push_of_some _ ho
  refine wpAny_bind (wpAny_typeOf (T := "tuple") ⟨o, ho', hc⟩ ?_)
  have ht : (Value.type "tuple" == Value.type "tuple") = true := by rfl
  rw [if_pos (by rw [ht]; simp)]
  refine wpAny_bind (listItems_at ho' hd ?_)
  refine wpAny_bind (listItems_at (xs := #[]) (n := 0) (Heap.get?_push_size _ rfl) rfl ?_)
  rw [if_neg (by simp)]
  refine wpAny_bind (listUpdate_at (xs := #[]) (n := 0) (Heap.get?_push_size _ rfl) rfl ?_ (Nat.zero_le _) (by show (#[] ++ vs.toArray).size ≤ sizeLine + 1; simp only [Array.size_append, List.size_toArray, List.length_nil]; omega))
  refine wpAny_pure ?_
  show wpAny (model prog w) A (do
      let o ← load s.heap.objs.size
      match o.data with
      | .seq xs _ => pure xs.toList
      | _ => unsupported "internal:collect") Q E { s with heap := (s.heap.push (seqObj "list" #[] 0)).update s.heap.objs.size (Obj.mapSeq (· ++ vs.toArray)) }
  refine wpAny_bind (wpAny_load (get?_update_seq (Heap.get?_push_size _ rfl) _) ?_)
  show wpAny _ _ (pure ((#[] : Array Value) ++ vs.toArray).toList) Q E _
  rw [show ((#[] : Array Value) ++ vs.toArray).toList = vs by simp]
  exact wpAny_pure h
theorem sorted_intsT {l : Addr} {vs : List Value} {ns : List Int} {Q : Value → Shared → Prop} (hl : s.heap.IsTuple l vs.toArray) (hI : IntsAre vs ns) (h64 : vs.length < 64)
    (h : ∀ (out : Array Value) (ns' : List Int), IntsAre out.toList ns' → ns'.Perm ns → ns'.Pairwise (· ≤ ·) → Q (.ref (s.heap.objs.size + 1)) { s with heap := sortedAll s.heap vs out }) :
    wpAny (model prog w) A (call (.builtin "sorted") [.ref l]) Q E s := by
  refine Calls.call_function_entry kind_sorted plain_sorted entry_sorted (args_sorted1 _) ?_
  unfold Builtin.«sorted»
  refine wpAny_bind (m := checkCount "sorted" 1 1 _) (wpAny_pure ?_)
  refine wpAny_bind (collect_tup hl ?_ (small64 h64))
  refine wpAny_bind (wpAny_newList ?_)
  have hsz : ((s.heap.push (seqObj "list" #[] 0)).update s.heap.objs.size (Obj.mapSeq (· ++ vs.toArray))).objs.size = s.heap.objs.size + 1 := by
    rw [Heap.size_update, size_push']
  have hoL : (((s.heap.push (seqObj "list" #[] 0)).update s.heap.objs.size (Obj.mapSeq (· ++ vs.toArray))).push (seqObj "list" vs.toArray 0)).get? (s.heap.objs.size + 1) = some (seqObj "list" vs.toArray 0) := by
    rw [← hsz]; exact Heap.get?_push_size _ rfl
  show wpAny _ _ _ _ _ { s with heap := ((s.heap.push (seqObj "list" #[] 0)).update s.heap.objs.size (Obj.mapSeq (· ++ vs.toArray))).push (seqObj "list" vs.toArray 0) }
  rw [hsz]
  refine wpAny_bind (wpAny_holding (wpAny_call_entry slot_list_sort ⟨_, hoL, rfl⟩ entry_list_sort (list_sort_tree hoL hI h64 fun out ns' a1 a2 a3 => ⟨_, rfl, ?_⟩) (args_list_sort _)))
  exact wpAny_pure ⟨_, rfl, h out ns' a1 a2 a3⟩
end
section
variable {X : Cx}
def rSortedTu (K : PySem.W.Frag) : List V → Hp → VK → Prop := fun vs H Q => ∃ (a : Addr) (ns : List Int), vs = [V.ref a] ∧ SqT K H a (ns.map V.int) ∧ ns.length < 64 ∧
  ∀ (ns' : List Int) (p : Addr), ns'.Perm ns → ns'.Pairwise (· ≤ ·) → H p = none → Q (.ref p) (upd H p (.lst (ns'.map V.int)))
theorem cr_sortedTu : CallR X (.builtin "sorted") (rSortedTu X.K) := by
  intro pins s σ H vs us Q I r h
  obtain ⟨a, ns, rfl, hs, h64, q⟩ := h
  obtain ⟨its, rv, hl, _⟩ := I.tuple hs
  rw [Vals.ref1 r]
  have hi := rv.ints
  refine sorted_intsT (show s.heap.IsTuple a its.toArray from hl) hi (by rw [hi.length]; exact h64) fun out ns' h1 h2 h3 => ?_
  obtain ⟨ep, he'⟩ := PyProof.Rows.sortedAll_at s.heap its out
  have hlen : (ns'.map V.int).length ≤ sizeLine := by rw [List.length_map, h2.length_eq]; exact small64 h64
  exact ⟨.ref _, upd H (s.heap.objs.size + 1) (.lst (ns'.map V.int)), I.laid (t' := s.toks) (fun _ _ => PyProof.Rows.sortedAll_old) (Nat.le_succ _) ⟨hlen, out.toList, ep, vals_of_ints h1, he'⟩, rfl, q ns' _ h2 h3 (I.hok.fresh (Nat.le_succ _))⟩
theorem c_sorted : CallR X (.builtin "sorted") (rC X.K mSorted) := by
  intro pins s σ H vs us Q I r h
  obtain ⟨B, ds, z, bl, hd, em, q⟩ := h
  unfold mSorted at em
  split at em
  · rename_i xs
    cases e1 : intsOf xs with
    | none => rw [e1] at em; cases em
    | some ns =>
      rw [e1, Option.bind_some] at em
      split at em
      · rename_i h64
        cases em
        rw [decide_eq_true_eq] at h64
        obtain ⟨x, rfl, a, ys, rfl, s1, r1⟩ := hd.one
        rw [intsOf_inv e1] at r1
        rw [r1.ints'] at s1
        refine cr_sorted pins s σ H _ us Q I r ⟨a, ns, rfl, SqL.of s1, h64, fun ns' p hp hw hn => ?_⟩
        rw [sortI_eq hp hw]
        refine q _ _ (same_new hn) (Rp.lstNew bl ?_ hn)
        rw [ints_map]
        exact RpL.vals _
      · cases em
  · rename_i xs
    cases e1 : intsOf xs with
    | none => rw [e1] at em; cases em
    | some ns =>
      rw [e1, Option.bind_some] at em
      split at em
      · rename_i h64
        cases em
        rw [decide_eq_true_eq] at h64
        obtain ⟨x, rfl, a, ys, rfl, s1, r1⟩ := hd.one
        rw [intsOf_inv e1] at r1
        rw [r1.ints'] at s1
        refine cr_sortedTu pins s σ H _ us Q I r ⟨a, ns, rfl, s1, h64, fun ns' p hp hw hn => ?_⟩
        rw [sortI_eq hp hw]
        refine q _ _ (same_new hn) (Rp.lstNew bl ?_ hn)
        rw [ints_map]
        exact RpL.vals _
      · cases em
  · cases em
end
/-! ## list(range(..)), tuple(range(..)) -/
def rngD (lo hi : Int) : List D := (List.range (hi - lo).toNat).map fun i => D.int (lo + (i : Nat))
def rgOk (a b : Int) : Bool := decide (a.natAbs < 2 ^ 62 ∧ b.natAbs < 2 ^ 62)
section
variable {X : Cx} {C : Cc} {pos : Pos} {es : List Expr} {fs : AE → Option (List D)}
/-- the ends of a range -/
def tQG (C : Cc) (f : AE → Option (Int × Int)) : L2.St → Hp → (Int → Int → Hp → Prop) → Prop := fun σ H Q => ∃ B A p, Rel C B A σ H ∧ f A = some p ∧ ∀ H', Sm H H' → Q p.1 p.2 H'
def PRg_imp {e : Expr} {t t' : L2.St → Hp → (Int → Int → Hp → Prop) → Prop} (h : PRg X e t) (i : ∀ σ H Q, t' σ H Q → t σ H Q) : PRg X e t' := fun pins s σ H Q I q => h pins s σ H Q I (i _ _ _ q)
def fG1 (f : AE → Option D) : AE → Option (Int × Int) := fun A => (f A).bind fun d => (asI d).map fun i => (0, i)
def fG2 (f g : AE → Option D) : AE → Option (Int × Int) := fun A => (f A).bind fun d => (asI d).bind fun i => (g A).bind fun e => (asI e).map fun j => (i, j)
theorem fG1_inv {f : AE → Option D} {A : AE} {p : Int × Int} (h : fG1 f A = some p) : ∃ i, f A = some (.int i) ∧ p = (0, i) := by
  unfold fG1 at h
  cases e : f A with
  | none => rw [e] at h; cases h
  | some d =>
    rw [e, Option.bind_some] at h
    cases e2 : asI d with
    | none => rw [e2] at h; cases h
    | some i => rw [e2] at h; cases h; rw [asI_inv e2]; exact ⟨i, rfl, rfl⟩
theorem fG2_inv {f g : AE → Option D} {A : AE} {p : Int × Int} (h : fG2 f g A = some p) : ∃ i j, f A = some (.int i) ∧ g A = some (.int j) ∧ p = (i, j) := by
  unfold fG2 at h
  cases e : f A with
  | none => rw [e] at h; cases h
  | some d =>
    rw [e, Option.bind_some] at h
    cases e2 : asI d with
    | none => rw [e2] at h; cases h
    | some i =>
      rw [e2, Option.bind_some] at h
      cases e3 : g A with
      | none => rw [e3] at h; cases h
      | some d2 =>
        rw [e3, Option.bind_some] at h
        cases e4 : asI d2 with
        | none => rw [e4] at h; cases h
        | some j => rw [e4] at h; cases h; rw [asI_inv e2, asI_inv e4]; exact ⟨i, j, rfl, rfl, rfl⟩
theorem qg_1 {a : Expr} {f : AE → Option D} {p : Pos} (hg : Gl X "range") (hm : X.mg "range" = none) (ha : PE X a (tQ C f)) (na : starEach [a] X.env = (false, eval a X.env) :: starEach [] X.env := by rfl) :
    PRg X (.Call (.Name "range" p) [a] [] pos) (tQG C (fG1 f)) := PRg_imp (prg_1 hg hm ha na) fun σ H Q ⟨B, A, p, r, ef, k⟩ => by
  obtain ⟨i, h1, rfl⟩ := fG1_inv ef
  exact ⟨B, A, _, r, h1, fun v H' s q => ⟨i, q, k H' s⟩⟩
theorem qg_2 {a b : Expr} {f g : AE → Option D} {p : Pos} (hg : Gl X "range") (hm : X.mg "range" = none) (ha : PE X a (tQ C f)) (hb : PE X b (tQ C g)) (na : starEach [a, b] X.env = (false, eval a X.env) :: starEach [b] X.env := by rfl)
    (nb : starEach [b] X.env = (false, eval b X.env) :: starEach [] X.env := by rfl) (hp : (backTo pos (starEach [b] X.env)).any (·.1) = false := by rfl) : PRg X (.Call (.Name "range" p) [a, b] [] pos) (tQG C (fG2 f g)) := PRg_imp (prg_2 hg hm ha hb na nb hp) fun σ H Q ⟨B, A, p, r, ef, k⟩ => by
  obtain ⟨i, j, h1, h2, rfl⟩ := fG2_inv ef
  exact ⟨B, A, _, r, h1, fun v H1 s1 q1 => ⟨B, A, _, r.same s1, h2, fun u H' s q => ⟨i, j, q1, q, k H' (s1.trans s)⟩⟩⟩
def rgOk2 (p : Int × Int) : Bool := rgOk p.1 p.2 && decide ((p.2 - p.1).toNat ≤ 16777216)
theorem rgOk2.to {p : Int × Int} (h : rgOk2 p = true) : RgOk p.1 p.2 := by
  unfold rgOk2 rgOk at h
  rw [Bool.and_eq_true, decide_eq_true_eq, decide_eq_true_eq] at h
  have h1 := h.1
  have h2 := h.2
  exact ⟨by omega, by omega, by omega, by omega, by omega⟩
theorem rng_rep {K : PySem.W.Frag} {B : Ban} {H : Hp} (lo hi : Int) : RpL K B H (rngD lo hi) (rgV lo hi) := by
  have e : rngD lo hi = (rgV lo hi).map D.v := by unfold rngD rgV; rw [List.map_map]; rfl
  rw [e]
  exact RpL.vals _
def fLR (f : AE → Option (Int × Int)) : AE → Option D := fun A => (f A).bind fun p => if rgOk2 p then some (.lst (rngD p.1 p.2)) else none
def fTR (f : AE → Option (Int × Int)) : AE → Option D := fun A => (f A).bind fun p => if rgOk2 p then some (.tup (rngD p.1 p.2)) else none
theorem q_listR {e : Expr} {f : AE → Option (Int × Int)} {p : Pos} (hc : X.calm = true) (hg : Gl X "list") (hm : X.mg "list" = none) (he : PRg X e (tQG C f)) (na : starEach [e] X.env = (false, eval e X.env) :: starEach [] X.env := by rfl) :
    PE X (.Call (.Name "list" p) [e] [] pos) (tQ C (fLR f)) := PE_imp (pe_listRg hc hg hm he na) fun σ H Q ⟨B, A, d, r, ef, k⟩ => by
  unfold fLR at ef
  cases e1 : f A with
  | none => rw [e1] at ef; cases ef
  | some p =>
    rw [e1, Option.bind_some] at ef
    split at ef
    · rename_i hz
      cases ef
      exact ⟨B, A, p, r, e1, fun H1 s1 => ⟨rgOk2.to hz, fun q hq => k _ _ (s1.trans (same_new hq)) (Rp.lstNew (r.same s1).bl (rng_rep _ _) hq)⟩⟩
    · cases ef
theorem q_tupR {e : Expr} {f : AE → Option (Int × Int)} {p : Pos} (hc : X.calm = true) (hg : Gl X "tuple") (hm : X.mg "tuple" = none) (he : PRg X e (tQG C f)) (na : starEach [e] X.env = (false, eval e X.env) :: starEach [] X.env := by rfl) :
    PE X (.Call (.Name "tuple" p) [e] [] pos) (tQ C (fTR f)) := PE_imp (pe_tupRg hc hg hm he na) fun σ H Q ⟨B, A, d, r, ef, k⟩ => by
  unfold fTR at ef
  cases e1 : f A with
  | none => rw [e1] at ef; cases ef
  | some p =>
    rw [e1, Option.bind_some] at ef
    split at ef
    · rename_i hz
      cases ef
      exact ⟨B, A, p, r, e1, fun H1 s1 => ⟨rgOk2.to hz, fun q hq => k _ _ (s1.trans (same_new hq)) (Rp.tupNew (rng_rep _ _) hq)⟩⟩
    · cases ef
end
end DV

namespace DV
open PySem PySem.Spec PyProof.Rows L2
variable [TabC]

/-! # the state's changes -/
/-- banned places grow by new ones -/
def Gr (B : Ban) (H : Hp) (B' : Ban) : Prop := (∀ b, B b → B' b) ∧ ∀ b, B' b → B b ∨ ∀ o, H b = some o → ¬ NT o
def Ext (B : Bw) (H : Hp) (B' : Bw) (H' : Hp) : Prop := Kp B.wr H H' ∧ Gr B.on H B'.on ∧ Gr B.wr H B'.wr
section
variable {K : PySem.W.Frag} {H H' H'' : Hp}
theorem Gr.refl (B : Ban) (H : Hp) : Gr B H B := ⟨fun _ h => h, fun _ h => .inl h⟩
theorem Gr.ne {B B' : Ban} (g : Gr B H B') {b : Addr} {o : HO} (e : H b = some o) (nt : NT o) (n : ¬ B b) : ¬ B' b := fun h => by
  rcases g.2 b h with h | h
  · exact n h
  · exact h o e nt
theorem Gr.blw {B B' : Ban} (g : Gr B H B') (bl : BL B H) : BLw B' H := fun a o b e nt => by
  rcases g.2 a b with h | h
  · exact bl.w a o h e nt
  · exact (h o e nt).elim
theorem Gr.trans {B B' B'' W : Ban} (k : Kp W H H') (hw : ∀ a, W a → B a) (x : Gr B H B') (y : Gr B' H' B'') : Gr B H B'' := by
  refine ⟨fun b h => y.1 b (x.1 b h), fun b h => ?_⟩
  rcases y.2 b h with h | h
  · exact x.2 b h
  · refine Classical.byContradiction fun n => ?_
    rw [not_or] at n
    exact n.2 fun o e nt => h o (k.ob b o e (fun w => n.1 (hw b w)) nt) nt
section
variable {B B' B'' : Bw}
theorem Ext.refl (B : Bw) (H : Hp) : Ext B H B H := ⟨Kp.refl _ H, Gr.refl _ H, Gr.refl _ H⟩
theorem Ext.of (k : Kp B.wr H H') : Ext B H B H' := ⟨k, Gr.refl _ H, Gr.refl _ H⟩
theorem Ext.kp (x : Ext B H B' H') (k : Kp B'.wr H' H'') : Kp B.wr H H'' := ⟨fun b o e n nt => k.ob b o (x.1.ob b o e n nt) (x.2.2.ne e nt n) nt, fun t => k.tb (x.1.tb t)⟩
theorem Ext.trans (x : Ext B H B' H') (y : Ext B' H' B'' H'') : Ext B H B'' H'' :=
  ⟨x.kp y.1, Gr.trans x.1 B.sub x.2.1 y.2.1, Gr.trans x.1 (fun _ h => h) x.2.2 y.2.2⟩
theorem Ext.same (x : Ext B H B' H') (s : Sm H' H'') : Ext B H B' H'' := x.trans (Ext.of (Kp.of s))
end
section
variable {B B' : Ban}
mutual
theorem Rp.gr (g : Gr B H B') : ∀ {d : D} {u : V}, Rp K B H d u → Rp K B' H d u
  | .v _, _, h => h
  | .tup _, _, ⟨a, xs, e, s, r⟩ => ⟨a, xs, e, s, RpL.gr g r⟩
  | .lst _, _, ⟨a, xs, e, s, r⟩ => ⟨a, xs, e, ⟨s.1, g.ne s.1 nt_lst s.2⟩, RpL.gr g r⟩
theorem RpL.gr (g : Gr B H B') : ∀ {ds : List D} {xs : List V}, RpL K B H ds xs → RpL K B' H ds xs
  | [], _, h => h
  | _ :: _, _, ⟨x, r, e, h1, h2⟩ => ⟨x, r, e, Rp.gr g h1, RpL.gr g h2⟩
end
end
variable {B B' : Bw} {C : Cc} {A A' : AE} {σ : L2.St}
def ban1 (p : Addr) (B : Ban) : Ban := fun b => b = p ∨ B b
/-- one place more, not to be written | to be written -/
def Bw.more (B : Bw) (p : Addr) : Bw := ⟨ban1 p B.on, B.wr, fun a h => .inr (B.sub a h)⟩
def Bw.plus (B : Bw) (p : Addr) : Bw := ⟨ban1 p B.on, ban1 p B.wr, fun a h => h.elim .inl fun z => .inr (B.sub a z)⟩
theorem Gr.ban1 {B : Ban} {p : Addr} (hp : H p = none) : Gr B H (ban1 p B) := ⟨fun _ h => .inr h, fun b h => h.elim (fun e => .inr (fun o z => by rw [e, hp] at z; cases z)) .inl⟩
theorem Rel.ban {p : Addr} (vs : List V) (r : Rel C B A σ H) (hp : H p = none) : Rel C (B.more p) A σ (upd H p (.lst vs)) where
  len := r.len
  dat := fun i d e => let ⟨v, e1, h⟩ := r.dat i d e; ⟨v, e1, (h.ban hp).same (same_new hp)⟩
  own := fun i t xs e => let ⟨a, vs, e1, e2, b, h, m⟩ := r.own i t xs e; ⟨a, vs, e1, by rw [upd_ne (ne_of_none e2 hp)]; exact e2, b, (h.ban hp).same (same_new hp), m⟩
  inj := r.inj
  bl := fun a h => h.elim (fun e => ⟨vs, by rw [e, upd_same]⟩) fun h => let ⟨ws, e⟩ := r.bl a h; ⟨ws, by rw [upd_ne (ne_of_none e hp)]; exact e⟩
  b0 := fun a h => .inr (r.b0 a h)
  m0 := fun a h => .inr (r.m0 a h)
  kp := r.kp.trans (Kp.of (same_new hp))
  tabs := (same_new hp).tb r.tabs
theorem Ext.plus {p : Addr} (hp : H p = none) (o : HO) : Ext B H (B.plus p) (upd H p o) := ⟨Kp.of (same_new hp), Gr.ban1 hp, Gr.ban1 hp⟩
/-- an own slot's list becomes another -/
theorem Rel.setOwn {i : Nat} {t : Bool} {a : Addr} {xs xs' : List D} {us' : List V} (r : Rel C B A σ H) (hA : A[i]? = some (some (.own t xs))) (hσ : σ[i]? = some (some (.ref a))) (k : Kp (fun b => b = a) H H')
    (e : H' a = some (.lst us')) (q : RpL C.K B.on H' xs' us') : Rel C B (A.set i (some (.own t xs'))) σ H' ∧ Kp B.wr H H' := by
  obtain ⟨a', vs, e1, e2, b, h, m⟩ := r.own i _ xs hA
  rw [hσ] at e1; cases e1
  have kp : Kp B.wr H H' := k.mono fun b' z => by rw [z]; exact b
  have hi : i < A.length := (List.getElem?_eq_some_iff.mp hA).1
  refine ⟨⟨by rw [List.length_set]; exact r.len, fun j d ej => ?_, fun j t' ys ej => ?_, fun j l t' t'' ys zs p ej el hj hl => ?_, fun b' hb => ?_, r.b0, r.m0, ⟨fun b' o e' n nt => ?_, fun t => k.tb (r.kp.tb t)⟩, k.tb r.tabs⟩, kp⟩
  · by_cases hj : i = j
    · subst hj; rw [List.getElem?_set_self hi] at ej; cases ej
    · rw [List.getElem?_set_ne hj] at ej
      obtain ⟨v, e1, h1⟩ := r.dat j d ej
      exact ⟨v, e1, h1.kp r.bl (Bw.up kp)⟩
  · by_cases hj : i = j
    · subst hj; rw [List.getElem?_set_self hi] at ej; cases ej
      exact ⟨a, us', hσ, e, b, q, m⟩
    · rw [List.getElem?_set_ne hj] at ej
      obtain ⟨a2, vs2, f1, f2, f3, f4, f5⟩ := r.own j _ ys ej
      have ne : a2 ≠ a := fun z => by subst z; exact hj (r.inj i j _ _ xs ys a2 hA ej hσ f1)
      exact ⟨a2, vs2, f1, k.lst f2 ne, f3, f4.kp r.bl (Bw.up kp), f5⟩
  · have up : ∀ (j : Nat) t' ys, (A.set i (some (.own t xs')))[j]? = some (some (.own t' ys)) → ∃ t'' zs, A[j]? = some (some (.own t'' zs)) := fun j t' ys ej => by
      by_cases hj : i = j
      · subst hj; exact ⟨t, xs, hA⟩
      · rw [List.getElem?_set_ne hj] at ej; exact ⟨t', ys, ej⟩
    obtain ⟨t1, ys', ej'⟩ := up j _ ys ej
    obtain ⟨t2, zs', el'⟩ := up l _ zs el
    exact r.inj j l _ _ ys' zs' p ej' el' hj hl
  · by_cases hba : b' = a
    · subst hba; exact ⟨us', e⟩
    · obtain ⟨ws, f⟩ := r.bl b' hb
      exact ⟨ws, k.lst f hba⟩
  · refine k.ob b' o (r.kp.ob b' o e' n nt) (fun z => ?_) nt
    subst z
    split at m
    · exact n m
    · exact m.1 o e' nt
/-- a slot gets data -/
theorem Rel.setDat {i : Nat} {d : D} {v : V} (r : Rel C B A σ H) (q : Rp C.K B.on H d v) : Rel C B (A.set i (some (.dat d))) (σ.set i (some v)) H := by
  refine ⟨by rw [List.length_set, List.length_set]; exact r.len, fun j d' ej => ?_, fun j t ys ej => ?_, fun j l t t' ys zs p ej el hj hl => ?_, r.bl, r.b0, r.m0, r.kp, r.tabs⟩
  · by_cases hj : i = j
    · subst hj
      have hi : i < A.length := by have := (List.getElem?_eq_some_iff.mp ej).1; rwa [List.length_set] at this
      rw [List.getElem?_set_self hi] at ej; cases ej
      exact ⟨v, by rw [List.getElem?_set_self (by rw [← r.len]; exact hi)], q⟩
    · rw [List.getElem?_set_ne hj] at ej ⊢
      exact r.dat j d' ej
  · by_cases hj : i = j
    · subst hj
      have hi : i < A.length := by have := (List.getElem?_eq_some_iff.mp ej).1; rwa [List.length_set] at this
      rw [List.getElem?_set_self hi] at ej; cases ej
    · rw [List.getElem?_set_ne hj] at ej ⊢
      exact r.own j _ ys ej
  · have ne : ∀ (j : Nat) t ys, (A.set i (some (.dat d)))[j]? = some (some (.own t ys)) → i ≠ j ∧ A[j]? = some (some (.own t ys)) := fun j t ys ej => by
      by_cases hj : i = j
      · subst hj
        have hi : i < A.length := by have := (List.getElem?_eq_some_iff.mp ej).1; rwa [List.length_set] at this
        rw [List.getElem?_set_self hi] at ej; cases ej
      · rw [List.getElem?_set_ne hj] at ej; exact ⟨hj, ej⟩
    obtain ⟨n1, ej'⟩ := ne j _ ys ej
    obtain ⟨n2, el'⟩ := ne l _ zs el
    rw [List.getElem?_set_ne n1] at hj
    rw [List.getElem?_set_ne n2] at hl
    exact r.inj j l _ _ ys zs p ej' el' hj hl
/-- a slot gets a new list of its own -/
theorem Rel.setNew {i : Nat} {ds : List D} {vs : List V} {p : Addr} (r : Rel C B A σ H) (hp : H p = none) (q : RpL C.K B.on H ds vs) : Rel C (B.plus p) (A.set i (some (.own false ds))) (σ.set i (some (.ref p))) (upd H p (.lst vs)) := by
  have r1 := r.ban vs hp
  have h0 : Fr0 C.H0 p ∧ ¬ C.B0 p := by
    have nb : ∀ Z : Ban, (∀ a, Z a → B.on a) → ¬ Z p := fun Z hz z => by
      obtain ⟨ws, e⟩ := r.bl p (hz p z)
      rw [hp] at e; cases e
    refine ⟨fun o e nt => ?_, nb _ r.b0⟩
    have := r.kp.ob p o e (nb _ r.m0) nt
    rw [hp] at this; cases this
  refine ⟨by rw [List.length_set, List.length_set]; exact r.len, fun j d' ej => ?_, fun j t ys ej => ?_, fun j l t t' ys zs p' ej el hj hl => ?_, r1.bl, r1.b0, r1.m0, r1.kp, r1.tabs⟩
  · by_cases hj : i = j
    · subst hj
      have hi : i < A.length := by have := (List.getElem?_eq_some_iff.mp ej).1; rwa [List.length_set] at this
      rw [List.getElem?_set_self hi] at ej; cases ej
    · rw [List.getElem?_set_ne hj] at ej ⊢
      exact r1.dat j d' ej
  · by_cases hj : i = j
    · subst hj
      have hi : i < A.length := by have := (List.getElem?_eq_some_iff.mp ej).1; rwa [List.length_set] at this
      rw [List.getElem?_set_self hi] at ej; cases ej
      exact ⟨p, vs, by rw [List.getElem?_set_self (by rw [← r.len]; exact hi)], upd_same, .inl rfl, (q.ban hp).same (same_new hp), h0⟩
    · rw [List.getElem?_set_ne hj] at ej ⊢
      obtain ⟨a2, vs2, f1, f2, f3, f4, f5⟩ := r1.own j _ ys ej
      exact ⟨a2, vs2, f1, f2, .inr f3, f4, f5⟩
  · have old : ∀ (j : Nat) t ys, A[j]? = some (some (.own t ys)) → σ[j]? ≠ some (some (.ref p)) := fun j t ys ej z => by
      obtain ⟨a, ws, f1, f2, _⟩ := r.own j _ ys ej
      rw [z] at f1; cases f1
      rw [hp] at f2; cases f2
    by_cases hj' : i = j
    · by_cases hl' : i = l
      · exact hj'.symm.trans hl'
      · rw [List.getElem?_set_ne hl'] at el hl
        subst hj'
        have hi : i < A.length := by have := (List.getElem?_eq_some_iff.mp ej).1; rwa [List.length_set] at this
        rw [List.getElem?_set_self (by rw [← r.len]; exact hi)] at hj
        cases hj
        exact absurd hl (old l _ zs el)
    · rw [List.getElem?_set_ne hj'] at ej hj
      by_cases hl' : i = l
      · subst hl'
        have hi : i < A.length := by have := (List.getElem?_eq_some_iff.mp el).1; rwa [List.length_set] at this
        rw [List.getElem?_set_self (by rw [← r.len]; exact hi)] at hl
        cases hl
        exact absurd hj (old j _ ys ej)
      · rw [List.getElem?_set_ne hl'] at el hl
        exact r.inj j l _ _ ys zs p' ej el hj hl
/-- slots forgotten -/
def wipeA (A : AE) : List Nat → AE
  | [] => A
  | v :: vs => (wipeA A vs).set v none
theorem wipeA_some {i : Nat} {x : AV} : ∀ {vs : List Nat}, (wipeA A vs)[i]? = some (some x) → A[i]? = some (some x) ∧ i ∉ vs
  | [], h => ⟨h, by simp⟩
  | v :: vs, h => by
    unfold wipeA at h
    by_cases hi : v = i
    · subst hi
      by_cases hv : v < (wipeA A vs).length
      · rw [List.getElem?_set_self hv] at h; cases h
      · rw [List.getElem?_eq_none (by simpa using hv)] at h; cases h
    · rw [List.getElem?_set_ne hi] at h
      obtain ⟨h1, h2⟩ := wipeA_some h
      exact ⟨h1, by simp only [List.mem_cons, not_or]; exact ⟨fun e => hi e.symm, h2⟩⟩
theorem wipeA_len : ∀ vs : List Nat, (wipeA A vs).length = A.length
  | [] => rfl
  | v :: vs => by unfold wipeA; rw [List.length_set, wipeA_len vs]
theorem wipe_out' {i : Nat} : ∀ {vs : List Nat}, i ∉ vs → (wipe σ vs)[i]? = σ[i]?
  | [], _ => rfl
  | v :: vs, h => by
    simp only [List.mem_cons, not_or] at h
    unfold wipe
    rw [List.getElem?_set_ne (Ne.symm h.1)]
    exact wipe_out' h.2
theorem Rel.wipe {vs : List Nat} (r : Rel C B A σ H) : Rel C B (wipeA A vs) (wipe σ vs) H := by
  refine ⟨by rw [wipeA_len, wipe_length]; exact r.len, fun j d e => ?_, fun j t xs e => ?_, fun i j t t' xs ys a e1 e2 h1 h2 => ?_, r.bl, r.b0, r.m0, r.kp, r.tabs⟩
  · obtain ⟨e1, n⟩ := wipeA_some e
    rw [wipe_out' n]
    exact r.dat j d e1
  · obtain ⟨e1, n⟩ := wipeA_some e
    rw [wipe_out' n]
    exact r.own j _ xs e1
  · obtain ⟨e1, n1⟩ := wipeA_some e1
    obtain ⟨e2, n2⟩ := wipeA_some e2
    rw [wipe_out' n1] at h1
    rw [wipe_out' n2] at h2
    exact r.inj i j _ _ xs ys a e1 e2 h1 h2
/-- two rows of slots that agree outside ks are one when ks are forgotten -/
theorem wipe_eq {σ σ' : L2.St} {ks : List Nat} (hl : σ'.length = σ.length) (h : ∀ i, i ∉ ks → σ'[i]? = σ[i]?) : wipe σ' ks = wipe σ ks := by
  refine List.ext_getElem? fun i => ?_
  by_cases hi : i ∈ ks
  · have go : ∀ (τ : L2.St), i < τ.length → (wipe τ ks)[i]? = some none := fun τ hτ => by
      cases e : (wipe τ ks)[i]? with
      | none => rw [List.getElem?_eq_none_iff, wipe_length] at e; omega
      | some o =>
        cases o with
        | none => rfl
        | some v => exact absurd hi (wipe_some e).2
    by_cases hi2 : i < σ.length
    · rw [go σ hi2, go σ' (by rw [hl]; exact hi2)]
    · rw [List.getElem?_eq_none (by rw [wipe_length, hl]; omega), List.getElem?_eq_none (by rw [wipe_length]; omega)]
  · rw [wipe_out' hi, wipe_out' hi, h i hi]
end

/-! # targets -/
def tG (C : Cc) (ks : List Nat) (pat : D → AE → Option AE) : TG := fun v σ H Q => ∃ B A d A', Rel C B A σ H ∧ Rp C.K B.on H d v ∧ pat d A = some A' ∧
  ∀ σ', Rel C B A' σ' H → (∀ i, i ∉ ks → σ'[i]? = σ[i]?) → σ'.length = σ.length → Q σ' H
def tGs (C : Cc) (ks : List Nat) (pat : List D → AE → Option AE) : TGs := fun vs σ H Q => ∃ B A ds A', Rel C B A σ H ∧ RpL C.K B.on H ds vs ∧ pat ds A = some A' ∧
  ∀ σ', Rel C B A' σ' H → (∀ i, i ∉ ks → σ'[i]? = σ[i]?) → σ'.length = σ.length → Q σ' H
def pName (i : Nat) : D → AE → Option AE := fun d A => some (A.set i (some (.dat d)))
def pNil : List D → AE → Option AE
  | [], A => some A
  | _, _ => none
def pCons (p : D → AE → Option AE) (q : List D → AE → Option AE) : List D → AE → Option AE
  | d :: ds, A => (p d A).bind (q ds)
  | _, _ => none
def pTup (n : Nat) (q : List D → AE → Option AE) : D → AE → Option AE
  | .tup ds, A => if ds.length = n then q ds A else none
  | _, _ => none
section
variable {X : Cx} {C : Cc} {pos : Pos} {ks ks' : List Nat} {pat : D → AE → Option AE} {pats : List D → AE → Option AE}
theorem PG_imp {e : Expr} {t t' : TG} (h : PG X e t) (i : ∀ v σ H Q, t' v σ H Q → t v σ H Q) : PG X e t' := ⟨fun pins s σ H v u Q I r q => h.run pins s σ H v u Q I r (i _ _ _ _ q)⟩
theorem PGs_imp {es : List Expr} {t t' : TGs} (h : PGs X es t) (i : ∀ v σ H Q, t' v σ H Q → t v σ H Q) : PGs X es t' := ⟨fun pins s σ H v u Q I r q => h.run pins s σ H v u Q I r (i _ _ _ _ q)⟩
theorem g_name {i : Nat} {x : Str} (hN : X.N.Nodup) (hi : X.N[i]? = some x) (hx : Loc X.env.scope x) (hf : X.fn x = true ∨ X.env.scope.names.lookup x = some .local := by first | exact .inl rfl | exact .inr rfl | assumption) : PG X (.Name x pos) (tG C [i] (pName i)) :=
  PG_imp (pg_name hN hi hx hf) fun v σ H Q ⟨B, A, d, A', r, rp, e, k⟩ => by
    cases e
    refine k _ (r.setDat rp) (fun j hj => ?_) (by rw [List.length_set])
    rw [List.getElem?_set_ne (fun z => hj (by simp [z]))]
theorem gs_nil : PGs X [] (tGs C [] pNil) := PGs_imp pgs_nil fun vs σ H Q ⟨B, A, ds, A', r, rp, e, k⟩ => by
  cases ds with
  | nil => cases rp; cases e; exact ⟨rfl, k σ r (fun _ _ => rfl) rfl⟩
  | cons d ds => cases e
theorem gs_cons {e : Expr} {es : List Expr} (h1 : PG X e (tG C ks pat)) (h2 : PGs X es (tGs C ks' pats)) (hs : (assignEach (e :: es) X.env).map (·.2) = assign e X.env :: (assignEach es X.env).map (·.2) := by rfl) :
    PGs X (e :: es) (tGs C (ks ++ ks') (pCons pat pats)) := PGs_imp (pgs_cons h1 h2 hs) fun vs σ H Q ⟨B, A, ds, A', r, rp, e, k⟩ => by
  cases ds with
  | nil => cases e
  | cons d ds =>
    obtain ⟨x, xr, rfl, q1, q2⟩ := rp
    have e : (pat d A).bind (pats ds) = some A' := e
    cases e1 : pat d A with
    | none => rw [e1] at e; cases e
    | some A1 =>
      rw [e1, Option.bind_some] at e
      exact ⟨x, xr, rfl, B, A, d, A1, r, q1, e1, fun σ1 r1 n1 l1 => ⟨B, A1, ds, A', r1, q2, e, fun σ2 r2 n2 l2 => k σ2 r2 (fun i hi => by
        rw [List.mem_append, not_or] at hi
        rw [n2 i hi.2, n1 i hi.1]) (l2.trans l1)⟩⟩
theorem g_tup {es : List Expr} {k n : Nat} (hc : X.calm = true) (h : PGs X es (tGs C ks pats)) (hK : X.K = C.K := by rfl)
    (hn : (assignEach es X.env).length = n := by rfl) (hst : (assignEach es X.env).findIdx? (·.1) = none := by rfl) : PG X (.Tuple es k pos) (tG C ks (pTup n pats)) :=
  PG_imp (pg_tup hc h hn hst) fun v σ H Q ⟨B, A, d, A', r, rp, e, kk⟩ => by
    unfold pTup at e
    split at e
    · split at e
      · rename_i hl
        obtain ⟨a, xs, rfl, s1, r1⟩ := rp
        rw [hK]
        exact ⟨a, xs, rfl, s1, by rw [← r1.len]; exact hl, B, A, _, A', r, r1, e, kk⟩
      · cases e
    · cases e
def pLst (n : Nat) (q : List D → AE → Option AE) : D → AE → Option AE
  | .lst ds, A => if ds.length = n then q ds A else none
  | _, _ => none
theorem g_lst {es : List Expr} {k n : Nat} (hc : X.calm = true) (h : PGs X es (tGs C ks pats)) (hK : X.K = C.K := by rfl)
    (hn : (assignEach es X.env).length = n := by rfl) (hst : (assignEach es X.env).findIdx? (·.1) = none := by rfl) : PG X (.Tuple es k pos) (tG C ks (pLst n pats)) :=
  PG_imp (pg_lst hc h hn hst) fun v σ H Q ⟨B, A, d, A', r, rp, e, kk⟩ => by
    unfold pLst at e
    split at e
    · split at e
      · rename_i hl
        obtain ⟨a, xs, rfl, s1, r1⟩ := rp
        rw [hK]
        exact ⟨a, xs, rfl, SqL.of s1.1, by rw [← r1.len]; exact hl, B, A, _, A', r, r1, e, kk⟩
      · cases e
    · cases e
end

/-! # what is walked -/
def Rho (q : Bool) (B : Ban) : Hp → Hp → Prop := fun H H' => if q = true then Sm H H' else Kp B H H'
def ItD (K : PySem.W.Frag) (q : Bool) (B : Ban) (J : It) (H1 : Hp) (xs : List D) : Prop :=
  Walk J xs.length (fun H => ∃ B', Gr B H1 B' ∧ Rho q B' H1 H ∧ BL B' H) (fun i H x H' => ∀ B', Gr B H1 B' → Rho q B' H1 H → BL B' H → Sm H H' ∧ ∃ d, xs[i]? = some d ∧ Rp K B' H' d x)
theorem Rho.kp {q : Bool} {B : Ban} {H H' : Hp} (h : Rho q B H H') : Kp B H H' := by
  unfold Rho at h
  split at h
  · exact Kp.of h
  · exact h
theorem Rho.of {q : Bool} {B : Ban} {H H' : Hp} (h : Sm H H') : Rho q B H H' := by
  unfold Rho
  split
  · exact h
  · exact Kp.of h
/-- quiet sources; q: its walk bears quiet turns alone -/
def tI (C : Cc) (q : Bool) (src : AE → Option (List D)) : TI := fun σ H R => ∃ B A xs, Rel C B A σ H ∧ src A = some xs ∧ ∀ J H1, Sm H H1 → ItD C.K q B.on J H1 xs → R J H1
def tIF (C : Cc) (src : AE → Option (List D × AE)) : TI := fun σ H R => ∃ B A xs A', Rel C B A σ H ∧ src A = some (xs, A') ∧ ∀ J H1, Rel C B A' σ H1 → Kp B.wr H H1 → ItD C.K false B.on J H1 xs → R J H1
section
variable {X : Cx} {C : Cc} {pos : Pos} {K : PySem.W.Frag} {B : Ban} {H H1 : Hp} {q : Bool}
theorem ItD.list {a : Addr} {xs : List D} {vs : List V} (e : H1 a = some (.lst vs)) (nb : q = false → ¬ B a) (r : RpL K B H1 xs vs) (bl : BL B H1) : ItD K q B (Itl K a) H1 xs := by
  unfold ItD
  rw [r.len]
  have at_ : ∀ H B', Gr B H1 B' → Rho q B' H1 H → H a = some (.lst vs) := fun H B' g k => by
    cases q with
    | true => exact (show Sm H1 H from k).lst e
    | false => exact (show Kp B' H1 H from k).lst e (g.ne e nt_lst (nb rfl))
  refine (walk_list (K := K) (a := a) (xs := vs)).mono (fun H ⟨B', g, k, b⟩ => SqL.of (at_ H B' g k)) fun i H x H' hi _ y B' g k b => ?_
  obtain ⟨rfl, hx⟩ := y
  obtain ⟨d, e1, rp⟩ := r.get' hx
  exact ⟨Sm.refl _, d, e1, (rp.gr g).kpw (g.blw bl) k.kp⟩
theorem ItD.tup {a : Addr} {xs : List D} {vs : List V} (e : SqT K H1 a vs) (r : RpL K B H1 xs vs) (bl : BL B H1) : ItD K q B (Itt K a) H1 xs := by
  unfold ItD
  rw [r.len]
  refine (walk_tup (K := K) (a := a) (xs := vs)).mono (fun H ⟨B', g, k, b⟩ => SqT.kp (g.blw bl) k.kp e) fun i H x H' hi _ y B' g k b => ?_
  obtain ⟨rfl, hx⟩ := y
  obtain ⟨d, e1, rp⟩ := r.get' hx
  exact ⟨Sm.refl _, d, e1, (rp.gr g).kpw (g.blw bl) k.kp⟩
theorem ItD.rng {lo hi : Int} : ItD K q B (Itr lo (hi - lo).toNat) H1 (rngD lo hi) := by
  unfold ItD
  have hl : (rngD lo hi).length = (hi - lo).toNat := by unfold rngD; rw [List.length_map, List.length_range]
  rw [hl]
  refine (walk_range (lo := lo) (n := (hi - lo).toNat)).mono (fun _ _ => trivial) fun i H x H' hi' _ y B' g k b => ?_
  obtain ⟨rfl, rfl⟩ := y
  refine ⟨Sm.refl _, .int (lo + i), ?_, rfl⟩
  unfold rngD
  rw [List.getElem?_map, List.getElem?_range hi']; rfl
/-- pairs of i-th things -/
theorem ItD.pairs {J : It} {n : Nat} {G : Hp → Prop} {f g : Nat → Option V} {ds es : List D} (w : Walk J n G (YPair f g)) (h1 : ds.length = n) (h2 : es.length = n)
    (hG : ∀ H B', Gr B H1 B' → Rho q B' H1 H → BL B' H → G H) (hf : ∀ i x, f i = some x → i < n → ∃ d, ds[i]? = some d ∧ Rp K B H1 d x) (hg : ∀ i x, g i = some x → i < n → ∃ d, es[i]? = some d ∧ Rp K B H1 d x) (bl : BL B H1) :
    ItD K q B J H1 ((ds.zip es).map fun p => .tup [p.1, p.2]) := by
  unfold ItD
  have hl : ((ds.zip es).map fun p => D.tup [p.1, p.2]).length = n := by rw [List.length_map, List.length_zip]; omega
  rw [hl]
  refine w.mono (fun H ⟨B', g, k, b⟩ => hG H B' g k b) fun i H v H' hi _ y B' gr k b => ?_
  obtain ⟨T, x, z, rfl, hT, rfl, fx, gz⟩ := y
  obtain ⟨d, e1, r1⟩ := hf i x fx hi
  obtain ⟨e, e2, r2⟩ := hg i z gz hi
  have r1' := (r1.gr gr).kpw (gr.blw bl) k.kp
  have r2' := (r2.gr gr).kpw (gr.blw bl) k.kp
  refine ⟨same_new hT, .tup [d, e], ?_, Rp.tupNew ⟨x, [z], rfl, r1', z, [], rfl, r2', rfl⟩ hT⟩
  rw [List.getElem?_map, (List.getElem?_zip_eq_some (z := (d, e))).mpr ⟨e1, e2⟩]; rfl
end
end DV

namespace DV
open PySem PySem.Spec PyProof.Rows L2
variable [TabC]
open AutoSeq1 (wpAny_loadPart')
/-! # enumerate(tuple) -/
theorem meets_enumerate_newT (l : Addr) (items : Array Value) (n : Nat) (dct : Option Addr) (sl : Array (Option Value)) :
    Meets (Builtin.«enumerate.__new__» ⟨[.type "enumerate", .ref l], []⟩) (fun _ R s => s.heap.get? l = some { cls := .type "tuple", dict := dct, data := .seq items n, slots := sl } ∧
      R (.ok (.ret (.ref (s.heap.push { cls := .type "tuple_iterator", data := .fields #[.ref l, .int 0 0] }).objs.size)))
        { s with heap := (s.heap.push { cls := .type "tuple_iterator", data := .fields #[.ref l, .int 0 0] }).push { cls := .type "enumerate", data := .fields #[.none, .bool false, .ref s.heap.objs.size, rawInt 0, .none, .none] } }) :=
  .of_wp fun prog w A R s h => by
    obtain ⟨hp, g, d, tk, os⟩ := s; obtain ⟨hl, h⟩ := h
    have hsub := sub_enumerate
    have hL : Heap.IsTuple (Shared.heap ⟨hp, g, d, tk, os⟩) l items := ⟨_, hl, rfl, n, rfl⟩
    wp_walk using wpAny_loadPart' hl
    refine wpAny_stack_any fun st => wpAny_pure ?_
    split
    · rename_i c _ _ _ _ _
      cases (c == Value.type "enumerate")
      · wp_walk using wpAny_loadPart' hl, wpAny_pyIter_tuple hL
        exact ⟨_, rfl, h⟩
      · wp_walk using wpAny_loadPart' hl, wpAny_pyIter_tuple hL
        exact ⟨_, rfl, h⟩
    · wp_walk using wpAny_loadPart' hl, wpAny_pyIter_tuple hL
      exact ⟨_, rfl, h⟩
section
variable {prog : Program} {w : World} {A : Around} {E : Value → Shared → Prop} {s : Shared}
theorem call_enumerate_tuple {l : Addr} {items : Array Value} {Q : Value → Shared → Prop} (hL : s.heap.IsTuple l items)
    (h : ∀ h', IsEnum h' (s.heap.objs.size + 1) s.heap.objs.size 0 .none → h'.IsTupleIter s.heap.objs.size l 0 → h'.objs.size = s.heap.objs.size + 2 →
      (∀ b o, s.heap.get? b = some o → h'.get? b = some o) → Q (.ref (s.heap.objs.size + 1)) { s with heap := h' }) :
    wpAny (model prog w) A (call (.type "enumerate") [.ref l]) Q E s := by
  obtain ⟨⟨c, dct, dt, sl⟩, hl, hc, n, hd⟩ := hL
  replace hc : c = .type "tuple" := hc
  replace hd : dt = .seq items n := hd
  subst hc hd
  refine callType_new F.called_enumerate (by decide) (F.typeCall_enumerate_1 _) (F.newCall_enumerate_1 _) (fun obj => F.args_object_init_2 obj _) F.entry_enumerate_new
    (meets_enumerate_newT l items n dct sl) ⟨hl, ?_⟩
  have hz : (s.heap.push { cls := .type "tuple_iterator", data := .fields #[.ref l, .int 0 0] }).objs.size = s.heap.objs.size + 1 := Heap.size_push ..
  show _ ∧ _
  rw [hz]
  have he : IsEnum ((s.heap.push { cls := .type "tuple_iterator", data := .fields #[.ref l, .int 0 0] }).push
      { cls := .type "enumerate", data := .fields #[.none, .bool false, .ref s.heap.objs.size, rawInt 0, .none, .none] }) (s.heap.objs.size + 1) s.heap.objs.size 0 .none := by
    have := Heap.get?_push_size (s.heap.push { cls := .type "tuple_iterator", data := .fields #[.ref l, .int 0 0] })
      (o := { cls := .type "enumerate", data := .fields #[.none, .bool false, .ref s.heap.objs.size, rawInt 0, .none, .none] }) rfl
    rw [hz] at this; exact this
  refine ⟨⟨_, he, rfl⟩, h _ he ⟨_, Heap.get?_push_of_some _ (Heap.get?_push_size _ rfl), rfl, rfl⟩ (by rw [Heap.size_push, hz]) fun b o x => Heap.get?_push_of_some _ (Heap.get?_push_of_some _ x)⟩
end
def IteT (K : PySem.W.Frag) (a : Addr) : It :=
  ⟨fun i H => ∃ (xs : List V) (x : V), SqT K H a xs ∧ xs[i]? = some x, fun i H v H' => ∃ T x, v = .ref T ∧ H T = none ∧ H' = upd H T (.tup [.int (i : Nat), x]) ∧ ∀ xs, SqT K H a xs → xs[i]? = some x, fun i H => ∃ xs : List V, SqT K H a xs ∧ xs.length ≤ i⟩
theorem turn_enumT {P : Program} {w : World} {K : PySem.W.Frag} {elts : List Expr} {kk : Nat} {tpos : Pos} (a e it : Addr) (ha : a ≠ e) (hi : a ≠ it) :
    Turn P w K (.Tuple elts kk tpos) (IteT K a) [e, it] e (fun i h => (∃ old, IsEnum h e it ((i : Nat) : Int) old) ∧ h.IsTupleIter it a i ∧ e ≠ it) where
  mem := by simp
  obj := fun i h st b hb => by
    obtain ⟨⟨old, he⟩, ⟨o, ho, hc, hd⟩, _⟩ := st
    have e' : b = e ∨ b = it := by simpa using hb
    rcases e' with z | z
    · rw [z]; exact ⟨_, he, fun v q => nomatch q⟩
    · rw [z]; exact ⟨o, ho, fun v q => by rw [hd] at q; cases q⟩
  keep := fun i h h' st k => let ⟨⟨old, he⟩, hi, hne⟩ := st; ⟨⟨old, k e (by simp) _ he⟩, hi.at fun o q => k it (by simp) o q, hne⟩
  item := by
    intro X hP hw hK hc i pins s σ H E I hf st hg
    subst hP hw hK
    obtain ⟨⟨old, he⟩, hit, hne⟩ := st
    obtain ⟨xs, x, hq, hx⟩ := hg
    obtain ⟨its, rv, p, hz⟩ := I.tuple hq
    obtain ⟨u, hu, ru⟩ := rv.get hx
    have hel : e < s.heap.objs.size := Heap.lt_size he
    have hil : it < s.heap.objs.size := by obtain ⟨_, q, _⟩ := hit; exact Heap.lt_size q
    have hlen : i < its.toArray.size := by
      rw [List.size_toArray]
      exact (List.getElem?_eq_some_iff.mp hu).1
    refine wpAny_pyNext_enum_itemD (Draws.tuple (prog := X.prog) (w := X.w) (A := X.A.in1) (I.ok.hd hc) it a hi its.toArray) he ⟨hit, p⟩ hlen hne (by simp [hne, Ne.symm ha]) fun u' h' tk hu' ho hit' hT hsz hk => ?_
    have eu : u' = u := Option.some.inj ((show its.toArray[i]? = some u' from hu').symm.trans (by simpa using hu))
    subst eu
    refine ⟨_, rfl, wpAny_letOwnedTupleGo_enum (s := { s with heap := h', toks := tk + 1 }) ho fun h'' he' sb => ?_⟩
    have hT2 : h''.get? s.heap.objs.size = some { cls := .type "tuple", data := .seq #[.int i tk, u'] } := (sb.2 _ (Nat.ne_of_gt hel)).trans hT
    have new : ObjOk X.prog X.w (upd H s.heap.objs.size (.tup [.int (i : Nat), x])) h'' s.heap.objs.size (.tup [.int (i : Nat), x]) :=
      ⟨by show 2 ≤ sizeLine; decide, [.int i tk, u'], .cons ⟨_, rfl⟩ (.cons ru .nil), ⟨_, hT2, rfl, _, rfl⟩⟩
    have I1 : Inv X pins σ (upd H s.heap.objs.size (.tup [.int (i : Nat), x])) { s with heap := h'', toks := tk + 1 } :=
      I.turnedNew (ch := [e, it]) (fun b ob hb q => (sb.2 b (fun z => hb (by simp [z]))).trans (hk b ob (fun z => hb (by simp [z])) (fun z => hb (by simp [z])) q)) hf (Nat.le_refl _) new
    refine ⟨.ref s.heap.objs.size, _, I1, rfl, ⟨_, x, rfl, I.hok.fresh (Nat.le_refl _), rfl, fun ys hy => by rw [I.tuple_inj hy hq]; exact hx⟩, ⟨⟨u', ?_⟩, hit'.1.at fun o q => (sb.2 it (Ne.symm hne)).trans q, hne⟩, fun b hb => ?_⟩
    · have e1 : ((i + 1 : Nat) : Int) = (i : Int) + 1 := by omega
      rw [e1]; exact he'
    · have hb' : b < s.heap.objs.size := by
        have e' : b = e ∨ b = it := by simpa using hb
        rcases e' with z | z
        · rw [z]; exact hel
        · rw [z]; exact hil
      rw [upd_ne (Nat.ne_of_lt hb')]
      exact (hf b hb).1
  done := by
    intro X hP hw hK hc i pins s σ H E I hf st hg
    subst hP hw hK
    obtain ⟨⟨old, he⟩, hit, hne⟩ := st
    obtain ⟨xs, hq, hx⟩ := hg
    obtain ⟨its, rv, p, hz⟩ := I.tuple hq
    obtain ⟨f0, f1, f2, f3, f4, f5⟩ := hf it (by simp)
    have hl := rv.length
    unfold pyNext
    have hT : s.TypeIs (.ref e) "enumerate" := ⟨_, he, rfl⟩
    refine wpAny_bind (wpAny_attempt (wpAny_callSpecial?_slot (name := Str.ofString "__next__") hT F.slot_enumerate_next
      (wpAny_call_entry F.slot_enumerate_next hT F.entry_enumerate_next ?_ (F.args_enumerate_next_1 _))))
    show wpAny _ _ (field (.ref e) 2 >>= _) _ _ _
    refine wpAny_bind (wpAny_field he rfl (x := .ref it) rfl ?_)
    refine wpAny_bind (wpAny_nextOf_tuple_end (A := X.A.in1) (I.ok.hd hc) hit p (by simp; omega) fun h' x he' hx' => ?_)
    obtain ⟨o, ho, hc'⟩ := hx'
    refine wpAny_bind (wpAny_isInstance (T := "StopIteration") (b := true) ⟨o, ho, hc'⟩ isSubtype_stop ?_)
    exact wpAny_pure ⟨rfl, I.turned (t' := s.toks) (fun b o hb q => he' b o hb q) f0 f1 f3 f4 f5⟩
  self := fun A i s Q E st h => let ⟨⟨_, he⟩, _⟩ := st; wpAny_pyIter_enum he h
def iEnumA (K : PySem.W.Frag) (ta : TA) : TI := fun σ H R => ta σ H fun vs H1 => ∃ a xs, vs = [.ref a] ∧ ((SqL K H1 a xs ∧ R (Ite K a) H1) ∨ (SqT K H1 a xs ∧ R (IteT K a) H1))
theorem pi_enumA {X : Cx} {e : Expr} {ta : TA} {p pos tpos : Pos} {elts : List Expr} {kk : Nat} (hg : Gl X "enumerate") (hm : X.mg "enumerate" = none) (ha : PA X [e] ta) (hs : starEach [e] X.env = [(false, eval e X.env)] := by rfl) :
    PI X (.Tuple elts kk tpos) (.Call (.Name "enumerate" p) [e] [] pos) (iEnumA X.K ta) := by
  refine ⟨fun pins s σ H R I h => ?_⟩
  refine Call_ (ld_blt I hg hm boot_enumerate (PyProof.Rows.callWith_type1 (thn (ha.run pos pins s σ H _ I h) fun us s1 ⟨vs, H1, I1, r1, q1⟩ => ?_) hs rfl))
  obtain ⟨a, xs, ex, q⟩ := q1
  subst ex
  cases r1 with
  | cons r rr =>
    cases rr
    cases r
    rcases q with ⟨hq, q⟩ | ⟨hq, q⟩
    · obtain ⟨its, rv, p', hz⟩ := I1.list hq
      refine call_enumerate_list p'.isList fun h' he hit hsz hk => wpAny_pyIter_enum he ?_
      have I2 : Inv X pins σ H1 { s1 with heap := h' } := I1.kept (t' := s1.toks) hk
      refine ⟨s1.heap.objs.size + 1, [s1.heap.objs.size + 1, s1.heap.objs.size], _, _, H1, rfl, I2, turn_enum a (s1.heap.objs.size + 1) s1.heap.objs.size, ⟨⟨.none, he⟩, hit, Nat.succ_ne_self _⟩, fun b hb => ?_, q⟩
      have e' : b = s1.heap.objs.size + 1 ∨ b = s1.heap.objs.size := by simpa using hb
      have hle : s1.heap.objs.size ≤ b := by
        rcases e' with z | z
        · rw [z]; exact Nat.le_add_right _ _
        · rw [z]; exact Nat.le_refl _
      exact I1.fpOk hle (I1.hok.fresh hle)
    · obtain ⟨its, rv, p', hz⟩ := I1.tuple hq
      obtain ⟨o, ho, _⟩ := id p'
      have hlt : a < s1.heap.objs.size := Heap.lt_size ho
      refine call_enumerate_tuple (show s1.heap.IsTuple a its.toArray from p') fun h' he hit hsz hk => wpAny_pyIter_enum he ?_
      have I2 : Inv X pins σ H1 { s1 with heap := h' } := I1.kept (t' := s1.toks) hk
      refine ⟨s1.heap.objs.size + 1, [s1.heap.objs.size + 1, s1.heap.objs.size], _, _, H1, rfl, I2, turn_enumT a (s1.heap.objs.size + 1) s1.heap.objs.size (Nat.ne_of_lt (Nat.lt_succ_of_lt hlt)) (Nat.ne_of_lt hlt), ⟨⟨.none, he⟩, hit, Nat.succ_ne_self _⟩, fun b hb => ?_, q⟩
      have e' : b = s1.heap.objs.size + 1 ∨ b = s1.heap.objs.size := by simpa using hb
      have hle : s1.heap.objs.size ≤ b := by
        rcases e' with z | z
        · rw [z]; exact Nat.le_add_right _ _
        · rw [z]; exact Nat.le_refl _
      exact I1.fpOk hle (I1.hok.fresh hle)
/-! # a list or a tuple walked -/
def iSeq (K : PySem.W.Frag) (tl : TE) : TI := fun σ H R => tl σ H fun x H1 => ∃ a, x = .ref a ∧ (((∃ xs, SqL K H1 a xs) ∧ R (Itl K a) H1) ∨ ((∃ xs, SqT K H1 a xs) ∧ R (Itt K a) H1))
theorem pi_seq {X : Cx} {tg l : Expr} {tl : TE} (hl : PE X l tl) : PI X tg l (iSeq X.K tl) := by
  refine ⟨fun pins s σ H R I h => ?_⟩
  refine thn (hl.run pins s σ H _ I h) fun v s1 ⟨x, H1, I1, r1, q1⟩ => ?_
  obtain ⟨a, e, q⟩ := q1
  subst e
  cases r1
  rcases q with ⟨⟨xs, hq⟩, q⟩ | ⟨⟨xs, hq⟩, q⟩
  · obtain ⟨its, rv, p, hz⟩ := I1.list hq
    refine wpAny_pyIter_list p.isList ?_
    refine ⟨s1.heap.objs.size, [s1.heap.objs.size], _, _, H1, rfl, I1.kept (t' := s1.toks) fun b o e => Heap.get?_push_of_some _ e, turn_list a _, ⟨_, Heap.get?_push_size _ rfl, rfl, rfl⟩, fun b hb => ?_, q⟩
    have e : b = s1.heap.objs.size := by simpa using hb
    subst e
    exact I1.fpOk (Nat.le_refl _) (I1.hok.fresh (Nat.le_refl _))
  · obtain ⟨its, rv, p, hz⟩ := I1.tuple hq
    refine wpAny_pyIter_tuple (show s1.heap.IsTuple a its.toArray from p) ?_
    refine ⟨s1.heap.objs.size, [s1.heap.objs.size], _, _, H1, rfl, I1.kept (t' := s1.toks) fun b o e => Heap.get?_push_of_some _ e, turn_tuple a _, ⟨_, Heap.get?_push_size _ rfl, rfl, rfl⟩, fun b hb => ?_, q⟩
    have e : b = s1.heap.objs.size := by simpa using hb
    subst e
    exact I1.fpOk (Nat.le_refl _) (I1.hok.fresh (Nat.le_refl _))
/-! # xs[::-1], of lists and tuples -/
theorem rev_pick (xs : Array Value) : ((List.range xs.size).filterMap fun (k : Nat) => xs[(((xs.size : Int) - 1) + (k : Int) * -1).toNat]?).toArray = xs.toList.reverse.toArray := by
  have e : (List.range xs.size).filterMap (fun (k : Nat) => xs[(((xs.size : Int) - 1) + (k : Int) * -1).toNat]?) = ((List.range xs.size).map fun k => xs.size - 1 - k).filterMap (xs[·]?) := by
    rw [List.filterMap_map]
    refine congrArg (fun f => List.filterMap f (List.range xs.size)) (funext fun k => ?_)
    have : (((xs.size : Int) - 1) + (k : Int) * -1).toNat = xs.size - 1 - k := by omega
    rw [this]; rfl
  rw [e, PySem.W.krv_range, ← List.map_id (List.range xs.size).reverse, List.map_id, List.filterMap_reverse, PySem.W.krv_all]
theorem getItem_tuple_rev {prog : Program} {w : World} {A : Around} {E : Value → Shared → Prop} {s : Shared} {t sl : Addr} {items : Array Value} {k : Tok} {Q : Value → Shared → Prop} (ht : IsTup s.heap t items) (hs : s.heap.IsSliceOf sl .none .none (.int (-1) k))
    (h : Q (.ref s.heap.objs.size) { s with heap := s.heap.push { cls := .type "tuple", data := .seq items.toList.reverse.toArray } })
    (hsz : items.size ≤ sizeLine) : wpAny (model prog w) A (getItem (.ref t) (.ref sl)) Q E s := by
  have htake : sizeOk (.seq items.toList.reverse.toArray) := by
    show items.toList.reverse.toArray.size ≤ sizeLine
    rw [List.size_toArray, List.length_reverse, Array.length_toList]
    exact hsz
  obtain ⟨os, hos, hcs, hds⟩ := id hs
  have hTs : s.TypeIs (.ref sl) "slice" := ⟨os, hos, hcs⟩
  unfold getItem
  try with_reducible refine wpAny_holding ?_
  first | refine wpAny_bind (wpAny_pure ?_) | skip
  refine wpAny_bind (wpAny_sequenceKey ht.typeIs (by decide) ?_)
  refine wpAny_bind (wpAny_callSpecial?_slot (name := Str.ofString "__getitem__") ht.typeIs PyProof.Rows.slot_tuple_getitem
    (wpAny_call_entry PyProof.Rows.slot_tuple_getitem ht.typeIs entry_tuple_getitem ?_ (args_tuple_getitem _ _)))
  show wpAny _ _ (Builtin.Tuple.tupleItemsOf (.ref t) >>= _) _ _ s
  refine wpAny_bind (tupleItemsOf_ ht ?_)
  refine wpAny_bind (wpAny_typeOf hTs ?_)
  rw [if_pos (by decide)]
  have go : ∀ {A' : Around} {E' : Value → Shared → Prop} {R : Int × Int × Nat → Shared → Prop}, R ((items.size : Int) - 1, -1, items.size) s → wpAny (model prog w) A' (Builtin.Slice.sliceApplied (.ref sl) (pure (items.size : Int))) R E' s := fun {A' E' R} hR => by
    unfold Builtin.Slice.sliceApplied Builtin.Slice.sliceFields
    refine wpAny_bind (wpAny_bind (wpAny_field hos hds (x := .none) rfl (wpAny_bind (wpAny_field hos hds (x := .none) rfl (wpAny_bind (wpAny_field hos hds (x := .int (-1) k) rfl (wpAny_pure ?_)))))))
    refine wpAny_bind (PyProof.Rows.slicePart_int ?_)
    show wpAny _ _ (if ((-1 : Int) == 0) = true then _ else _) _ _ s
    rw [if_neg (by decide)]
    refine wpAny_bind (PyProof.Rows.slicePart_none (wpAny_bind (PyProof.Rows.slicePart_none (wpAny_bind (wpAny_pure ?_)))))
    show wpAny _ _ (pure ((items.size : Int) - 1, (-1 : Int), Builtin.Slice.slicePlaces ((items.size : Int) - 1) (-1) (-1))) _ _ s
    have e : Builtin.Slice.slicePlaces ((items.size : Int) - 1) (-1) (-1) = items.size := by
      unfold Builtin.Slice.slicePlaces
      rw [if_neg (by omega)]
      simp only [Int.neg_neg, Int.ediv_one]
      split <;> omega
    rw [e]
    exact wpAny_pure hR
  refine wpAny_bind (go ?_)
  have hno : ¬ ((((items.size : Int) - 1) == 0 && (-1 : Int) == 1 && items.size == items.size) = true) := by
    intro q
    rw [Bool.and_eq_true, Bool.and_eq_true] at q
    exact absurd q.1.2 (by decide)
  show wpAny _ _ (if (((items.size : Int) - 1) == 0 && (-1 : Int) == 1 && items.size == items.size) = true then _ else _) _ _ s
  rw [if_neg hno, rev_pick]
  first
    | exact wpAny_bind (m := Builtin.Tuple.tupleExact _) (wpAny_newObj_type (wpAny_pure ⟨_, rfl, wpAny_pure h⟩) htake)
    | exact wpAny_bind (m := Builtin.Tuple.tupleExact _) (wpAny_newObj_type (wpAny_bind (wpAny_pure (wpAny_pure ⟨_, rfl, wpAny_pure h⟩))) htake)
    | exact wpAny_bind (wpAny_bind (m := Builtin.Tuple.tupleExact _) (wpAny_newObj_type (wpAny_pure (wpAny_pure ⟨_, rfl, wpAny_pure h⟩)) htake))
    | exact wpAny_bind (wpAny_bind (m := Builtin.Tuple.tupleExact _) (wpAny_newObj_type (wpAny_pure ⟨_, rfl, wpAny_pure h⟩) htake))
end DV

namespace DV
open PySem PySem.Spec PyProof.Rows L2
variable [TabC]

/-! # xs[::-1] -/
def mRev : D → Option D
  | .lst xs => some (.lst xs.reverse)
  | .tup xs => some (.tup xs.reverse)
  | _ => none
def fRev (f : AE → Option D) : AE → Option D := fun A => (f A).bind mRev
def tRev (K : PySem.W.Frag) (te : TE) : TE := fun σ H Q => te σ H fun x H1 => ∃ a xs, x = .ref a ∧ ((SqL K H1 a xs ∧ ∀ p, H1 p = none → Q (.ref p) (upd H1 p (.lst xs.reverse))) ∨ (SqT K H1 a xs ∧ ∀ p, H1 p = none → Q (.ref p) (upd H1 p (.tup xs.reverse))))
theorem pe_rev {X : Cx} {e : Expr} {te : TE} {k : Nat} {p1 p2 p3 pos : Pos} (he : PE X e te) : PE X (.Subscript e (.Slice none none (some (.UnaryOp .USub (.Constant (.int 1) k p1) p2)) p3) pos) (tRev X.K te) := by
  refine ⟨fun pins s σ H Q I h => ?_⟩
  refine Subscript_ (thn (he.run pins s σ H _ I h) fun v s1 ⟨x, H1, I1, r1, q1⟩ => ?_)
  obtain ⟨a, xs, ex, q⟩ := q1
  subst ex
  cases r1
  have hst : PO X (some (.UnaryOp .USub (.Constant (.int 1) k p1) p2)) (tPart (tUn (rU fun i => .int (-i)) (tC (.int 1)))) := po_some (pe_un un_neg pe_int)
  refine wpAny_Slice (thn (po_none.run pins s1 σ H1 (fun o H2 => o = none ∧ H2 = H1) I1 ⟨rfl, rfl⟩) fun vl s2 ⟨l, H2, I2, pl, el, e2⟩ => ?_)
  subst el e2
  refine thn (po_none.run pins s2 σ H2 (fun o H3 => o = none ∧ H3 = H2) I2 ⟨rfl, rfl⟩) fun vu s3 ⟨u, H3, I3, pu, eu, e3⟩ => ?_
  subst eu e3
  refine thn (hst.run pins s3 σ H3 (fun o H4 => o = some (-1) ∧ H4 = H3) I3 ⟨1, rfl, -1, rfl, rfl, rfl⟩) fun vs s4 ⟨o, H4, I4, ps, eo, e4⟩ => ?_
  subst eo e4
  have I5 : Inv X pins σ H4 { s4 with heap := s4.heap.push { cls := .type "slice", data := .fields #[vl, vu, vs] } } := I4.kept (t' := s4.toks) fun b ob q => Heap.get?_push_of_some _ q
  show wpAny (model X.prog X.w) X.A (subscriptTail e (.Slice none none (some (.UnaryOp .USub (.Constant (.int 1) k p1) p2)) p3) (.ref a) (.ref s4.heap.objs.size)) (EP X pins σ Q) X.xe { s4 with heap := s4.heap.push { cls := .type "slice", data := .fields #[vl, vu, vs] } }
  rcases q with ⟨hx, q⟩ | ⟨hx, q⟩
  · obtain ⟨its, r, ht, hz⟩ := I5.list hx
    have hlen := r.length
    refine tail_any (ops := [.ref a, .ref s4.heap.objs.size]) ht.isList.typeIs (PySem.slot_list_getitem.lookup) ?_ (by with_unfolding_all rfl)
    refine wpAny_getItem_list_slice ht.isList (Heap.IsSliceOf.new _ vl vu vs) pl pu ps (by decide) ?_ (by rw [List.size_toArray]; omega)
    rw [PySem.W.krv_pick]
    refine ⟨.ref _, _, I5.laid (t' := s4.toks) (o := .lst xs.reverse) (fun b ob q => Heap.get?_push_of_some _ q) (Nat.le_refl _) ?_, rfl, q _ (I5.hok.fresh (Nat.le_refl _))⟩
    exact ⟨by rw [List.length_reverse]; exact hz, _, 0, r.reverse, Heap.get?_push_size _ rfl⟩
  · obtain ⟨its, r, ht, hz⟩ := I5.tuple hx
    have hlen := r.length
    refine tail_any (ops := [.ref a, .ref s4.heap.objs.size]) ht.typeIs (PyProof.Rows.slot_tuple_getitem.lookup) ?_ (by with_unfolding_all rfl)
    cases pl
    cases pu
    cases ps with
    | int i t =>
      refine getItem_tuple_rev ht (Heap.IsSliceOf.new _ _ _ _) ?_ (by rw [List.size_toArray]; omega)
      refine ⟨.ref _, _, I5.laid (t' := s4.toks) (o := .tup xs.reverse) (fun b ob q => Heap.get?_push_of_some _ q) (Nat.le_refl _) ?_, rfl, q _ (I5.hok.fresh (Nat.le_refl _))⟩
      exact ⟨by rw [List.length_reverse]; exact hz, _, r.reverse, IsTup.new _ _⟩
section
variable {X : Cx} {C : Cc} {pos : Pos}
theorem q_rev {e : Expr} {f : AE → Option D} {k : Nat} {p1 p2 p3 : Pos} (he : PE X e (tR C f)) (hK : X.K = C.K := by rfl) : PE X (.Subscript e (.Slice none none (some (.UnaryOp .USub (.Constant (.int 1) k p1) p2)) p3) pos) (tQ C (fRev f)) :=
  PE_imp (pe_rev he) fun σ H Q ⟨B, A, d, r, ef, k⟩ => by
    unfold fRev at ef
    cases e1 : f A with
    | none => rw [e1] at ef; cases ef
    | some x =>
      rw [e1, Option.bind_some] at ef
      rw [hK]
      refine ⟨B, A, x, r, e1, fun v H1 s1 q1 => ?_⟩
      unfold mRev at ef
      split at ef
      · cases ef
        obtain ⟨a, xs, rfl, s2, r2⟩ := q1
        exact ⟨a, xs, rfl, .inl ⟨SqL.of s2, fun p hp => k _ _ (s1.trans (same_new hp)) (Rp.lstNew (r.same s1).bl r2.rev hp)⟩⟩
      · cases ef
        obtain ⟨a, xs, rfl, s2, r2⟩ := q1
        exact ⟨a, xs, rfl, .inr ⟨s2, fun p hp => k _ _ (s1.trans (same_new hp)) (Rp.tupNew r2.rev hp)⟩⟩
      · cases ef
end

/-! # sources -/
def seqOf : D → Option (List D)
  | .lst xs => some xs
  | .tup xs => some xs
  | _ => none
section
variable {X : Cx} {C : Cc} {pos : Pos} {tg : Expr} {f g : AE → Option D} {f' : AE → Option (D × AE)}
def fSeq (f : AE → Option D) : AE → Option (List D) := fun A => (f A).bind seqOf
def gSeq (f : AE → Option (D × AE)) : AE → Option (List D × AE) := fun A => (f A).bind fun p => (seqOf p.1).map fun xs => (xs, p.2)
theorem i_seq {e : Expr} (h : PE X e (tQ C f)) (hK : X.K = C.K := by rfl) : PI X tg e (tI C false (fSeq f)) := PI_imp (pi_seq h) fun σ H R ⟨B, A, xs, r, ef, k⟩ => by
  unfold fSeq at ef
  cases e1 : f A with
  | none => rw [e1] at ef; cases ef
  | some x =>
    rw [e1, Option.bind_some] at ef
    rw [hK]
    refine ⟨B, A, x, r, e1, fun v H1 s1 q1 => ?_⟩
    unfold seqOf at ef
    split at ef
    · cases ef
      obtain ⟨a, ys, rfl, s2, r2⟩ := q1
      exact ⟨a, rfl, .inl ⟨⟨ys, SqL.of s2.1⟩, k _ H1 s1 (ItD.list s2.1 (fun _ => s2.2) r2 (r.same s1).bl)⟩⟩
    · cases ef
      obtain ⟨a, ys, rfl, s2, r2⟩ := q1
      exact ⟨a, rfl, .inr ⟨⟨ys, s2⟩, k _ H1 s1 (ItD.tup s2 r2 (r.same s1).bl)⟩⟩
    · cases ef
/-- a list in place, quiet turns -/
theorem i_seqR {e : Expr} (h : PE X e (tR C f)) (hK : X.K = C.K := by rfl) : PI X tg e (tI C true (fSeq f)) := PI_imp (pi_seq h) fun σ H R ⟨B, A, xs, r, ef, k⟩ => by
  unfold fSeq at ef
  cases e1 : f A with
  | none => rw [e1] at ef; cases ef
  | some x =>
    rw [e1, Option.bind_some] at ef
    rw [hK]
    refine ⟨B, A, x, r, e1, fun v H1 s1 q1 => ?_⟩
    unfold seqOf at ef
    split at ef
    · cases ef
      obtain ⟨a, ys, rfl, s2, r2⟩ := q1
      exact ⟨a, rfl, .inl ⟨⟨ys, SqL.of s2⟩, k _ H1 s1 (ItD.list s2 (fun z => by cases z) r2 (r.same s1).bl)⟩⟩
    · cases ef
      obtain ⟨a, ys, rfl, s2, r2⟩ := q1
      exact ⟨a, rfl, .inr ⟨⟨ys, s2⟩, k _ H1 s1 (ItD.tup s2 r2 (r.same s1).bl)⟩⟩
    · cases ef
theorem i_seqF {e : Expr} (h : PE X e (tF C f')) (hK : X.K = C.K := by rfl) : PI X tg e (tIF C (gSeq f')) := PI_imp (pi_seq h) fun σ H R ⟨B, A, xs, A', r, ef, k⟩ => by
  unfold gSeq at ef
  cases e1 : f' A with
  | none => rw [e1] at ef; cases ef
  | some x =>
    obtain ⟨x, A1⟩ := x
    rw [e1, Option.bind_some] at ef
    rw [hK]
    cases e2 : seqOf x with
    | none => rw [e2] at ef; cases ef
    | some zs =>
      rw [e2] at ef; cases ef
      refine ⟨B, A, x, _, r, e1, fun v H1 r1 s1 q1 => ?_⟩
      unfold seqOf at e2
      split at e2
      · cases e2
        obtain ⟨a, ys, rfl, s2, r2⟩ := q1
        exact ⟨a, rfl, .inl ⟨⟨ys, SqL.of s2.1⟩, k _ H1 r1 s1 (ItD.list s2.1 (fun _ => s2.2) r2 r1.bl)⟩⟩
      · cases e2
        obtain ⟨a, ys, rfl, s2, r2⟩ := q1
        exact ⟨a, rfl, .inr ⟨⟨ys, s2⟩, k _ H1 r1 s1 (ItD.tup s2 r2 r1.bl)⟩⟩
      · cases e2
def qi (src : AE → Option (List D)) : AE → Option (List D × AE) := fun A => (src A).map fun xs => (xs, A)
theorem ei {it : Expr} {src : AE → Option (List D)} (h : PI X tg it (tI C false src)) : PI X tg it (tIF C (qi src)) := PI_imp h fun σ H R ⟨B, A, xs, A', r, ef, k⟩ => by
  unfold qi at ef
  cases e1 : src A with
  | none => rw [e1] at ef; cases ef
  | some x => rw [e1] at ef; cases ef; exact ⟨B, A, _, r, e1, fun J H1 s i => k J H1 (r.same s) (Kp.of s) i⟩
theorem iq {it : Expr} {q : Bool} {src : AE → Option (List D)} (h : PI X tg it (tI C false src)) : PI X tg it (tI C q src) := PI_imp h fun σ H R ⟨B, A, xs, r, ef, k⟩ => ⟨B, A, xs, r, ef, fun J H1 s i => k J H1 s (by
  cases q with
  | false => exact i
  | true =>
    unfold ItD at i ⊢
    exact i.mono (fun H ⟨B', g, x, b⟩ => ⟨B', g, Kp.of x, b⟩) fun i H x H' hi hg y B' g z b => y B' g (Kp.of z) b)⟩
def fR1 (f : AE → Option (List D)) : AE → Option (List D) := fun A => (f A).bind fun ds => match ds with
  | [.v (.int j)] => if rgOk 0 j then some (rngD 0 j) else none
  | _ => none
def fR2 (f : AE → Option (List D)) : AE → Option (List D) := fun A => (f A).bind fun ds => match ds with
  | [.v (.int i), .v (.int j)] => if rgOk i j then some (rngD i j) else none
  | _ => none
def gR1 (f : AE → Option (List D × AE)) : AE → Option (List D × AE) := fun A => (f A).bind fun ds => match ds.1 with
  | [.v (.int j)] => if rgOk 0 j then some (rngD 0 j, ds.2) else none
  | _ => none
theorem rgOk.to {i j : Int} (h : rgOk i j = true) : -(2 ^ 62) ≤ i ∧ i < 2 ^ 62 ∧ -(2 ^ 62) ≤ j ∧ j < 2 ^ 62 := by have h := of_decide_eq_true h; omega
theorem RpL.int1 {K : PySem.W.Frag} {B : Ban} {H : Hp} {j : Int} {vs : List V} (h : RpL K B H [.v (.int j)] vs) : vs = [.int j] := by
  obtain ⟨x, r, rfl, h1, h2⟩ := h
  cases h1; cases h2; rfl
theorem RpL.int2 {K : PySem.W.Frag} {B : Ban} {H : Hp} {i j : Int} {vs : List V} (h : RpL K B H [.v (.int i), .v (.int j)] vs) : vs = [.int i, .int j] := by
  obtain ⟨x, r, rfl, h1, y, r2, rfl, h2, h3⟩ := h
  cases h1; cases h2; cases h3; rfl
theorem i_rng1 {a : Expr} {fs : AE → Option (List D)} {p : Pos} (hg : Gl X "range") (hm : X.mg "range" = none) (ha : PA X [a] (tQA C fs)) (hs : starEach [a] X.env = [(false, eval a X.env)] := by rfl) : PI X tg (.Call (.Name "range" p) [a] [] pos) (tI C false (fR1 fs)) :=
  PI_imp (pi_range1 hg hm ha hs) fun σ H R ⟨B, A, xs, r, ef, k⟩ => by
    unfold fR1 at ef
    cases e1 : fs A with
    | none => rw [e1] at ef; cases ef
    | some ds =>
      rw [e1, Option.bind_some] at ef
      split at ef
      · rename_i j
        split at ef
        · rename_i hz
          cases ef
          have z := rgOk.to hz
          refine ⟨B, A, _, r, e1, fun vs H1 s1 q1 => ⟨j, q1.int1, z.2.2.1, z.2.2.2, k _ H1 s1 ?_⟩⟩
          have i0 := ItD.rng (K := C.K) (q := false) (B := B) (H1 := H1) (lo := 0) (hi := j)
          rwa [Int.sub_zero] at i0
        · cases ef
      · cases ef
theorem i_rng1F {a : Expr} {fs : AE → Option (List D × AE)} {p : Pos} (hg : Gl X "range") (hm : X.mg "range" = none) (ha : PA X [a] (tFA C fs)) (hs : starEach [a] X.env = [(false, eval a X.env)] := by rfl) : PI X tg (.Call (.Name "range" p) [a] [] pos) (tIF C (gR1 fs)) :=
  PI_imp (pi_range1 hg hm ha hs) fun σ H R ⟨B, A, xs, A', r, ef, k⟩ => by
    unfold gR1 at ef
    cases e1 : fs A with
    | none => rw [e1] at ef; cases ef
    | some ds =>
      obtain ⟨ds, A1⟩ := ds
      rw [e1, Option.bind_some] at ef
      split at ef
      · rename_i j hj
        split at ef
        · rename_i hz
          cases ef
          have z := rgOk.to hz
          have hj' : ds = [.v (.int j)] := hj
          subst hj'
          refine ⟨B, A, _, _, r, e1, fun vs H1 r1 s1 q1 => ⟨j, q1.int1, z.2.2.1, z.2.2.2, k _ H1 r1 s1 ?_⟩⟩
          have i0 := ItD.rng (K := C.K) (q := false) (B := B) (H1 := H1) (lo := 0) (hi := j)
          rwa [Int.sub_zero] at i0
        · cases ef
      · cases ef
theorem i_rng2 {a b : Expr} {fs : AE → Option (List D)} {p : Pos} (hg : Gl X "range") (hm : X.mg "range" = none) (ha : PA X [a, b] (tQA C fs)) (hs : starEach [a, b] X.env = [(false, eval a X.env), (false, eval b X.env)] := by rfl) (hs2 : starEach [b] X.env = [(false, eval b X.env)] := by rfl) :
    PI X tg (.Call (.Name "range" p) [a, b] [] pos) (tI C false (fR2 fs)) :=
  PI_imp (pi_range2 hg hm ha hs hs2) fun σ H R ⟨B, A, xs, r, ef, k⟩ => by
    unfold fR2 at ef
    cases e1 : fs A with
    | none => rw [e1] at ef; cases ef
    | some ds =>
      rw [e1, Option.bind_some] at ef
      split at ef
      · rename_i i j
        split at ef
        · rename_i hz
          cases ef
          have z := rgOk.to hz
          exact ⟨B, A, _, r, e1, fun vs H1 s1 q1 => ⟨i, j, q1.int2, z, k _ H1 s1 ItD.rng⟩⟩
        · cases ef
      · cases ef
/-- the pairs (number, item) -/
def enumD (xs : List D) : List D := (((List.range xs.length).map fun i => D.int (i : Nat)).zip xs).map fun p => .tup [p.1, p.2]
def fEnum (f : AE → Option (List D)) : AE → Option (List D) := fun A => (f A).bind fun ds => match ds with
  | [.lst xs] => some (enumD xs)
  | [.tup xs] => some (enumD xs)
  | _ => none
theorem i_enum {e : Expr} {fs : AE → Option (List D)} {p tpos : Pos} {elts : List Expr} {kk : Nat} (hg : Gl X "enumerate") (hm : X.mg "enumerate" = none) (ha : PA X [e] (tQA C fs)) (hs : starEach [e] X.env = [(false, eval e X.env)] := by rfl) (hK : X.K = C.K := by rfl) :
    PI X (.Tuple elts kk tpos) (.Call (.Name "enumerate" p) [e] [] pos) (tI C false (fEnum fs)) :=
  PI_imp (pi_enumA hg hm ha hs) fun σ H R ⟨B, A, xs, r, ef, k⟩ => by
    have num : ∀ (K : PySem.W.Frag) (H1 : Hp) (n i : Nat) (x : V), (some (V.int (i : Nat)) : Option V) = some x → i < n → ∃ d, ((List.range n).map fun i => D.int (i : Nat))[i]? = some d ∧ Rp K B H1 d x := fun K H1 n i x e hi => by
      cases e
      exact ⟨.int (i : Nat), by rw [List.getElem?_map, List.getElem?_range hi]; rfl, rfl⟩
    unfold fEnum at ef
    cases e1 : fs A with
    | none => rw [e1] at ef; cases ef
    | some ds =>
      rw [e1, Option.bind_some] at ef
      rw [hK]
      split at ef
      · rename_i ys
        cases ef
        refine ⟨B, A, _, r, e1, fun vs H1 s1 q1 => ?_⟩
        obtain ⟨x, rr, rfl, ⟨a, zs, rfl, s2, r2⟩, h3⟩ := q1
        cases h3
        refine ⟨a, zs, rfl, .inl ⟨SqL.of s2.1, k _ H1 s1 ?_⟩⟩
        refine ItD.pairs (walk_enum (K := C.K) (a := a) (xs := zs)) (by rw [List.length_map, List.length_range]; exact r2.len) r2.len (fun H B' g kk _ => SqL.of (kk.kp.lst s2.1 (g.ne s2.1 nt_lst s2.2))) (fun i x e hi => num _ _ _ i x e (by rw [r2.len]; exact hi)) (fun i x e hi => r2.get' e) (r.same s1).bl
      · rename_i ys
        cases ef
        refine ⟨B, A, _, r, e1, fun vs H1 s1 q1 => ?_⟩
        obtain ⟨x, rr, rfl, ⟨a, zs, rfl, s2, r2⟩, h3⟩ := q1
        cases h3
        refine ⟨a, zs, rfl, .inr ⟨s2, k _ H1 s1 ?_⟩⟩
        have w : Walk (IteT C.K a) zs.length (fun H => SqT C.K H a zs) (YPair (fun i => some (.int (i : Nat))) (fun i => zs[i]?)) := by
          refine ⟨fun i _ hi q => ⟨zs, zs[i], q, by simp [hi]⟩, fun _ q => ⟨zs, q, Nat.le_refl _⟩, fun i H v H' _ q y => ?_⟩
          obtain ⟨T, x, h1, h2, h3, h4⟩ := y
          exact ⟨T, .int (i : Nat), x, h1, h2, h3, rfl, h4 zs q⟩
        exact ItD.pairs w (by rw [List.length_map, List.length_range]; exact r2.len) r2.len (fun H B' g kk _ => SqT.kp (g.blw (r.same s1).bl) kk.kp s2) (fun i x e hi => num _ _ _ i x e (by rw [r2.len]; exact hi)) (fun i x e hi => r2.get' e) (r.same s1).bl
      · cases ef
def zipD (xs ys : List D) : List D := (xs.zip ys).map fun p => .tup [p.1, p.2]
def fZip (f : AE → Option (List D)) : AE → Option (List D) := fun A => (f A).bind fun ds => match ds with
  | [.lst xs, .lst ys] => some (zipD xs ys)
  | [.tup xs, .tup ys] => some (zipD xs ys)
  | _ => none
theorem ItD.pairs2 {K : PySem.W.Frag} {q : Bool} {B : Ban} {H1 : Hp} {J : It} {n : Nat} {G : Hp → Prop} {f g : Nat → Option V} {ds es : List D} (w : Walk J n G (YPair f g)) (hn : n = min ds.length es.length)
    (hG : ∀ H B', Gr B H1 B' → Rho q B' H1 H → BL B' H → G H) (hf : ∀ i x, f i = some x → i < n → ∃ d, ds[i]? = some d ∧ Rp K B H1 d x) (hg : ∀ i x, g i = some x → i < n → ∃ d, es[i]? = some d ∧ Rp K B H1 d x) (bl : BL B H1) :
    ItD K q B J H1 (zipD ds es) := by
  have e : zipD ds es = zipD (ds.take n) (es.take n) := by
    unfold zipD
    rw [List.zip_eq_zip_take_min (l₁ := ds) (l₂ := es), ← hn]
  rw [e]
  refine ItD.pairs w (by rw [List.length_take]; omega) (by rw [List.length_take]; omega) hG (fun i x e hi => ?_) (fun i x e hi => ?_) bl
  · rw [List.getElem?_take_of_lt hi]; exact hf i x e hi
  · rw [List.getElem?_take_of_lt hi]; exact hg i x e hi
theorem i_zip {e e2 : Expr} {fs : AE → Option (List D)} {p tpos : Pos} {elts : List Expr} {kk : Nat} (hg : Gl X "zip") (hm : X.mg "zip" = none) (ha : PA X [e, e2] (tQA C fs))
    (hs : starEach [e, e2] X.env = (false, eval e X.env) :: starEach [e2] X.env := by rfl) (hpl : (backTo pos (starEach [e2] X.env)).any (·.1) = false := by rfl) (hK : X.K = C.K := by rfl) :
    PI X (.Tuple elts kk tpos) (.Call (.Name "zip" p) [e, e2] [] pos) (tI C false (fZip fs)) :=
  PI_imp (RZ.pi_zipA hg hm ha hs hpl) fun σ H R ⟨B, A, xs, r, ef, k⟩ => by
    unfold fZip at ef
    cases e1 : fs A with
    | none => rw [e1] at ef; cases ef
    | some ds =>
      rw [e1, Option.bind_some] at ef
      rw [hK]
      split at ef
      · cases ef
        refine ⟨B, A, _, r, e1, fun vs H1 s1 q1 => ?_⟩
        obtain ⟨x, rr, rfl, ⟨a, zs, rfl, s2, r2⟩, y, rr2, rfl, ⟨b, ws, rfl, s3, r3⟩, h3⟩ := q1
        cases h3
        refine ⟨a, b, zs, ws, rfl, .inl ⟨SqL.of s2.1, SqL.of s3.1, k _ H1 s1 ?_⟩⟩
        exact ItD.pairs2 (walk_zip (K := C.K) (a := a) (b := b) (xs := zs) (ys := ws) rfl) (by rw [r2.len, r3.len]) (fun H B' g kk _ => ⟨SqL.of (kk.kp.lst s2.1 (g.ne s2.1 nt_lst s2.2)), SqL.of (kk.kp.lst s3.1 (g.ne s3.1 nt_lst s3.2))⟩) (fun i x e _ => r2.get' e) (fun i x e _ => r3.get' e) (r.same s1).bl
      · cases ef
        refine ⟨B, A, _, r, e1, fun vs H1 s1 q1 => ?_⟩
        obtain ⟨x, rr, rfl, ⟨a, zs, rfl, s2, r2⟩, y, rr2, rfl, ⟨b, ws, rfl, s3, r3⟩, h3⟩ := q1
        cases h3
        refine ⟨a, b, zs, ws, rfl, .inr ⟨s2, s3, k _ H1 s1 ?_⟩⟩
        have w : Walk (RZ.ItzT C.K a b) (min zs.length ws.length) (fun H => SqT C.K H a zs ∧ SqT C.K H b ws) (YPair (fun i => zs[i]?) (fun i => ws[i]?)) := by
          refine ⟨fun i _ hi q => ?_, fun _ q => ⟨zs, ws, q.1, q.2, by omega⟩, fun i H v H' _ q y => ?_⟩
          · have h1 : i < zs.length := by omega
            have h2 : i < ws.length := by omega
            exact ⟨zs, ws, zs[i], ws[i], q.1, q.2, by simp [h1], by simp [h2]⟩
          · obtain ⟨T, x, z, h1, h2, h3, h4, h5⟩ := y
            exact ⟨T, x, z, h1, h2, h3, h4 zs q.1, h5 ws q.2⟩
        exact ItD.pairs2 w (by rw [r2.len, r3.len]) (fun H B' g kk _ => ⟨SqT.kp (g.blw (r.same s1).bl) kk.kp s2, SqT.kp (g.blw (r.same s1).bl) kk.kp s3⟩) (fun i x e _ => r2.get' e) (fun i x e _ => r3.get' e) (r.same s1).bl
      · cases ef
end
end DV

namespace DV
open PySem PySem.Spec PyProof.Rows L2
variable [TabC]

/-! # list comprehensions -/
def lcGo (pat : D → AE → Option AE) (p : AE → Option Bool) (f : AE → Option D) (A : AE) : List D → Option (List D)
  | [] => some []
  | x :: xs => (pat x A).bind fun A1 => (p A1).bind fun b => if b then (f A1).bind fun y => (lcGo pat p f A xs).map (y :: ·) else lcGo pat p f A xs
def fLC (src : AE → Option (List D)) (vs : List Nat) (pat : D → AE → Option AE) (p : AE → Option Bool) (f : AE → Option D) : AE → Option D := fun A => (src A).bind fun xs => if szOk xs.length then (lcGo pat p f (wipeA A vs) xs).map .lst else none
def isOwn : Option AV → Bool
  | some (.own _ _) => true
  | _ => false
def lcGoF (pat : D → AE → Option AE) (p : AE → Option Bool) (f : AE → Option (D × AE)) (vs : List Nat) : List D → AE → Option (List D × AE)
  | [], A => some ([], A)
  | x :: xs, A => (pat x A).bind fun A1 => (p A1).bind fun b => if b then (f A1).bind fun q => (lcGoF pat p f vs xs (wipeA q.2 vs)).map fun w => (q.1 :: w.1, w.2) else lcGoF pat p f vs xs (wipeA A1 vs)
def restA (A A' : AE) : List Nat → AE
  | [] => A'
  | v :: vs => (restA A A' vs).set v (A.getD v none)
def gLC (src : AE → Option (List D × AE)) (vs : List Nat) (pat : D → AE → Option AE) (p : AE → Option Bool) (f : AE → Option (D × AE)) : AE → Option (D × AE) := fun A => (src A).bind fun s =>
  if szOk s.1.length && vs.all (fun v => !isOwn (s.2.getD v none)) then (lcGoF pat p f vs s.1 (wipeA s.2 vs)).map fun w => (.lst w.1, restA s.2 w.2 vs) else none
section
variable {C : Cc} {B : Bw} {A A' : AE} {σ : L2.St} {H H' H1 : Hp}
theorem drop_cons {α : Type} {xs : List α} {i : Nat} {d : α} (h : xs[i]? = some d) : xs.drop i = d :: xs.drop (i + 1) := by
  obtain ⟨hi, e⟩ := List.getElem?_eq_some_iff.mp h
  rw [← e]
  exact List.drop_eq_getElem_cons hi
/-- a banned list that is none of the slots' own is written -/
theorem Rel.updBan {p : Addr} {vs : List V} (r : Rel C B A σ H) (b : B.on p) (h0 : Fr0 C.H0 p) (hno : ¬ B.wr p) : Rel C B A σ (upd H p (.lst vs)) ∧ Kp B.on H (upd H p (.lst vs)) := by
  obtain ⟨us, eu⟩ := r.bl p b
  have k1 : Kp (fun b => b = p) H (upd H p (.lst vs)) := Kp.upd eu
  have kp : Kp B.on H (upd H p (.lst vs)) := k1.mono fun c z => by rw [z]; exact b
  refine ⟨⟨r.len, fun i d e => ?_, fun i t xs e => ?_, r.inj, fun a h => ?_, r.b0, r.m0, ⟨fun c o e n nt => ?_, fun t => k1.tb (r.kp.tb t)⟩, k1.tb r.tabs⟩, kp⟩
  · obtain ⟨v, e1, h⟩ := r.dat i d e; exact ⟨v, e1, h.kp r.bl kp⟩
  · obtain ⟨a, ws, e1, e2, b2, h, m⟩ := r.own i _ xs e
    exact ⟨a, ws, e1, by rw [upd_ne (fun z => hno (by rw [← z]; exact b2))]; exact e2, b2, h.kp r.bl kp, m⟩
  · by_cases z : a = p
    · subst z; exact ⟨vs, upd_same⟩
    · rw [upd_ne z]; exact r.bl a h
  · exact k1.ob c o (r.kp.ob c o e n nt) (fun z => h0 o (by rw [← z]; exact e) nt) nt
theorem Kp.updN {B : Ban} {H H4 : Hp} {D : Addr} {us vs : List V} (k : Kp B H H4) (hD : H D = none) (e4 : H4 D = some (.lst us)) : Kp B H (L2.upd H4 D (.lst vs)) :=
  ⟨fun b o e n nt => by rw [upd_ne (ne_of_none e hD)]; exact k.ob b o e n nt, fun t => (Kp.upd (vs := vs) e4).tb (k.tb t)⟩
theorem Sm.updN {H H4 : Hp} {D : Addr} {us vs : List V} (k : Sm H H4) (hD : H D = none) (e : H4 D = some (.lst us)) : Sm H (L2.upd H4 D (.lst vs)) :=
  ((Kp.of (B := fun _ => False) k).updN hD e).sm fun _ z => z
theorem Rel.h0_new {p : Addr} (r : Rel C B A σ H) (hp : H p = none) : Fr0 C.H0 p ∧ ¬ C.B0 p := by
  have nb : ∀ Z : Ban, (∀ a, Z a → B.on a) → ¬ Z p := fun Z hz z => by
    obtain ⟨ws, e⟩ := r.bl p (hz p z)
    rw [hp] at e; cases e
  refine ⟨fun o e nt => ?_, nb _ r.b0⟩
  have := r.kp.ob p o e (nb _ r.m0) nt
  rw [hp] at this; cases this
theorem wipe_wipe {vs : List Nat} : wipe (wipe σ vs) vs = wipe σ vs := wipe_eq (wipe_length σ vs) fun _ hi => wipe_out' hi
variable {src : AE → Option (List D)} {vs ks : List Nat} {pat : D → AE → Option AE} {p : AE → Option Bool} {f : AE → Option D}
theorem lc_q {Q : VK} (hks : ∀ i ∈ ks, i ∈ vs) (h : tQ C (fLC src vs pat p f) σ H Q) : tLc (tI C true src) (tG C ks pat) (tQT C p) (tQ C f) vs σ H Q := by
  obtain ⟨B, A, d, r, ef, k⟩ := h
  unfold fLC at ef
  cases e1 : src A with
  | none => rw [e1] at ef; cases ef
  | some xs =>
    rw [e1, Option.bind_some] at ef
    split at ef
    · rename_i hz
      have hz := szOk.le hz
      cases e2 : lcGo pat p f (wipeA A vs) xs with
      | none => rw [e2] at ef; cases ef
      | some ys =>
        rw [e2] at ef; cases ef
        refine ⟨B, A, xs, r, e1, fun J H1 s1 it D hD => ?_⟩
        have r1 := r.same s1
        have rB := r1.ban [] hD
        have h0 := (r1.h0_new hD).1
        have hno : ¬ B.wr D := fun w => r1.bl.free hD (B.sub D w)
        refine lc_it it (fun i H' => ∃ acc vacc rest, Sm H1 H' ∧ H' D = some (.lst vacc) ∧ RpL C.K (ban1 D B.on) H' acc vacc ∧ acc.length ≤ i ∧ lcGo pat p f (wipeA A vs) (xs.drop i) = some rest ∧ acc ++ rest = ys ∧ Rel C (B.more D) A σ H')
          ⟨[], [], ys, same_new hD, upd_same, rfl, Nat.le_refl _, e2, rfl, rB⟩ (fun i H' _ ⟨acc, vacc, rest, s, _, _, _, _, _, rel⟩ => ⟨B.on, Gr.refl B.on H1, Rho.of s, r1.bl.same s⟩) ?_ ?_
        · intro i x H' H'' hi ⟨acc, vacc, rest, s, eD, ra, hl, hg, hy, rel⟩ y
          obtain ⟨sx, d, hd, rp⟩ := y (ban1 D B.on) (Gr.ban1 hD) (Rho.of s) rel.bl
          rw [drop_cons hd] at hg
          unfold lcGo at hg
          cases e3 : pat d (wipeA A vs) with
          | none => rw [e3] at hg; cases hg
          | some A1 =>
            rw [e3, Option.bind_some] at hg
            cases e4 : p A1 with
            | none => rw [e4] at hg; cases hg
            | some b =>
              rw [e4, Option.bind_some] at hg
              have rel2 := rel.same sx
              refine ⟨B.more D, wipeA A vs, d, A1, rel2.wipe, rp, e3, fun σ2 r2 n2 l2 => ⟨?_, B.more D, A1, b, r2, e4, fun H3 s3 => ?_⟩⟩
              · rw [← wipe_wipe (σ := σ)]
                exact wipe_eq l2 fun i hi => n2 i fun h => hi (hks i h)
              · cases b with
                | false =>
                  rw [if_neg Bool.false_ne_true] at hg
                  refine iteF ⟨acc, vacc, rest, (s.trans sx).trans s3, s3.lst (sx.lst eD), (ra.same sx).same s3, by omega, hg, hy, rel2.same s3⟩
                | true =>
                  rw [if_pos rfl] at hg
                  cases e5 : f A1 with
                  | none => rw [e5] at hg; cases hg
                  | some u =>
                    rw [e5, Option.bind_some] at hg
                    cases e6 : lcGo pat p f (wipeA A vs) (xs.drop (i + 1)) with
                    | none => rw [e6] at hg; cases hg
                    | some rest' =>
                      rw [e6] at hg
                      have er : rest = u :: rest' := (Option.some.inj hg).symm
                      subst er
                      refine iteT ⟨B.more D, A1, u, r2.same s3, e5, fun w H4 s4 q4 => ⟨vacc, s4.lst (s3.lst (sx.lst eD)), by rw [← ra.len]; exact Nat.lt_of_lt_of_le (by omega) hz, ?_⟩⟩
                      have sA := ((s.trans sx).trans s3).trans s4
                      have rel4 := (rel2.same s3).same s4
                      obtain ⟨rel5, kp5⟩ := rel4.updBan (vs := vacc ++ [w]) (.inl rfl) h0 hno
                      refine ⟨acc ++ [u], vacc ++ [w], rest', sA.updN hD (s4.lst (s3.lst (sx.lst eD))), upd_same, ?_, by rw [List.length_append]; simp; omega, rfl, by rw [List.append_assoc]; exact hy, rel5⟩
                      · exact (((ra.same sx).same s3).same s4 |>.append (RpL.one q4)).kp rel4.bl kp5
        · intro H' ⟨acc, vacc, rest, s, eD, ra, hl, hg, hy, rel⟩
          rw [List.drop_length] at hg
          cases hg
          rw [List.append_nil] at hy
          subst hy
          exact k _ H' (s1.trans s) ⟨D, vacc, rfl, ⟨eD, r1.bl.free hD⟩, ra.weak fun a h => .inr h⟩
    · cases ef
theorem restA_some {i : Nat} {x : AV} : ∀ {vs : List Nat}, (restA A A' vs)[i]? = some (some x) → (i ∈ vs ∧ A.getD i none = some x) ∨ (i ∉ vs ∧ A'[i]? = some (some x))
  | [], h => .inr ⟨by simp, h⟩
  | v :: vs, h => by
    unfold restA at h
    by_cases hi : v = i
    · subst hi
      by_cases hv : v < (restA A A' vs).length
      · rw [List.getElem?_set_self hv] at h
        exact .inl ⟨by simp, Option.some.inj h⟩
      · rw [List.getElem?_eq_none (by simpa using hv)] at h; cases h
    · rw [List.getElem?_set_ne hi] at h
      rcases restA_some h with ⟨h1, h2⟩ | ⟨h1, h2⟩
      · exact .inl ⟨by simp [h1], h2⟩
      · exact .inr ⟨by simp only [List.mem_cons, not_or]; exact ⟨fun e => hi e.symm, h1⟩, h2⟩
theorem restA_len : ∀ vs : List Nat, (restA A A' vs).length = A'.length
  | [] => rfl
  | v :: vs => by unfold restA; rw [List.length_set, restA_len vs]
theorem getD_get {i : Nat} {x : AV} (h : A.getD i none = some x) : A[i]? = some (some x) := by
  rw [List.getD_eq_getElem?_getD] at h
  cases e : A[i]? with
  | none => rw [e] at h; cases h
  | some o => rw [e] at h; rw [← h]; rfl
theorem getD_of {i : Nat} {x : AV} (h : A[i]? = some (some x)) : A.getD i none = some x := by
  rw [List.getD_eq_getElem?_getD, h]; rfl
variable {srcF : AE → Option (List D × AE)} {fF : AE → Option (D × AE)}
theorem lc_f {Q : VK} (hks : ∀ i ∈ ks, i ∈ vs) (h : tF C (gLC srcF vs pat p fF) σ H Q) : tLc (tIF C srcF) (tG C ks pat) (tQT C p) (tF C fF) vs σ H Q := by
  obtain ⟨B, A, d, Ae, r, ef, k⟩ := h
  unfold gLC at ef
  cases e1 : srcF A with
  | none => rw [e1] at ef; cases ef
  | some sx =>
    obtain ⟨xs, A0⟩ := sx
    rw [e1, Option.bind_some] at ef
    split at ef
    · rename_i hz
      rw [Bool.and_eq_true, List.all_eq_true] at hz
      have hown := hz.2
      have hz : xs.length ≤ sizeLine := szOk.le hz.1
      cases e2 : lcGoF pat p fF vs xs (wipeA A0 vs) with
      | none => rw [e2] at ef; cases ef
      | some yw =>
        obtain ⟨ys, Az⟩ := yw
        rw [e2] at ef; cases ef
        refine ⟨B, A, xs, A0, r, e1, fun J H1 r1 k1 it D hD => ?_⟩
        have rB := r1.ban [] hD
        have h0 := (r1.h0_new hD).1
        have hno : ¬ B.wr D := fun w => r1.bl.free hD (B.sub D w)
        refine lc_it it (fun i H' => ∃ acc vacc rest A1, Kp B.wr H1 H' ∧ H' D = some (.lst vacc) ∧ RpL C.K (ban1 D B.on) H' acc vacc ∧ acc.length ≤ i ∧ lcGoF pat p fF vs (xs.drop i) A1 = some (rest, Az) ∧ acc ++ rest = ys ∧ Rel C (B.more D) A1 (wipe σ vs) H')
          ⟨[], [], ys, wipeA A0 vs, Kp.of (same_new hD), upd_same, rfl, Nat.le_refl _, e2, rfl, rB.wipe⟩ (fun i H' _ ⟨acc, vacc, rest, A1, s, _, _, _, _, _, rel⟩ => ⟨B.on, Gr.refl B.on H1, Bw.up s, fun a h => rel.bl a (.inr h)⟩) ?_ ?_
        · intro i x H' H'' hi ⟨acc, vacc, rest, A1, s, eD, ra, hl, hg, hy, rel⟩ y
          have kD : Kp (ban1 D B.on) H1 H' := s.mono fun b z => .inr (B.sub b z)
          obtain ⟨sx, d, hd, rp⟩ := y (ban1 D B.on) (Gr.ban1 hD) kD rel.bl
          rw [drop_cons hd] at hg
          unfold lcGoF at hg
          cases e3 : pat d A1 with
          | none => rw [e3] at hg; cases hg
          | some A2 =>
            rw [e3, Option.bind_some] at hg
            cases e4 : p A2 with
            | none => rw [e4] at hg; cases hg
            | some b =>
              rw [e4, Option.bind_some] at hg
              have rel2 := rel.same sx
              refine ⟨B.more D, A1, d, A2, rel2, rp, e3, fun σ2 r2 n2 l2 => ?_⟩
              have ew : wipe σ2 vs = wipe σ vs := by
                rw [← wipe_wipe (σ := σ)]
                exact wipe_eq l2 fun i hi => n2 i fun h => hi (hks i h)
              refine ⟨ew, B.more D, A2, b, r2, e4, fun H3 s3 => ?_⟩
              cases b with
              | false =>
                rw [if_neg Bool.false_ne_true] at hg
                have rw_ := (r2.same s3).wipe (vs := vs)
                rw [ew] at rw_
                exact iteF ⟨acc, vacc, rest, wipeA A2 vs, (s.trans (Kp.of sx)).trans (Kp.of s3), s3.lst (sx.lst eD), (ra.same sx).same s3, by omega, hg, hy, rw_⟩
              | true =>
                rw [if_pos rfl] at hg
                cases e5 : fF A2 with
                | none => rw [e5] at hg; cases hg
                | some uq =>
                  obtain ⟨u, A3⟩ := uq
                  rw [e5, Option.bind_some] at hg
                  cases e6 : lcGoF pat p fF vs (xs.drop (i + 1)) (wipeA A3 vs) with
                  | none => rw [e6] at hg; cases hg
                  | some rw' =>
                    obtain ⟨rest', Az'⟩ := rw'
                    rw [e6] at hg
                    have er : (u :: rest', Az') = (rest, Az) := Option.some.inj hg
                    cases er
                    refine iteT ⟨B.more D, A2, u, A3, r2.same s3, e5, fun w H4 r4 k4 q4 => ?_⟩
                    have rw_ := r4.wipe (vs := vs)
                    rw [ew] at rw_
                    have e4D : H4 D = some (.lst vacc) := k4.lst (s3.lst (sx.lst eD)) hno
                    obtain ⟨rel5, kp5⟩ := rw_.updBan (vs := vacc ++ [w]) (.inl rfl) h0 hno
                    refine ⟨vacc, e4D, by rw [← ra.len]; exact Nat.lt_of_lt_of_le (by omega) hz, acc ++ [u], vacc ++ [w], rest', wipeA A3 vs, ((((s.trans (Kp.of sx)).trans (Kp.of s3)).trans k4).updN hD e4D), upd_same, ?_, by rw [List.length_append]; simp; omega, e6, by rw [List.append_assoc]; exact hy, rel5⟩
                    · have ra4 : RpL C.K (ban1 D B.on) H4 acc vacc := ((ra.same sx).same s3).kp (r2.same s3).bl (Bw.up k4)
                      exact (ra4.append (RpL.one q4)).kp rw_.bl kp5
        · intro H' ⟨acc, vacc, rest, A1, s, eD, ra, hl, hg, hy, rel⟩
          rw [List.drop_length] at hg
          have er : ([], A1) = (rest, Az) := Option.some.inj hg
          cases er
          rw [List.append_nil] at hy
          subst hy
          refine k _ H' ?_ (k1.trans s) ⟨D, vacc, rfl, ⟨eD, r1.bl.free hD⟩, ra.weak fun a h => .inr h⟩
          refine ⟨by rw [restA_len, rel.len, wipe_length], fun i d e => ?_, fun i t zs e => ?_, fun i j t t' zs ws a e1 e2 f1 f2 => ?_, fun a h => rel.bl a (.inr h), r1.b0, r1.m0, rel.kp, rel.tabs⟩
          · rcases restA_some e with ⟨h1, h2⟩ | ⟨h1, h2⟩
            · obtain ⟨v, f1, f2⟩ := r1.dat i d (getD_get h2)
              exact ⟨v, f1, f2.kp r1.bl (Bw.up s)⟩
            · obtain ⟨v, f1, f2⟩ := rel.dat i d h2
              rw [wipe_out' h1] at f1
              exact ⟨v, f1, f2.weak fun a h => .inr h⟩
          · rcases restA_some e with ⟨h1, h2⟩ | ⟨h1, h2⟩
            · have := hown i h1
              rw [h2] at this; cases this
            · obtain ⟨a, ws, f1, f2, f3, f4, f5⟩ := rel.own i _ zs h2
              rw [wipe_out' h1] at f1
              exact ⟨a, ws, f1, f2, f3, f4.weak fun a h => .inr h, f5⟩
          · have back : ∀ (i : Nat) t zs, (restA A0 Az vs)[i]? = some (some (.own t zs)) → i ∉ vs ∧ Az[i]? = some (some (.own t zs)) := fun i t zs e => by
              rcases restA_some e with ⟨h1, h2⟩ | h
              · have := hown i h1
                rw [h2] at this; cases this
              · exact h
            obtain ⟨n1, e1⟩ := back i _ zs e1
            obtain ⟨n2, e2⟩ := back j _ ws e2
            exact rel.inj i j _ _ zs ws a e1 e2 (by rw [wipe_out' n1]; exact f1) (by rw [wipe_out' n2]; exact f2)
    · cases ef
end
end DV

namespace DV
open PySem PySem.Spec PyProof.Rows L2
variable [TabC]

/-! # comprehensions as expressions -/
section
variable {X : Cx} {C : Cc} {elt tg iter : Expr} {ifs : List Expr} {scope : Scope} {own : List (Str × Nat)} {pos : Pos} {ks : List Nat} {pat : D → AE → Option AE} {p : AE → Option Bool}
theorem qts_nil {C : Cc} {X : Cx} : PTs X [] (tQT C fun _ => some true) := ⟨fun pins s σ H Q I ⟨B, A, b, r, e, k⟩ => pts_nil.run pins s σ H Q I (by cases e; exact k H (Sm.refl H))⟩
theorem qts_one {C : Cc} {X : Cx} {c : Expr} (h : PT X c (tQT C p)) : PTs X [c] (tQT C p) := pts_one h
theorem q_lc {src : AE → Option (List D)} {f : AE → Option D} (hc : X.calm = true) (hN : X.N.Nodup) (hi : PI X tg iter (tI C true src)) (ok : BlkOk X.N X.env.scope scope own)
    (hg : ∀ (s : Shared) (H : Hp) (L : Addr) (cl : List (Str × Addr)) (fp : List Addr), PG (X.blk s H scope (compEnvC scope cl L X.env) fp) tg (tG C ks pat)) (ht : ∀ (s : Shared) (H : Hp) (L : Addr) (cl : List (Str × Addr)) (fp : List Addr), PTs (X.blk s H scope (compEnvC scope cl L X.env) fp) ifs (tQT C p))
    (he : ∀ (s : Shared) (H : Hp) (L : Addr) (cl : List (Str × Addr)) (fp : List Addr), PE (X.blk s H scope (compEnvC scope cl L X.env) fp) elt (tQ C f)) (hks : ∀ i ∈ ks, i ∈ own.map (·.2) := by decide) (hs : ∀ x, foldedSetIterable iter X.env x = pure x := by intro _; rfl) :
    PE X (.ListComp elt [⟨tg, iter, ifs, 0⟩] scope pos) (tQ C (fLC src (own.map (·.2)) pat p f)) := PE_imp (pe_lc hc hN hi ok hg ht he hs) fun _ _ _ h => lc_q hks h
theorem f_lc {src : AE → Option (List D × AE)} {f : AE → Option (D × AE)} (hc : X.calm = true) (hN : X.N.Nodup) (hi : PI X tg iter (tIF C src)) (ok : BlkOk X.N X.env.scope scope own)
    (hg : ∀ (s : Shared) (H : Hp) (L : Addr) (cl : List (Str × Addr)) (fp : List Addr), PG (X.blk s H scope (compEnvC scope cl L X.env) fp) tg (tG C ks pat)) (ht : ∀ (s : Shared) (H : Hp) (L : Addr) (cl : List (Str × Addr)) (fp : List Addr), PTs (X.blk s H scope (compEnvC scope cl L X.env) fp) ifs (tQT C p))
    (he : ∀ (s : Shared) (H : Hp) (L : Addr) (cl : List (Str × Addr)) (fp : List Addr), PE (X.blk s H scope (compEnvC scope cl L X.env) fp) elt (tF C f)) (hks : ∀ i ∈ ks, i ∈ own.map (·.2) := by decide) (hs : ∀ x, foldedSetIterable iter X.env x = pure x := by intro _; rfl) :
    PE X (.ListComp elt [⟨tg, iter, ifs, 0⟩] scope pos) (tF C (gLC src (own.map (·.2)) pat p f)) := PE_imp (pe_lc hc hN hi ok hg ht he hs) fun _ _ _ h => lc_f hks h
end

/-! # defs and their promises -/
inductive Rs where
  | ok (d : D)
  | exc (c : Str) (fs : List (Str × D))
def ExOk (K : PySem.W.Frag) (cl : Str → Addr) (E : XK) (H : Hp) (c : Str) (fs : List (Str × D)) : Prop :=
  (fs = [] → ∀ H', Sm H H' → E (.ref (cl c)) none H') ∧
  (fs ≠ [] → ∀ H' dd vs, Sm H H' → Fr0 H dd → H' dd = some (.xd vs) → vs.map (·.1) = fs.map (·.1) → RpL K (fun _ => False) H' (fs.map (·.2)) (vs.map (·.2)) → E (.ref (cl c)) (some dd) H')
theorem ExOk.same {K : PySem.W.Frag} {cl : Str → Addr} {E : XK} {H H' : Hp} {c : Str} {fs : List (Str × D)} (h : ExOk K cl E H c fs) (s : Sm H H') : ExOk K cl E H' c fs :=
  ⟨fun e H2 s2 => h.1 e H2 (s.trans s2), fun e H2 dd vs s2 n q1 q2 q3 => h.2 e H2 dd vs (s.trans s2) (fun o z nt => n o (s.ob _ _ z nt) nt) q1 q2 q3⟩
/-- quiet defs: G tells the answer -/
def spP (K : PySem.W.Frag) (cl : Str → Addr) (n : Nat) (G : List D → Option Rs) : Sp := fun vs H Q E => ∃ B ds, BL B H ∧ TbOk H ∧ ds.length = n ∧ RpL K B H ds vs ∧
  match G ds with
  | some (.ok d) => ∀ v H', Sm H H' → Rp K B H' d v → Q v H'
  | some (.exc c fs) => ExOk K cl E H c fs
  | none => False
/-- defs that change their first argument, a list, in place -/
def spO (K : PySem.W.Frag) (n : Nat) (G : List D → List D → Option (D × List D)) : Sp := fun vs H Q _ => ∃ B a us xs ds vs', vs = .ref a :: vs' ∧ BL B H ∧ B a ∧ H a = some (.lst us) ∧ TbOk H ∧ RpL K B H xs us ∧ ds.length = n ∧ RpL K B H ds vs' ∧
  match G xs ds with
  | some (d, xs') => ∀ v H' us', Kp (fun b => b = a) H H' → H' a = some (.lst us') → RpL K B H' xs' us' → Rp K B H' d v → Q v H'
  | none => False
theorem passes_none {X : Cx} {P : Program} {w : World} : Passes (L2.CX P w) X (fun _ _ _ => False) := fun _ _ _ _ _ _ _ c => by
  obtain ⟨_, _, _, _, _, _, _, _, _, _, _, _, z⟩ := c
  exact z.elim
def okOf (o : Option Rs) : Option D := match o with
  | some (.ok d) => some d
  | _ => none
theorem okOf_inv {o : Option Rs} {d : D} (h : okOf o = some d) : o = some (.ok d) := by
  unfold okOf at h
  split at h
  · cases h; rfl
  · cases h
section
variable {X : Cx} {C : Cc} {pos p : Pos} {x : Str} {k : Nat} {f : Addr} {fd : FuncData} {ps : List Str} {n : Nat} {e : Expr} {es : List Expr} {fs : AE → Option (List D)} {fsF : AE → Option (List D × AE)} {G : List D → Option Rs}
def fCall (n : Nat) (G : List D → Option Rs) (fs : AE → Option (List D)) : AE → Option D := fun A => (fs A).bind fun ds => if ds.length = n then okOf (G ds) else none
def gCall (n : Nat) (G : List D → Option Rs) (fs : AE → Option (List D × AE)) : AE → Option (D × AE) := fun A => (fs A).bind fun q => if q.1.length = n then (okOf (G q.1)).map fun d => (d, q.2) else none
theorem q_call (F : FnOk X.prog X.w X.K X.mg X.base (L2.CX X.prog X.w) k f fd ps (spP X.K C.cl n G)) (hr : Room k X.A) (hg : Gl X x) (hm : X.mg x = some (.ref f)) (hk : PySem.W.keepIn X.K (.ref f) = true) (hb : Binds X.K fd ps [])
    (ha : PA X (e :: es) (tQA C fs)) (hdb : (x == ("__debug__" : Str)) = false := by decide) (he : starEach (e :: es) X.env = (false, eval e X.env) :: starEach es X.env := by rfl) (hpl : (backTo pos (starEach es X.env)).any (·.1) = false := by rfl) (hK : X.K = C.K := by rfl) :
    PE X (.Call (.Name x p) (e :: es) [] pos) (tQ C (fCall n G fs)) := PE_imp (pe_call F hr hg hm hk hb .nil passes_none ha hdb he hpl) fun σ H Q ⟨B, A, d, r, ef, kk⟩ => by
  unfold fCall at ef
  cases e1 : fs A with
  | none => rw [e1] at ef; cases ef
  | some ds =>
    rw [e1, Option.bind_some] at ef
    split at ef
    · rename_i hn
      have eG := okOf_inv ef
      refine ⟨B, A, ds, r, e1, fun vs H1 s1 q1 => ?_⟩
      show spP X.K C.cl n G (vs ++ []) H1 Q _
      rw [List.append_nil]
      rw [hK]
      refine ⟨B, ds, (r.same s1).bl, (r.same s1).tabs, hn, q1, ?_⟩
      rw [eG]
      exact fun v H' s q => kk v H' (s1.trans s) q
    · cases ef
/-- with lists in place among the arguments: the answer has no list within -/
def fCallR (n : Nat) (G : List D → Option Rs) (fs : AE → Option (List D)) : AE → Option D := fun A => (fs A).bind fun ds => if ds.length = n then (okOf (G ds)).bind fun d => if lf d then some d else none else none
theorem RqL.free {K : PySem.W.Frag} {B : Ban} {H : Hp} : ∀ {ds : List D} {vs : List V}, RqL K B H ds vs → RpL K (fun _ => False) H ds vs
  | [], _, h => h
  | d :: ds, _, ⟨x, r, e, h1, h2⟩ => ⟨x, r, e, by
      cases d with
      | v y => exact h1
      | tup zs => exact Rp.weak (fun _ z => z.elim) (d := .tup zs) h1
      | lst zs => obtain ⟨a, xs, e, s, r⟩ := h1; exact ⟨a, xs, e, ⟨s, fun z => z⟩, r.weak fun _ z => z.elim⟩, RqL.free h2⟩
theorem q_callR (F : FnOk X.prog X.w X.K X.mg X.base (L2.CX X.prog X.w) k f fd ps (spP X.K C.cl n G)) (hr : Room k X.A) (hg : Gl X x) (hm : X.mg x = some (.ref f)) (hk : PySem.W.keepIn X.K (.ref f) = true) (hb : Binds X.K fd ps [])
    (ha : PA X (e :: es) (tRA C fs)) (hdb : (x == ("__debug__" : Str)) = false := by decide) (he : starEach (e :: es) X.env = (false, eval e X.env) :: starEach es X.env := by rfl) (hpl : (backTo pos (starEach es X.env)).any (·.1) = false := by rfl) (hK : X.K = C.K := by rfl) :
    PE X (.Call (.Name x p) (e :: es) [] pos) (tQ C (fCallR n G fs)) := PE_imp (pe_call F hr hg hm hk hb .nil passes_none ha hdb he hpl) fun σ H Q ⟨B, A, d, r, ef, kk⟩ => by
  unfold fCallR at ef
  cases e1 : fs A with
  | none => rw [e1] at ef; cases ef
  | some ds =>
    rw [e1, Option.bind_some] at ef
    split at ef
    · rename_i hn
      cases e2 : okOf (G ds) with
      | none => rw [e2] at ef; cases ef
      | some d' =>
        rw [e2, Option.bind_some] at ef
        split at ef
        · rename_i hl
          cases ef
          have eG := okOf_inv e2
          refine ⟨B, A, ds, r, e1, fun vs H1 s1 q1 => ?_⟩
          show spP X.K C.cl n G (vs ++ []) H1 Q _
          rw [List.append_nil]
          rw [hK]
          refine ⟨fun _ => False, ds, fun _ z => z.elim, (r.same s1).tabs, hn, q1.free, ?_⟩
          rw [eG]
          exact fun v H' s q => kk v H' (s1.trans s) (q.lf hl)
        · cases ef
    · cases ef
theorem f_call (F : FnOk X.prog X.w X.K X.mg X.base (L2.CX X.prog X.w) k f fd ps (spP X.K C.cl n G)) (hr : Room k X.A) (hg : Gl X x) (hm : X.mg x = some (.ref f)) (hk : PySem.W.keepIn X.K (.ref f) = true) (hb : Binds X.K fd ps [])
    (ha : PA X (e :: es) (tFA C fsF)) (hdb : (x == ("__debug__" : Str)) = false := by decide) (he : starEach (e :: es) X.env = (false, eval e X.env) :: starEach es X.env := by rfl) (hpl : (backTo pos (starEach es X.env)).any (·.1) = false := by rfl) (hK : X.K = C.K := by rfl) :
    PE X (.Call (.Name x p) (e :: es) [] pos) (tF C (gCall n G fsF)) := PE_imp (pe_call F hr hg hm hk hb .nil passes_none ha hdb he hpl) fun σ H Q ⟨B, A, d, A', r, ef, kk⟩ => by
  unfold gCall at ef
  cases e1 : fsF A with
  | none => rw [e1] at ef; cases ef
  | some q =>
    obtain ⟨ds, A1⟩ := q
    rw [e1, Option.bind_some] at ef
    split at ef
    · rename_i hn
      cases e2 : okOf (G ds) with
      | none => rw [e2] at ef; cases ef
      | some d' =>
        rw [e2] at ef
        cases ef
        have eG := okOf_inv e2
        refine ⟨B, A, ds, _, r, e1, fun vs H1 r1 s1 q1 => ?_⟩
        show spP X.K C.cl n G (vs ++ []) H1 Q _
        rw [List.append_nil]
        rw [hK]
        refine ⟨B, ds, r1.bl, r1.tabs, hn, q1, ?_⟩
        rw [eG]
        exact fun v H' s q => kk v H' (r1.same s) (s1.trans (Kp.of s)) q
    · cases ef
/-- f(xs, ..), f changing xs, the own list in the slot i -/
def gCallO (i n : Nat) (G : List D → List D → Option (D × List D)) (fs : AE → Option (List D × AE)) : AE → Option (D × AE) := fun A => match A[i]? with
  | some (some (.own _ _)) => (fs A).bind fun q => match q.2[i]? with
    | some (some (.own t xs)) => if q.1.length = n then (G xs q.1).map fun w => (w.1, q.2.set i (some (.own t w.2))) else none
    | _ => none
  | _ => none
theorem f_callO {i : Nat} {G : List D → List D → Option (D × List D)} (F : FnOk X.prog X.w X.K X.mg X.base (L2.CX X.prog X.w) k f fd ps (spO X.K n G)) (hr : Room k X.A) (hg : Gl X x) (hm : X.mg x = some (.ref f)) (hk : PySem.W.keepIn X.K (.ref f) = true) (hb : Binds X.K fd ps [])
    (hv : PE X e (tVar i)) (ha : PA X es (tFA C fsF)) (hdb : (x == ("__debug__" : Str)) = false := by decide) (he : starEach (e :: es) X.env = (false, eval e X.env) :: starEach es X.env := by rfl) (hpl : (backTo pos (starEach es X.env)).any (·.1) = false := by rfl) (hK : X.K = C.K := by rfl) :
    PE X (.Call (.Name x p) (e :: es) [] pos) (tF C (gCallO i n G fsF)) := PE_imp (pe_call F hr hg hm hk hb .nil passes_none (pa_cons hv ha he) hdb he hpl) fun σ H Q ⟨B, A, d, A', r, ef, kk⟩ => by
  unfold gCallO at ef
  split at ef
  · rename_i xs0 h0
    obtain ⟨a, us0, f1, f2, f3, f4, f5⟩ := r.own i _ xs0 h0
    cases e1 : fsF A with
    | none => rw [e1] at ef; cases ef
    | some q =>
      obtain ⟨ds, A1⟩ := q
      rw [e1, Option.bind_some] at ef
      split at ef
      · rename_i xs hA1
        split at ef
        · rename_i hn
          cases e2 : G xs ds with
          | none => rw [e2] at ef; cases ef
          | some w =>
            obtain ⟨d', xs'⟩ := w
            rw [e2] at ef
            cases ef
            refine ⟨_, f1, B, A, ds, A1, r, e1, fun vs H1 r1 s1 q1 => ?_⟩
            show spO X.K n G ((V.ref a :: vs) ++ []) H1 Q _
            rw [List.append_nil]
            rw [hK]
            obtain ⟨a', us, g1, g2, g3, g4, g5⟩ := r1.own i _ xs hA1
            rw [f1] at g1; cases g1
            refine ⟨B, a, us, xs, ds, vs, rfl, r1.bl, B.sub a g3, g2, r1.tabs, g4, hn, q1, ?_⟩
            rw [e2]
            intro v H' us' k1 k2 k3 k4
            obtain ⟨r2, kp2⟩ := r1.setOwn hA1 f1 k1 k2 k3
            exact kk v H' r2 (s1.trans kp2) k4
        · cases ef
      · cases ef
  · cases ef
/-! ## own lists: pop -/
def gPop (i : Nat) : AE → Option (D × AE) := fun A => match A[i]? with
  | some (some (.own t xs)) => (xs[xs.length - 1]?).map fun d => (d, A.set i (some (.own t xs.dropLast)))
  | _ => none
def gPopAt (i : Nat) (f : AE → Option (D × AE)) : AE → Option (D × AE) := fun A => match A[i]? with
  | some (some (.own _ _)) => (f A).bind fun q => match q.2[i]?, q.1 with
    | some (some (.own t xs)), .v (.int j) => if decide (0 ≤ j ∧ j.natAbs < 2 ^ 63) then (xs[j.toNat]?).map fun d => (d, q.2.set i (some (.own t (xs.eraseIdx j.toNat)))) else none
    | _, _ => none
  | _ => none
theorem f_pop {i : Nat} {o : Expr} {apos : Pos} (ho : PE X o (tVar i)) (h : PE X (.Call (.Attribute o "pop" apos) [] [] pos) (tBM0 X.K "list" rPop (tVar i))) : PE X (.Call (.Attribute o "pop" apos) [] [] pos) (tF C (gPop i)) := PE_imp h fun σ H Q ⟨B, A, d, A', r, ef, kk⟩ => by
  unfold gPop at ef
  split at ef
  · rename_i xs hA
    cases e1 : xs[xs.length - 1]? with
    | none => rw [e1] at ef; cases ef
    | some y =>
      rw [e1] at ef; cases ef
      obtain ⟨a, us, g1, g2, g3, g4, g5⟩ := r.own i _ xs hA
      obtain ⟨u, hu, ru⟩ := g4.get e1
      rw [g4.len] at hu
      have k1 : Kp (fun b => b = a) H (upd H a (.lst us.dropLast)) := Kp.upd g2
      have kpB : Kp B.on H (upd H a (.lst us.dropLast)) := k1.mono fun b z => by rw [z]; exact B.sub a g3
      obtain ⟨r2, kp2⟩ := r.setOwn hA g1 k1 upd_same (g4.dropLast.kp r.bl kpB)
      exact ⟨_, g1, .inl ⟨rfl, us, .inl (.inl g2)⟩, a, us, u, rfl, rfl, g2, hu, kk u _ r2 kp2 (ru.kp r.bl kpB)⟩
  · cases ef
theorem seqIx_nat {j : Int} {n : Nat} (h0 : 0 ≤ j) (h : j.toNat < n) : seqIndex? j n = some j.toNat := PySem.StrLaws.seqIndex_nonneg h0 (by omega)
theorem f_popAt {i : Nat} {o a : Expr} {apos : Pos} {fF : AE → Option (D × AE)} (h : PE X (.Call (.Attribute o "pop" apos) [a] [] pos) (tBM X.K "list" rPopAt (tVar i) (tCons (tF C fF) tNil))) : PE X (.Call (.Attribute o "pop" apos) [a] [] pos) (tF C (gPopAt i fF)) := PE_imp h fun σ H Q ⟨B, A, d, A', r, ef, kk⟩ => by
  unfold gPopAt at ef
  split at ef
  · rename_i xs0 h0
    obtain ⟨a, us0, f1, f2, f3, f4, f5⟩ := r.own i _ xs0 h0
    cases e1 : fF A with
    | none => rw [e1] at ef; cases ef
    | some q =>
      obtain ⟨dj, A1⟩ := q
      rw [e1, Option.bind_some] at ef
      split at ef
      · rename_i xs j hA1 hj
        have hj' : dj = .int j := hj
        subst hj'
        split at ef
        · rename_i hz
          rw [decide_eq_true_eq] at hz
          cases e2 : xs[j.toNat]? with
          | none => rw [e2] at ef; cases ef
          | some y =>
            rw [e2] at ef; cases ef
            refine ⟨_, f1, .inl ⟨rfl, us0, .inl (.inl f2)⟩, B, A, _, A1, r, e1, fun v H1 r1 s1 q1 => ?_⟩
            cases (show v = .int j from q1)
            obtain ⟨a', us, g1, g2, g3, g4, g5⟩ := r1.own i _ xs hA1
            rw [f1] at g1; cases g1
            obtain ⟨u, hu, ru⟩ := g4.get e2
            have hlt : j.toNat < us.length := (List.getElem?_eq_some_iff.mp hu).1
            have k1 : Kp (fun b => b = a) H1 (upd H1 a (.lst (us.eraseIdx j.toNat))) := Kp.upd g2
            have kpB : Kp B.on H1 (upd H1 a (.lst (us.eraseIdx j.toNat))) := k1.mono fun b z => by rw [z]; exact B.sub a g3
            obtain ⟨r2, kp2⟩ := r1.setOwn hA1 f1 k1 upd_same ((g4.erase _).kp r1.bl kpB)
            exact ⟨a, us, j, j.toNat, u, rfl, rfl, g2, by omega, by omega, seqIx_nat hz.1 hlt, hu, kk u _ r2 (s1.trans kp2) (ru.kp r1.bl kpB)⟩
        · cases ef
      · cases ef
  · cases ef
end
end DV

namespace DV
open PySem PySem.Spec PyProof.Rows L2
variable [TabC]

/-! # statements -/
inductive Fl where
  | nx (A : AE)
  | rt (d : D) (A : AE)
  | bk (A : AE)
  | ct (A : AE)
  | ex (c : Str) (fs : List (Str × D)) (A : AE)
def Fin' (C : Cc) (B : Bw) (H : Hp) (D : Ends) : Option Fl → Prop
  | none => False
  | some (.nx A') => ∀ B' σ' H', Rel C B' A' σ' H' → Ext B H B' H' → D.nx σ' H'
  | some (.rt d A') => ∀ (B' : Bw) σ' H' v, Rel C B' A' σ' H' → Ext B H B' H' → Rp C.K C.B0 H' d v → D.rt v H'
  | some (.bk A') => ∀ B' σ' H', Rel C B' A' σ' H' → Ext B H B' H' → D.bk σ' H'
  | some (.ct A') => ∀ B' σ' H', Rel C B' A' σ' H' → Ext B H B' H' → D.ct σ' H'
  | some (.ex c fs A') => ∀ (B' : Bw) σ' H', Rel C B' A' σ' H' → Ext B H B' H' → ExOk C.K C.cl C.E H' c fs
def tS (C : Cc) (f : AE → Option Fl) : TS := fun D σ H => ∃ B A, Rel C B A σ H ∧ Fin' C B H D (f A)
theorem Fin'.from {C : Cc} {B B1 : Bw} {H H1 : Hp} {D : Ends} {o : Option Fl} (x : Ext B H B1 H1) (h : Fin' C B H D o) : Fin' C B1 H1 D o := by
  cases o with
  | none => exact h
  | some fl =>
    cases fl with
    | nx A => exact fun B' σ' H' r y => h B' σ' H' r (x.trans y)
    | rt d A => exact fun B' σ' H' v r y => h B' σ' H' v r (x.trans y)
    | bk A => exact fun B' σ' H' r y => h B' σ' H' r (x.trans y)
    | ct A => exact fun B' σ' H' r y => h B' σ' H' r (x.trans y)
    | ex c fs A => exact fun B' σ' H' r y => h B' σ' H' r (x.trans y)
def sSeq (f g : AE → Option Fl) : AE → Option Fl := fun A => (f A).bind fun fl => match fl with
  | .nx A' => g A'
  | r => some r
def sNil : AE → Option Fl := fun A => some (.nx A)
/-- the ends behind a first part -/
theorem Fin'.seq {C : Cc} {B : Bw} {H : Hp} {D : Ends} {f g : AE → Option Fl} {A : AE} (h : Fin' C B H D (sSeq f g A)) : Fin' C B H { D with nx := tS C g D } (f A) := by
  unfold sSeq at h
  cases e : f A with
  | none => rw [e] at h; exact h
  | some fl =>
    rw [e, Option.bind_some] at h
    cases fl with
    | nx A' => exact fun B' σ' H' r y => ⟨B', A', r, Fin'.from y h⟩
    | rt d A => exact h
    | bk A => exact h
    | ct A => exact h
    | ex c fs A => exact h
section
variable {X : Cx} {C : Cc} {pos : Pos} {st : Stmt} {rest a b : List Stmt} {f g : AE → Option Fl} {e : Expr} {q : AE → Option D} {qF : AE → Option (D × AE)}
theorem ss_nil : PSs X [] (tS C sNil) := PSs_imp pss_nil fun D σ H ⟨B, A, r, h⟩ => h B σ H r (Ext.refl B H)
theorem ss_cons (h1 : PS X st (tS C f)) (h2 : PSs X rest (tS C g)) : PSs X (st :: rest) (tS C (sSeq f g)) := PSs_imp (pss_cons h1 h2) fun D σ H ⟨B, A, r, h⟩ => ⟨B, A, r, h.seq⟩
theorem ss_one (h1 : PS X st (tS C f)) : PSs X [st] (tS C f) := pss_one h1
def sPass : AE → Option Fl := fun A => some (.nx A)
def sBreak : AE → Option Fl := fun A => some (.bk A)
def sCont : AE → Option Fl := fun A => some (.ct A)
theorem s_pass : PS X (.Pass pos) (tS C sPass) := PS_imp ps_pass fun D σ H ⟨B, A, r, h⟩ => h B σ H r (Ext.refl B H)
theorem s_break : PS X (.Break pos) (tS C sBreak) := PS_imp ps_break fun D σ H ⟨B, A, r, h⟩ => h B σ H r (Ext.refl B H)
theorem s_cont : PS X (.Continue pos) (tS C sCont) := PS_imp ps_continue fun D σ H ⟨B, A, r, h⟩ => h B σ H r (Ext.refl B H)
/-- return e -/
def sRet (q : AE → Option D) : AE → Option Fl := fun A => (q A).map fun d => .rt d A
def sRetF (q : AE → Option (D × AE)) : AE → Option Fl := fun A => (q A).map fun d => .rt d.1 d.2
theorem s_ret (h : PE X e (tQ C q)) : PS X (.Return (some e) pos) (tS C (sRet q)) := PS_imp (ps_ret h) fun D σ H ⟨B, A, r, hh⟩ => by
  unfold sRet at hh
  cases e1 : q A with
  | none => rw [e1] at hh; exact hh.elim
  | some d =>
    rw [e1] at hh
    exact ⟨B, A, d, r, e1, fun v H' s qq => hh B σ H' v (r.same s) (Ext.of (Kp.of s)) (qq.weak r.b0)⟩
theorem s_retF (h : PE X e (tF C qF)) : PS X (.Return (some e) pos) (tS C (sRetF qF)) := PS_imp (ps_ret h) fun D σ H ⟨B, A, r, hh⟩ => by
  unfold sRetF at hh
  cases e1 : qF A with
  | none => rw [e1] at hh; exact hh.elim
  | some d =>
    obtain ⟨d, A'⟩ := d
    rw [e1] at hh
    exact ⟨B, A, d, A', r, e1, fun v H' r' s qq => hh B σ H' v r' (Ext.of s) (qq.weak r.b0)⟩
/-- return x, x a list of the def's own -/
def sRetO (i : Nat) : AE → Option Fl := fun A => match A[i]? with
  | some (some (.own false xs)) => some (.rt (.lst xs) A)
  | _ => none
theorem s_retO {i : Nat} (h : PE X e (tVar i)) : PS X (.Return (some e) pos) (tS C (sRetO i)) := PS_imp (ps_ret h) fun D σ H ⟨B, A, r, hh⟩ => by
  unfold sRetO at hh
  split at hh
  · rename_i xs hA
    obtain ⟨a, us, g1, g2, g3, g4, g5⟩ := r.own i _ xs hA
    refine ⟨_, g1, hh B σ H _ r (Ext.refl B H) ⟨a, us, rfl, ⟨g2, ?_⟩, g4.weak r.b0⟩⟩
    exact (show Fr0 C.H0 a ∧ ¬ C.B0 a from g5).2
  · exact hh.elim
def sRetN : AE → Option Fl := fun A => some (.rt .non A)
theorem s_retN : PS X (.Return none pos) (tS C sRetN) := PS_imp ps_retN fun D σ H ⟨B, A, r, hh⟩ => hh B σ H .non r (Ext.refl B H) rfl
/-- x = e -/
def sSet (i : Nat) (q : AE → Option D) : AE → Option Fl := fun A => (q A).map fun d => .nx (A.set i (some (.dat d)))
def sSetF (i : Nat) (q : AE → Option (D × AE)) : AE → Option Fl := fun A => (q A).map fun d => .nx (d.2.set i (some (.dat d.1)))
theorem s_set {i : Nat} {x : Str} {pos' : Pos} (hN : X.N.Nodup) (hi : X.N[i]? = some x) (hx : Loc X.env.scope x) (h : PE X e (tQ C q)) (hs : swapsWith e (some (.Name x pos')) pos.line X.env = pure false := by rfl) (hf : X.fn x = true ∨ X.env.scope.names.lookup x = some .local := by first | exact .inl rfl | exact .inr rfl | assumption) :
    PS X (.Assign [.Name x pos'] e pos) (tS C (sSet i q)) := PS_imp (ps_set hN hi hx h hs hf) fun D σ H ⟨B, A, r, hh⟩ => by
  unfold sSet at hh
  cases e1 : q A with
  | none => rw [e1] at hh; exact hh.elim
  | some d =>
    rw [e1] at hh
    exact ⟨B, A, d, r, e1, fun v H' s qq => hh B _ H' ((r.same s).setDat qq) (Ext.of (Kp.of s))⟩
theorem s_setF {i : Nat} {x : Str} {pos' : Pos} (hN : X.N.Nodup) (hi : X.N[i]? = some x) (hx : Loc X.env.scope x) (h : PE X e (tF C qF)) (hs : swapsWith e (some (.Name x pos')) pos.line X.env = pure false := by rfl) (hf : X.fn x = true ∨ X.env.scope.names.lookup x = some .local := by first | exact .inl rfl | exact .inr rfl | assumption) :
    PS X (.Assign [.Name x pos'] e pos) (tS C (sSetF i qF)) := PS_imp (ps_set hN hi hx h hs hf) fun D σ H ⟨B, A, r, hh⟩ => by
  unfold sSetF at hh
  cases e1 : qF A with
  | none => rw [e1] at hh; exact hh.elim
  | some d =>
    obtain ⟨d, A'⟩ := d
    rw [e1] at hh
    exact ⟨B, A, d, A', r, e1, fun v H' r' s qq => hh B _ H' (r'.setDat qq) (Ext.of s)⟩
/-- x = [..] on one line -/
theorem s_setLc {i : Nat} {y : Str} {py : Pos} {elt tg iter : Expr} {ifs : List Expr} {scope : Scope} {own : List (Str × Nat)} {lpos spos : Pos} {src : AE → Option (List D)} {f : AE → Option D} {ks : List Nat} {pat : D → AE → Option AE} {p : AE → Option Bool}
    (hc : X.calm = true) (hN : X.N.Nodup) (hy : X.N[i]? = some y) (hyl : X.env.scope.names.lookup y = some .local) (hsw : swapsWith (.ListComp elt [⟨tg, iter, ifs, 0⟩] scope lpos) (some (.Name y py)) spos.line X.env = pure true) (hi : PI X tg iter (tI C true src)) (ok : BlkOk X.N X.env.scope scope own)
    (hg : ∀ (s : Shared) (H : Hp) (L : Addr) (cl : List (Str × Addr)) (fp : List Addr), PG (X.blk s H scope (compEnvC scope cl L X.env) fp) tg (tG C ks pat)) (ht : ∀ (s : Shared) (H : Hp) (L : Addr) (cl : List (Str × Addr)) (fp : List Addr), PTs (X.blk s H scope (compEnvC scope cl L X.env) fp) ifs (tQT C p))
    (he : ∀ (s : Shared) (H : Hp) (L : Addr) (cl : List (Str × Addr)) (fp : List Addr), PE (X.blk s H scope (compEnvC scope cl L X.env) fp) elt (tQ C f)) (hks : ∀ i ∈ ks, i ∈ own.map (·.2) := by decide) (hs : ∀ x, foldedSetIterable iter X.env x = pure x := by intro _; rfl) :
    PS X (.Assign [.Name y py] (.ListComp elt [⟨tg, iter, ifs, 0⟩] scope lpos) spos) (tS C (sSet i (fLC src (own.map (·.2)) pat p f))) := PS_imp (ps_setLc hc hN hy hyl hsw hi ok hg ht he hs) fun D σ H ⟨B, A, r, hh⟩ => by
  refine lc_q hks ?_
  unfold sSet at hh
  cases e1 : fLC src (own.map (·.2)) pat p f A with
  | none => rw [e1] at hh; exact hh.elim
  | some d =>
    rw [e1] at hh
    exact ⟨B, A, d, r, e1, fun v H' s qq => hh B _ H' ((r.same s).setDat qq) (Ext.of (Kp.of s))⟩
theorem s_setLcF {i : Nat} {y : Str} {py : Pos} {elt tg iter : Expr} {ifs : List Expr} {scope : Scope} {own : List (Str × Nat)} {lpos spos : Pos} {src : AE → Option (List D × AE)} {f : AE → Option (D × AE)} {ks : List Nat} {pat : D → AE → Option AE} {p : AE → Option Bool}
    (hc : X.calm = true) (hN : X.N.Nodup) (hy : X.N[i]? = some y) (hyl : X.env.scope.names.lookup y = some .local) (hsw : swapsWith (.ListComp elt [⟨tg, iter, ifs, 0⟩] scope lpos) (some (.Name y py)) spos.line X.env = pure true) (hi : PI X tg iter (tIF C src)) (ok : BlkOk X.N X.env.scope scope own)
    (hg : ∀ (s : Shared) (H : Hp) (L : Addr) (cl : List (Str × Addr)) (fp : List Addr), PG (X.blk s H scope (compEnvC scope cl L X.env) fp) tg (tG C ks pat)) (ht : ∀ (s : Shared) (H : Hp) (L : Addr) (cl : List (Str × Addr)) (fp : List Addr), PTs (X.blk s H scope (compEnvC scope cl L X.env) fp) ifs (tQT C p))
    (he : ∀ (s : Shared) (H : Hp) (L : Addr) (cl : List (Str × Addr)) (fp : List Addr), PE (X.blk s H scope (compEnvC scope cl L X.env) fp) elt (tF C f)) (hks : ∀ i ∈ ks, i ∈ own.map (·.2) := by decide) (hs : ∀ x, foldedSetIterable iter X.env x = pure x := by intro _; rfl) :
    PS X (.Assign [.Name y py] (.ListComp elt [⟨tg, iter, ifs, 0⟩] scope lpos) spos) (tS C (sSetF i (gLC src (own.map (·.2)) pat p f))) := PS_imp (ps_setLc hc hN hy hyl hsw hi ok hg ht he hs) fun D σ H ⟨B, A, r, hh⟩ => by
  refine lc_f hks ?_
  unfold sSetF at hh
  cases e1 : gLC src (own.map (·.2)) pat p f A with
  | none => rw [e1] at hh; exact hh.elim
  | some d =>
    obtain ⟨d, A'⟩ := d
    rw [e1] at hh
    exact ⟨B, A, d, A', r, e1, fun v H' r' s qq => hh B _ H' (r'.setDat qq) (Ext.of s)⟩
/-- target = e -/
def sAsg (pat : D → AE → Option AE) (q : AE → Option D) : AE → Option Fl := fun A => (q A).bind fun d => (pat d A).map .nx
def sAsgF (pat : D → AE → Option AE) (q : AE → Option (D × AE)) : AE → Option Fl := fun A => (q A).bind fun d => (pat d.1 d.2).map .nx
theorem s_asg {tg : Expr} {ks : List Nat} {pat : D → AE → Option AE} (h : PE X e (tQ C q)) (hg : PG X tg (tG C ks pat)) (hs : swapsWithSole [tg] e pos.line X.env = pure false := by rfl) (hw : swappedStores [tg] e X.env = pure none := by rfl)
    (h1 : (assignEach [tg] X.env).map (·.2) = [assign tg X.env] := by rfl) : PS X (.Assign [tg] e pos) (tS C (sAsg pat q)) := PS_imp (ps_asg h hg hs hw h1) fun D σ H ⟨B, A, r, hh⟩ => by
  unfold sAsg at hh
  cases e1 : q A with
  | none => rw [e1] at hh; exact hh.elim
  | some d =>
    rw [e1, Option.bind_some] at hh
    cases e2 : pat d A with
    | none => rw [e2] at hh; exact hh.elim
    | some A' =>
      rw [e2] at hh
      exact ⟨B, A, d, r, e1, fun v H' s qq => ⟨B, A, d, A', r.same s, qq, e2, fun σ' r' _ _ => hh B σ' H' r' (Ext.of (Kp.of s))⟩⟩
theorem s_asgF {tg : Expr} {ks : List Nat} {pat : D → AE → Option AE} (h : PE X e (tF C qF)) (hg : PG X tg (tG C ks pat)) (hs : swapsWithSole [tg] e pos.line X.env = pure false := by rfl) (hw : swappedStores [tg] e X.env = pure none := by rfl)
    (h1 : (assignEach [tg] X.env).map (·.2) = [assign tg X.env] := by rfl) : PS X (.Assign [tg] e pos) (tS C (sAsgF pat qF)) := PS_imp (ps_asg h hg hs hw h1) fun D σ H ⟨B, A, r, hh⟩ => by
  unfold sAsgF at hh
  cases e1 : qF A with
  | none => rw [e1] at hh; exact hh.elim
  | some d =>
    obtain ⟨d, A1⟩ := d
    rw [e1, Option.bind_some] at hh
    cases e2 : pat d A1 with
    | none => rw [e2] at hh; exact hh.elim
    | some A' =>
      rw [e2] at hh
      exact ⟨B, A, d, A1, r, e1, fun v H' r1 s qq => ⟨B, A1, d, A', r1, qq, e2, fun σ' r' _ _ => hh B σ' H' r' (Ext.of s)⟩⟩
/-- x, y = a, b (plain locals) -/
def sPar (i j : Nat) (q : AE → Option (List D)) : AE → Option Fl := fun A => (q A).bind fun ds => match ds with
  | [d, e] => some (.nx ((A.set i (some (.dat d))).set j (some (.dat e))))
  | _ => none
def sParF (i j : Nat) (q : AE → Option (List D × AE)) : AE → Option Fl := fun A => (q A).bind fun ds => match ds.1 with
  | [d, e] => some (.nx ((ds.2.set i (some (.dat d))).set j (some (.dat e))))
  | _ => none
theorem s_par {i j : Nat} {x y : Str} {e1 e2 : Expr} {px py pt : Pos} {kt k2 pt2} {fs : AE → Option (List D)} (hc : X.calm = true) (hN : X.N.Nodup) (hi : X.N[i]? = some x) (hj : X.N[j]? = some y) (hij : i ≠ j)
    (hx : X.env.scope.names.lookup x = some .local) (hy : X.env.scope.names.lookup y = some .local) (ha : PA X [e1, e2] (tQA C fs))
    (hw : swappedStores [.Tuple [.Name x px, .Name y py] kt pt] (.Tuple [e1, e2] k2 pt2) X.env = pure (some [x, y])) (hs : swapsWithSole [.Tuple [.Name x px, .Name y py] kt pt] (.Tuple [e1, e2] k2 pt2) pos.line X.env = pure false := by rfl) :
    PS X (.Assign [.Tuple [.Name x px, .Name y py] kt pt] (.Tuple [e1, e2] k2 pt2) pos) (tS C (sPar i j fs)) := PS_imp (ps_par hc hN hi hj hij hx hy ha hw hs) fun D σ H ⟨B, A, r, hh⟩ => by
  unfold sPar at hh
  cases e1 : fs A with
  | none => rw [e1] at hh; exact hh.elim
  | some ds =>
    rw [e1, Option.bind_some] at hh
    split at hh
    · refine ⟨B, A, _, r, e1, fun vs H' s qq => ?_⟩
      obtain ⟨v, vr, rfl, q1, w, wr, rfl, q2, q3⟩ := qq
      cases q3
      exact ⟨v, w, rfl, hh B _ H' (((r.same s).setDat q1).setDat q2) (Ext.of (Kp.of s))⟩
    · exact hh.elim
theorem s_parF {i j : Nat} {x y : Str} {e1 e2 : Expr} {px py pt : Pos} {kt k2 pt2} {fs : AE → Option (List D × AE)} (hc : X.calm = true) (hN : X.N.Nodup) (hi : X.N[i]? = some x) (hj : X.N[j]? = some y) (hij : i ≠ j)
    (hx : X.env.scope.names.lookup x = some .local) (hy : X.env.scope.names.lookup y = some .local) (ha : PA X [e1, e2] (tFA C fs))
    (hw : swappedStores [.Tuple [.Name x px, .Name y py] kt pt] (.Tuple [e1, e2] k2 pt2) X.env = pure (some [x, y])) (hs : swapsWithSole [.Tuple [.Name x px, .Name y py] kt pt] (.Tuple [e1, e2] k2 pt2) pos.line X.env = pure false := by rfl) :
    PS X (.Assign [.Tuple [.Name x px, .Name y py] kt pt] (.Tuple [e1, e2] k2 pt2) pos) (tS C (sParF i j fs)) := PS_imp (ps_par hc hN hi hj hij hx hy ha hw hs) fun D σ H ⟨B, A, r, hh⟩ => by
  unfold sParF at hh
  cases e1 : fs A with
  | none => rw [e1] at hh; exact hh.elim
  | some ds =>
    obtain ⟨ds, A1⟩ := ds
    rw [e1, Option.bind_some] at hh
    split at hh
    · rename_i d e hde
      have hde' : ds = [d, e] := hde
      subst hde'
      refine ⟨B, A, _, A1, r, e1, fun vs H' r1 s qq => ?_⟩
      obtain ⟨v, vr, rfl, q1, w, wr, rfl, q2, q3⟩ := qq
      cases q3
      exact ⟨v, w, rfl, hh B _ H' ((r1.setDat q1).setDat q2) (Ext.of s)⟩
    · exact hh.elim
/-- x, y = a, b where y becomes a new list of its own and x may too: the display of the new lists written by hand -/
def sExpr (q : AE → Option D) : AE → Option Fl := fun A => (q A).map fun _ => .nx A
def sExprF (q : AE → Option (D × AE)) : AE → Option Fl := fun A => (q A).map fun d => .nx d.2
theorem s_expr (h : PE X e (tQ C q)) (hs : swapsWith e none pos.line X.env = pure false := by rfl) : PS X (.Expr e pos) (tS C (sExpr q)) := PS_imp (ps_expr h hs) fun D σ H ⟨B, A, r, hh⟩ => by
  unfold sExpr at hh
  cases e1 : q A with
  | none => rw [e1] at hh; exact hh.elim
  | some d => rw [e1] at hh; exact ⟨B, A, d, r, e1, fun v H' s _ => hh B σ H' (r.same s) (Ext.of (Kp.of s))⟩
theorem s_exprF (h : PE X e (tF C qF)) (hs : swapsWith e none pos.line X.env = pure false := by rfl) : PS X (.Expr e pos) (tS C (sExprF qF)) := PS_imp (ps_expr h hs) fun D σ H ⟨B, A, r, hh⟩ => by
  unfold sExprF at hh
  cases e1 : qF A with
  | none => rw [e1] at hh; exact hh.elim
  | some d =>
    obtain ⟨d, A'⟩ := d
    rw [e1] at hh; exact ⟨B, A, d, A', r, e1, fun v H' r' s _ => hh B σ H' r' (Ext.of s)⟩
/-- if -/
def sIf (p : AE → Option Bool) (f g : AE → Option Fl) : AE → Option Fl := fun A => (p A).bind fun b => if b then f A else g A
def sIfF (p : AE → Option (Bool × AE)) (f g : AE → Option Fl) : AE → Option Fl := fun A => (p A).bind fun b => if b.1 then f b.2 else g b.2
theorem s_if {c : Expr} {p : AE → Option Bool} (hc : PT X c (tQT C p)) (ha : PSs X a (tS C f)) (hb : PSs X b (tS C g)) : PS X (.If c a b pos) (tS C (sIf p f g)) := PS_imp (ps_if hc ha hb) fun D σ H ⟨B, A, r, hh⟩ => by
  unfold sIf at hh
  cases e1 : p A with
  | none => rw [e1] at hh; exact hh.elim
  | some c =>
    rw [e1, Option.bind_some] at hh
    refine ⟨B, A, c, r, e1, fun H' s => ?_⟩
    have hh' := Fin'.from (Ext.of (Kp.of s)) hh
    cases c with
    | true => exact iteT ⟨B, A, r.same s, hh'⟩
    | false => exact iteF ⟨B, A, r.same s, hh'⟩
theorem s_ifF {c : Expr} {p : AE → Option (Bool × AE)} (hc : PT X c (tFT C p)) (ha : PSs X a (tS C f)) (hb : PSs X b (tS C g)) : PS X (.If c a b pos) (tS C (sIfF p f g)) := PS_imp (ps_if hc ha hb) fun D σ H ⟨B, A, r, hh⟩ => by
  unfold sIfF at hh
  cases e1 : p A with
  | none => rw [e1] at hh; exact hh.elim
  | some c =>
    obtain ⟨c, A'⟩ := c
    rw [e1, Option.bind_some] at hh
    refine ⟨B, A, c, A', r, e1, fun H' r' s => ?_⟩
    have hh' := Fin'.from (Ext.of s) hh
    cases c with
    | true => exact iteT ⟨B, A', r', hh'⟩
    | false => exact iteF ⟨B, A', r', hh'⟩
/-- x op= e -/
def sAug (i : Nat) (m : D → D → Option D) (q : AE → Option D) : AE → Option Fl := fun A => (fVar i A).bind fun x => (q A).bind fun y => (m x y).map fun z => .nx (A.set i (some (.dat z)))
def sAugF (i : Nat) (m : D → D → Option D) (q : AE → Option (D × AE)) : AE → Option Fl := fun A => (fVar i A).bind fun x => (q A).bind fun y => (m x y.1).map fun z => .nx (y.2.set i (some (.dat z)))
theorem s_augI {i : Nat} {x : Str} {pos' : Pos} {op : Operator} {fz : Int → Int → Int} (hN : X.N.Nodup) (hi : X.N[i]? = some x) (hx : Loc X.env.scope x) (h : PE X e (tQ C q)) (ho : PIp X op (ipI fz)) {m : D → D → Option D} (hm : ∀ x y z, m x y = some z → ∃ i j, x = .int i ∧ y = .int j ∧ z = .int (fz i j))
    (hf : X.fn x = true ∨ X.env.scope.names.lookup x = some .local := by first | exact .inl rfl | exact .inr rfl | assumption) : PS X (.AugAssign (.Name x pos') op e pos) (tS C (sAug i m q)) := PS_imp (ps_aug hN hi hx h ho hf) fun D σ H ⟨B, A, r, hh⟩ => by
  unfold sAug at hh
  cases e1 : fVar i A with
  | none => rw [e1] at hh; exact hh.elim
  | some dx =>
    rw [e1, Option.bind_some] at hh
    cases e2 : q A with
    | none => rw [e2] at hh; exact hh.elim
    | some dy =>
      rw [e2, Option.bind_some] at hh
      cases e3 : m dx dy with
      | none => rw [e3] at hh; exact hh.elim
      | some dz =>
        rw [e3] at hh
        obtain ⟨i', j', rfl, rfl, rfl⟩ := hm _ _ _ e3
        obtain ⟨v, f1, f2⟩ := r.dat i _ (fVar_inv e1)
        refine ⟨v, f1, B, A, _, r, e2, fun w H' s qq => ⟨i', j', f2, qq, hh B _ H' ((r.same s).setDat rfl) (Ext.of (Kp.of s))⟩⟩
def mAddI : D → D → Option D
  | .v (.int i), .v (.int j) => some (.int (i + j))
  | _, _ => none
theorem mAddI_inv (x y z : D) (h : mAddI x y = some z) : ∃ i j, x = .int i ∧ y = .int j ∧ z = .int (i + j) := by
  unfold mAddI at h
  split at h
  · cases h; exact ⟨_, _, rfl, rfl, rfl⟩
  · cases h
theorem mSub_inv (x y z : D) (h : mSub x y = some z) : ∃ i j, x = .int i ∧ y = .int j ∧ z = .int (i - j) := by
  unfold mSub at h
  split at h
  · cases h; exact ⟨_, _, rfl, rfl, rfl⟩
  · cases h
/-! ## own lists -/
/-- an expression that makes a new list -/
def tN (C : Cc) (f : AE → Option (List D × AE)) : TE := fun σ H Q => ∃ B A ds A', Rel C B A σ H ∧ f A = some (ds, A') ∧ ∀ H1 p vs, Rel C B A' σ H1 → Kp B.wr H H1 → H1 p = none → RpL C.K B.on H1 ds vs → Q (.ref p) (upd H1 p (.lst vs))
def sOwn (i : Nat) (f : AE → Option (List D × AE)) : AE → Option Fl := fun A => (f A).map fun q => .nx (q.2.set i (some (.own false q.1)))
theorem s_own {i : Nat} {x : Str} {pos' : Pos} {fN : AE → Option (List D × AE)} (hN : X.N.Nodup) (hi : X.N[i]? = some x) (hx : Loc X.env.scope x) (h : PE X e (tN C fN)) (hs : swapsWith e (some (.Name x pos')) pos.line X.env = pure false := by rfl) (hf : X.fn x = true ∨ X.env.scope.names.lookup x = some .local := by first | exact .inl rfl | exact .inr rfl | assumption) :
    PS X (.Assign [.Name x pos'] e pos) (tS C (sOwn i fN)) := PS_imp (ps_set hN hi hx h hs hf) fun D σ H ⟨B, A, r, hh⟩ => by
  unfold sOwn at hh
  cases e1 : fN A with
  | none => rw [e1] at hh; exact hh.elim
  | some q =>
    obtain ⟨ds, A'⟩ := q
    rw [e1] at hh
    exact ⟨B, A, ds, A', r, e1, fun H1 p vs r1 k hp rp => hh _ _ _ (r1.setNew hp rp) ((Ext.of k).trans (Ext.plus hp _))⟩
def nQ (f : AE → Option (List D)) : AE → Option (List D × AE) := fun A => (f A).map fun xs => (xs, A)
/-- [a, b, ..] -/
def nLst (f : AE → Option (List D × AE)) : AE → Option (List D × AE) := fun A => (f A).bind fun q => if szOk q.1.length then some q else none
theorem n_lst {es : List Expr} {fs : AE → Option (List D × AE)} (h : PA X es (tFA C fs)) : PE X (.List es pos) (tN C (nLst fs)) := PE_imp (pe_lst h) fun σ H Q ⟨B, A, ds, A', r, ef, k⟩ => by
  unfold nLst at ef
  cases e1 : fs A with
  | none => rw [e1] at ef; cases ef
  | some q =>
    obtain ⟨ds', A1⟩ := q
    rw [e1, Option.bind_some] at ef
    split at ef
    · rename_i hz
      cases ef
      exact ⟨B, A, ds, A', r, e1, fun vs H1 r1 s1 q1 => ⟨by rw [← q1.len]; exact szOk.le hz, fun p hp => k H1 p vs r1 s1 hp q1⟩⟩
    · cases ef
/-- list(range(..)) -/
def nLR (f : AE → Option (Int × Int)) : AE → Option (List D × AE) := fun A => (f A).bind fun p => if rgOk2 p then some (rngD p.1 p.2, A) else none
theorem n_listR {e : Expr} {f : AE → Option (Int × Int)} {p : Pos} (hc : X.calm = true) (hg : Gl X "list") (hm : X.mg "list" = none) (he : PRg X e (tQG C f)) (na : starEach [e] X.env = (false, eval e X.env) :: starEach [] X.env := by rfl) :
    PE X (.Call (.Name "list" p) [e] [] pos) (tN C (nLR f)) := PE_imp (pe_listRg hc hg hm he na) fun σ H Q ⟨B, A, d, A', r, ef, k⟩ => by
  unfold nLR at ef
  cases e1 : f A with
  | none => rw [e1] at ef; cases ef
  | some p =>
    rw [e1, Option.bind_some] at ef
    split at ef
    · rename_i hz
      cases ef
      exact ⟨B, A, p, r, e1, fun H1 s1 => ⟨rgOk2.to hz, fun q hq => k H1 q _ (r.same s1) (Kp.of s1) hq (rng_rep _ _)⟩⟩
    · cases ef
/-- list(x) -/
def nList (fs : AE → Option (List D)) : AE → Option (List D × AE) := fun A => (fs A).bind fun ds => match ds with
  | [.lst xs] => some (xs, A)
  | [.tup xs] => some (xs, A)
  | _ => none
theorem n_list {e : Expr} {fs : AE → Option (List D)} {p : Pos} (hg : Gl X "list") (hm : X.mg "list" = none) (hv : bootBuiltins "list" = some (.type "list")) (ha : PA X [e] (tRA C fs))
    (he : starEach [e] X.env = (false, eval e X.env) :: starEach [] X.env := by rfl) (hpl : (backTo pos (starEach [] X.env)).any (·.1) = false := by rfl) (hK : X.K = C.K := by rfl) : PE X (.Call (.Name "list" p) [e] [] pos) (tN C (nList fs)) :=
  PE_imp (pe_callTy call_list_of hg hm hv ha (by decide) (by decide) he hpl) fun σ H Q ⟨B, A, d, A', r, ef, k⟩ => by
    unfold nList at ef
    cases e1 : fs A with
    | none => rw [e1] at ef; cases ef
    | some ds =>
      rw [e1, Option.bind_some] at ef
      rw [hK]
      split at ef
      · cases ef
        refine ⟨B, A, _, r, e1, fun vs H1 s1 q1 => ?_⟩
        obtain ⟨x, rfl, a, xs, rfl, s2, r2⟩ := q1.one
        exact ⟨a, xs, rfl, .inl (SqL.of s2), fun l hl => k H1 l xs (r.same s1) (Kp.of s1) hl r2⟩
      · cases ef
        refine ⟨B, A, _, r, e1, fun vs H1 s1 q1 => ?_⟩
        obtain ⟨x, rfl, a, xs, rfl, s2, r2⟩ := q1.one
        exact ⟨a, xs, rfl, .inr s2, fun l hl => k H1 l xs (r.same s1) (Kp.of s1) hl r2⟩
      · cases ef
/-- xs * n -/
def nMul (f g : AE → Option D) : AE → Option (List D × AE) := fun A => (f A).bind fun x => (g A).bind fun y => match x, y with
  | .lst xs, .v (.int k) => if decide (k.natAbs < 2 ^ 63) && szOk (xs.length * k.toNat) then some ((List.replicate k.toNat xs).flatten, A) else none
  | _, _ => none
theorem n_mul {a b : Expr} {f g : AE → Option D} (ha : PE X a (tR C f)) (hb : PE X b (tQ C g)) : PE X (.BinOp a .Mult b pos) (tN C (nMul f g)) := PE_imp (pe_op op_rep ha hb) fun σ H Q ⟨B, A, d, A', r, ef, k⟩ => by
  unfold nMul at ef
  cases e1 : f A with
  | none => rw [e1] at ef; cases ef
  | some x =>
    cases e2 : g A with
    | none => rw [e1, e2] at ef; cases ef
    | some y =>
      rw [e1, e2, Option.bind_some, Option.bind_some] at ef
      split at ef
      · rename_i xs kk
        split at ef
        · rename_i hz
          cases ef
          rw [Bool.and_eq_true, decide_eq_true_eq] at hz
          refine ⟨B, A, _, r, e1, fun v H1 s1 q1 => ⟨B, A, _, r.same s1, e2, fun u H2 s2 q2 => ?_⟩⟩
          obtain ⟨a, us, rfl, t1, t2⟩ := q1
          cases (show u = .int kk from q2)
          exact ⟨a, kk, us, rfl, rfl, s2.lst t1, by omega, by omega, by rw [← t2.len]; exact szOk.le hz.2, fun p hp => k H2 p _ (r.same (s1.trans s2)) (Kp.of (s1.trans s2)) hp ((t2.same s2).repF _)⟩
        · cases ef
      · cases ef
/-- x.append(e) -/
def sApp (i : Nat) (q : AE → Option (D × AE)) : AE → Option Fl := fun A => match A[i]? with
  | some (some (.own _ _)) => (q A).bind fun d => match d.2[i]? with
    | some (some (.own t xs)) => if szOk (xs.length + 1) then some (.nx (d.2.set i (some (.own t (xs ++ [d.1]))))) else none
    | _ => none
  | _ => none
theorem s_append {i : Nat} {o a : Expr} {apos cpos : Pos} (h : PE X (.Call (.Attribute o "append" apos) [a] [] cpos) (tBM X.K "list" rAppend (tVar i) (tCons (tF C qF) tNil))) (hs : swapsWith (.Call (.Attribute o "append" apos) [a] [] cpos) none pos.line X.env = pure false := by rfl) :
    PS X (.Expr (.Call (.Attribute o "append" apos) [a] [] cpos) pos) (tS C (sApp i qF)) := PS_imp (ps_expr h hs) fun D σ H ⟨B, A, r, hh⟩ => by
  unfold sApp at hh
  split at hh
  · rename_i xs0 h0
    obtain ⟨a, us0, f1, f2, f3, f4, f5⟩ := r.own i _ xs0 h0
    cases e1 : qF A with
    | none => rw [e1] at hh; exact hh.elim
    | some q =>
      obtain ⟨d, A1⟩ := q
      rw [e1, Option.bind_some] at hh
      split at hh
      · rename_i xs hA1
        split at hh
        · rename_i hz
          refine ⟨_, f1, .inl ⟨rfl, us0, .inl (.inl f2)⟩, B, A, d, A1, r, e1, fun v H1 r1 s1 q1 => ?_⟩
          obtain ⟨a', us, g1, g2, g3, g4, g5⟩ := r1.own i _ xs hA1
          rw [f1] at g1; cases g1
          have hz' := szOk.le hz
          have k1 : Kp (fun b => b = a) H1 (upd H1 a (.lst (us ++ [v]))) := Kp.upd g2
          have kpB : Kp B.on H1 (upd H1 a (.lst (us ++ [v]))) := k1.mono fun b z => by rw [z]; exact B.sub a g3
          obtain ⟨r2, kp2⟩ := r1.setOwn hA1 f1 k1 upd_same ((g4.append (RpL.one q1)).kp r1.bl kpB)
          exact ⟨a, us, v, rfl, rfl, g2, by rw [← g4.len]; omega, hh B σ _ r2 (Ext.of (s1.trans kp2))⟩
        · exact hh.elim
      · exact hh.elim
  · exact hh.elim
/-- x[j] = e -/
def sSetI (i : Nat) (q : AE → Option (D × AE)) (j : AE → Option D) : AE → Option Fl := fun A => (q A).bind fun d => (j d.2).bind fun k => (asI k).bind fun k => match d.2[i]? with
    | some (some (.own t xs)) => if decide (0 ≤ k ∧ k < xs.length) then some (.nx (d.2.set i (some (.own t (xs.set k.toNat d.1))))) else none
    | _ => none
theorem ixN_nat {k : Int} {n : Nat} (h : 0 ≤ k ∧ k < n) : ixN n k = some k.toNat := by
  unfold ixN
  rw [if_pos h.1, if_pos h.2]
theorem s_setItem {i : Nat} {o ix : Expr} {tpos : Pos} {j : AE → Option D} (h : PS X (.Assign [.Subscript o ix tpos] e pos) (tAsg (tF C qF) (gSub (tVar i) (tQ C j) rSetL))) :
    PS X (.Assign [.Subscript o ix tpos] e pos) (tS C (sSetI i qF j)) := PS_imp h fun D σ H ⟨B, A, r, hh⟩ => by
  unfold sSetI at hh
  cases e1 : qF A with
  | none => rw [e1] at hh; exact hh.elim
  | some q =>
    obtain ⟨d, A1⟩ := q
    rw [e1, Option.bind_some] at hh
    cases e2 : j A1 with
    | none => rw [e2] at hh; exact hh.elim
    | some kk =>
      rw [e2, Option.bind_some] at hh
      cases e3 : asI kk with
      | none => rw [e3] at hh; exact hh.elim
      | some k =>
        rw [e3, Option.bind_some] at hh
        have ek := asI_inv e3
        subst ek
        split at hh
        · rename_i xs hA1
          split at hh
          · rename_i hz
            rw [decide_eq_true_eq] at hz
            refine ⟨B, A, d, A1, r, e1, fun v H1 r1 s1 q1 => ?_⟩
            obtain ⟨a, us, g1, g2, g3, g4, g5⟩ := r1.own i _ xs hA1
            refine ⟨_, g1, B, A1, _, r1, e2, fun u H2 s2 q2 => ?_⟩
            cases (show u = .int k from q2)
            have r2 := r1.same s2
            have g2' := s2.lst g2
            have k1 : Kp (fun b => b = a) H2 (upd H2 a (.lst (us.set k.toNat v))) := Kp.upd g2'
            have kpB : Kp B.on H2 (upd H2 a (.lst (us.set k.toNat v))) := k1.mono fun b z => by rw [z]; exact B.sub a g3
            obtain ⟨r3, kp3⟩ := r2.setOwn hA1 g1 k1 upd_same (((g4.same s2).set k.toNat (q1.same s2)).kp r2.bl kpB)
            exact ⟨a, us, k, k.toNat, rfl, rfl, g2', ixN_nat (by rw [← g4.len]; exact hz), hh B σ _ r3 (Ext.of ((s1.trans (Kp.of s2)).trans kp3))⟩
          · exact hh.elim
        · exact hh.elim
end
/-! # loops -/
section
variable {X : Cx} {C : Cc} {pos : Pos} {tg iter : Expr} {body : List Stmt} {ks : List Nat} {pat : D → AE → Option AE} {fb : AE → Option Fl} {src : AE → Option (List D × AE)}
def forGo (pat : D → AE → Option AE) (fb : AE → Option Fl) : List D → AE → Option Fl
  | [], A => some (.nx A)
  | x :: xs, A => (pat x A).bind fun A1 => (fb A1).bind fun fl => match fl with
    | .nx A2 => forGo pat fb xs A2
    | .ct A2 => forGo pat fb xs A2
    | .bk A2 => some (.nx A2)
    | r => some r
def sFor (src : AE → Option (List D × AE)) (pat : D → AE → Option AE) (fb : AE → Option Fl) : AE → Option Fl := fun A => (src A).bind fun s => forGo pat fb s.1 s.2
theorem s_for (hp : PassesOwn (model X.prog X.w) X.A X.env X.xe) (hc : X.calm = true) (hi : PI X tg iter (tIF C src)) (hg : PG X tg (tG C ks pat)) (hb : PSs X body (tS C fb)) (hs : ∀ x, foldedSetIterable iter X.env x = pure x := by intro _; rfl) :
    PS X (.For tg iter body [] pos) (tS C (sFor src pat fb)) := PS_imp (ps_for hp hc hi hg hb hs) fun D σ H ⟨B, A, r, hh⟩ => by
  unfold sFor at hh
  cases e1 : src A with
  | none => rw [e1] at hh; exact hh.elim
  | some sx =>
    obtain ⟨xs, A0⟩ := sx
    rw [e1, Option.bind_some] at hh
    refine ⟨B, A, xs, A0, r, e1, fun J H1 r1 k1 it => ?_⟩
    refine for_it it (fun i σ' H' => ∃ B' A1, Rel C B' A1 σ' H' ∧ Ext B H1 B' H' ∧ Fin' C B H1 D (forGo pat fb (xs.drop i) A1)) ⟨B, A0, r1, Ext.refl B H1, Fin'.from (Ext.of k1) hh⟩
      (fun i σ' H' _ ⟨B', A1, r', x, _⟩ => ⟨B'.on, x.2.1, x.1.mono fun b w => x.2.1.1 b (B.sub b w), r'.bl⟩) ?_ ?_
    · intro i x σ' H' H'' hi ⟨B', A1, r', xx, hf⟩ y
      obtain ⟨sx, d, hd, rp⟩ := y B'.on xx.2.1 (xx.1.mono fun b w => xx.2.1.1 b (B.sub b w)) r'.bl
      rw [drop_cons hd] at hf
      unfold forGo at hf
      cases e2 : pat d A1 with
      | none => rw [e2] at hf; exact hf.elim
      | some A2 =>
        rw [e2, Option.bind_some] at hf
        have r2 := r'.same sx
        have x2 := xx.same sx
        refine ⟨B', A1, d, A2, r2, rp, e2, fun σ2 r3 _ _ => ⟨B', A2, r3, ?_⟩⟩
        cases e3 : fb A2 with
        | none => rw [e3] at hf; exact hf.elim
        | some fl =>
          rw [e3, Option.bind_some] at hf
          cases fl with
          | nx A3 => exact fun B3 σ3 H3 r4 x4 => ⟨B3, A3, r4, x2.trans x4, hf⟩
          | ct A3 => exact fun B3 σ3 H3 r4 x4 => ⟨B3, A3, r4, x2.trans x4, hf⟩
          | bk A3 => exact fun B3 σ3 H3 r4 x4 => hf B3 σ3 H3 r4 (x2.trans x4)
          | rt d' A3 => exact fun B3 σ3 H3 v r4 x4 => hf B3 σ3 H3 v r4 (x2.trans x4)
          | ex c fs A3 => exact fun B3 σ3 H3 r4 x4 => hf B3 σ3 H3 r4 (x2.trans x4)
    · intro σ' H' ⟨B', A1, r', x, hf⟩
      rw [List.drop_length] at hf
      exact hf B' σ' H' r' x
def whGo (p : AE → Option (Bool × AE)) (fb : AE → Option Fl) : Nat → AE → Option Fl
  | 0, _ => none
  | n + 1, A => (p A).bind fun b => if b.1 then (fb b.2).bind fun fl => (match fl with
    | .nx A2 => whGo p fb n A2
    | .ct A2 => whGo p fb n A2
    | .bk A2 => some (.nx A2)
    | r => some r) else some (.nx b.2)
theorem s_while {c : Expr} {p : AE → Option (Bool × AE)} (fuel : Nat) (hp : PassesOwn (model X.prog X.w) X.A X.env X.xe) (hc : PT X c (tFT C p)) (hb : PSs X body (tS C fb)) : PS X (.While c body [] pos) (tS C (whGo p fb fuel)) :=
  PS_imp (ps_while hp hc hb) fun D σ H ⟨B, A, r, hh⟩ => by
    refine ⟨fun n σ' H' => ∃ B' A1, Rel C B' A1 σ' H' ∧ Ext B H B' H' ∧ Fin' C B H D (whGo p fb n A1), ⟨fuel, B, A, r, Ext.refl B H, hh⟩, fun n σ' H' ⟨B', A1, r', x, hf⟩ => ?_⟩
    cases n with
    | zero => exact hf.elim
    | succ n =>
      unfold whGo at hf
      cases e1 : p A1 with
      | none => rw [e1] at hf; exact hf.elim
      | some b =>
        obtain ⟨b, A2⟩ := b
        rw [e1, Option.bind_some] at hf
        refine ⟨B', A1, b, A2, r', e1, fun H2 r2 s2 => ?_⟩
        have x2 := x.trans (Ext.of s2)
        cases b with
        | false =>
          refine iteF ?_
          rw [if_neg (by exact Bool.false_ne_true)] at hf
          exact hf B' σ' H2 r2 x2
        | true =>
          rw [if_pos rfl] at hf
          refine iteT ⟨fun σ3 H3 => ∃ B3 A3, Rel C B3 A3 σ3 H3 ∧ Ext B H B3 H3 ∧ Fin' C B H D (whGo p fb n A3), fun σ3 H3 h3 => ⟨n, Nat.lt_succ_self n, h3⟩, B', A2, r2, ?_⟩
          cases e3 : fb A2 with
          | none => rw [e3] at hf; exact hf.elim
          | some fl =>
            rw [e3, Option.bind_some] at hf
            cases fl with
            | nx A3 => exact fun B3 σ3 H3 r4 x4 => ⟨B3, A3, r4, x2.trans x4, hf⟩
            | ct A3 => exact fun B3 σ3 H3 r4 x4 => ⟨B3, A3, r4, x2.trans x4, hf⟩
            | bk A3 => exact fun B3 σ3 H3 r4 x4 => hf B3 σ3 H3 r4 (x2.trans x4)
            | rt d' A3 => exact fun B3 σ3 H3 v r4 x4 => hf B3 σ3 H3 v r4 (x2.trans x4)
            | ex c fs A3 => exact fun B3 σ3 H3 r4 x4 => hf B3 σ3 H3 r4 (x2.trans x4)
end
end DV

namespace DV
open PySem PySem.Spec PyProof.Rows L2
variable [TabC]

/-! # calls that may raise; raise -/
def tX (C : Cc) (f : AE → Option Rs) : TE := fun σ H Q => ∃ B A, Rel C B A σ H ∧ match f A with
  | some (.ok d) => ∀ v H', Sm H H' → Rp C.K B.on H' d v → Q v H'
  | some (.exc c fs) => ExOk C.K C.cl C.E H c fs
  | none => False
section
variable {X : Cx} {C : Cc} {pos p : Pos} {x : Str} {k : Nat} {f : Addr} {fd : FuncData} {ps : List Str} {n : Nat} {e : Expr} {es : List Expr} {fs : AE → Option (List D)} {G : List D → Option Rs} {fx : AE → Option Rs}
def fX (n : Nat) (G : List D → Option Rs) (fs : AE → Option (List D)) : AE → Option Rs := fun A => (fs A).bind fun ds => if ds.length = n then G ds else none
theorem x_call (F : FnOk X.prog X.w X.K X.mg X.base (L2.CX X.prog X.w) k f fd ps (spP X.K C.cl n G)) (hr : Room k X.A) (hg : Gl X x) (hm : X.mg x = some (.ref f)) (hk : PySem.W.keepIn X.K (.ref f) = true) (hb : Binds X.K fd ps []) (hx : Passes (L2.CX X.prog X.w) X C.E)
    (ha : PA X (e :: es) (tQA C fs)) (hdb : (x == ("__debug__" : Str)) = false := by decide) (he : starEach (e :: es) X.env = (false, eval e X.env) :: starEach es X.env := by rfl) (hpl : (backTo pos (starEach es X.env)).any (·.1) = false := by rfl) (hK : X.K = C.K := by rfl) :
    PE X (.Call (.Name x p) (e :: es) [] pos) (tX C (fX n G fs)) := PE_imp (pe_call F hr hg hm hk hb .nil hx ha hdb he hpl) fun σ H Q ⟨B, A, r, hh⟩ => by
  unfold fX at hh
  cases e1 : fs A with
  | none => rw [e1] at hh; exact hh.elim
  | some ds =>
    rw [e1, Option.bind_some] at hh
    split at hh
    · rename_i d heq
      split at heq
      · rename_i hn
        refine ⟨B, A, ds, r, e1, fun vs H1 s1 q1 => ?_⟩
        show spP X.K C.cl n G (vs ++ []) H1 Q _
        rw [List.append_nil]
        rw [hK]
        refine ⟨B, ds, (r.same s1).bl, (r.same s1).tabs, hn, q1, ?_⟩
        rw [heq]
        exact fun v H' s q => hh v H' (s1.trans s) q
      · cases heq
    · rename_i c fs' heq
      split at heq
      · rename_i hn
        refine ⟨B, A, ds, r, e1, fun vs H1 s1 q1 => ?_⟩
        show spP X.K C.cl n G (vs ++ []) H1 Q _
        rw [List.append_nil]
        rw [hK]
        refine ⟨B, ds, (r.same s1).bl, (r.same s1).tabs, hn, q1, ?_⟩
        rw [heq]
        exact hh.same s1
      · cases heq
    · exact hh.elim
/-- quiet ones never raise -/
def xq (f : AE → Option D) : AE → Option Rs := fun A => (f A).map .ok
theorem ex {f : AE → Option D} (h : PE X e (tQ C f)) : PE X e (tX C (xq f)) := PE_imp h fun σ H Q ⟨B, A, r, hh⟩ => by
  unfold xq at hh
  cases e1 : f A with
  | none => rw [e1] at hh; exact hh.elim
  | some d => rw [e1] at hh; exact ⟨B, A, d, r, e1, hh⟩
def flX (A : AE) (k : D → Fl) : Option Rs → Option Fl
  | some (.ok d) => some (k d)
  | some (.exc c fs) => some (.ex c fs A)
  | none => none
def sExprX (q : AE → Option Rs) : AE → Option Fl := fun A => flX A (fun _ => .nx A) (q A)
def sSetX (i : Nat) (q : AE → Option Rs) : AE → Option Fl := fun A => flX A (fun d => .nx (A.set i (some (.dat d)))) (q A)
def sRetX (q : AE → Option Rs) : AE → Option Fl := fun A => flX A (fun d => .rt d A) (q A)
theorem s_exprX (h : PE X e (tX C fx)) (hs : swapsWith e none pos.line X.env = pure false := by rfl) : PS X (.Expr e pos) (tS C (sExprX fx)) := PS_imp (ps_expr h hs) fun D σ H ⟨B, A, r, hh⟩ => by
  unfold sExprX at hh
  refine ⟨B, A, r, ?_⟩
  cases e1 : fx A with
  | none => rw [e1] at hh; exact hh
  | some rs =>
    rw [e1] at hh
    cases rs with
    | ok d => exact fun v H' s q => hh B σ H' (r.same s) (Ext.of (Kp.of s))
    | exc c fs => exact hh B σ H r (Ext.refl B H)
theorem s_setX {i : Nat} {y : Str} {pos' : Pos} (hN : X.N.Nodup) (hi : X.N[i]? = some y) (hx : Loc X.env.scope y) (h : PE X e (tX C fx)) (hs : swapsWith e (some (.Name y pos')) pos.line X.env = pure false := by rfl) (hf : X.fn y = true ∨ X.env.scope.names.lookup y = some .local := by first | exact .inl rfl | exact .inr rfl | assumption) :
    PS X (.Assign [.Name y pos'] e pos) (tS C (sSetX i fx)) := PS_imp (ps_set hN hi hx h hs hf) fun D σ H ⟨B, A, r, hh⟩ => by
  unfold sSetX at hh
  refine ⟨B, A, r, ?_⟩
  cases e1 : fx A with
  | none => rw [e1] at hh; exact hh
  | some rs =>
    rw [e1] at hh
    cases rs with
    | ok d => exact fun v H' s q => hh B _ H' ((r.same s).setDat q) (Ext.of (Kp.of s))
    | exc c fs => exact hh B σ H r (Ext.refl B H)
theorem s_retX (h : PE X e (tX C fx)) : PS X (.Return (some e) pos) (tS C (sRetX fx)) := PS_imp (ps_ret h) fun D σ H ⟨B, A, r, hh⟩ => by
  unfold sRetX at hh
  refine ⟨B, A, r, ?_⟩
  cases e1 : fx A with
  | none => rw [e1] at hh; exact hh
  | some rs =>
    rw [e1] at hh
    cases rs with
    | ok d => exact fun v H' s q => hh B σ H' v (r.same s) (Ext.of (Kp.of s)) (q.weak r.b0)
    | exc c fs => exact hh B σ H r (Ext.refl B H)
end
/-- X(): a class without own __init__ -/
theorem pmk_own0 {X : Cx} {C : Addr} {bmB : List Value} {B newId initId : String} {x : Str} {p pos : Pos} (F : ExcBaseFacts B newId initId bmB) (q : PySem.W.excIn X.K C bmB newId = true) (gC : X.mg x = some (.ref C)) (kC : PySem.W.keepIn X.K (.ref C) = true) (r : Raises X (.ref C)) (hg : Gl X x)
    (hdb : (x == ("__debug__" : Str)) = false := by decide) : PMk X (.Call (.Name x p) [] [] pos) (fun _ H Q => Q (.ref C) none H) := by
  intro pins s σ H Q I h
  refine wpAny_Call_Name_kw (ld_glob I hg gC ?_ hdb)
  refine PySem.W.callWith_K0 I.kIn kC ?_
  show wpAny _ _ (call (.ref C) []) _ _ _
  obtain ⟨bm, N, nm, qn, bs, hdct, sn, sub, ab, col, dd, k0, k1, k2, k3, k5, mN, hC, hN, hni, T⟩ := exc_obj I.kIn q
  refine wpAny_call_exc_subT F T hC hN hni (fun h' e hm => ?_) (by show 0 ≤ sizeLine; rw [sizeLine_eq]; omega)
  exact mk_of I hm r h (I.hok.gone hm.new)
/-- what is known of an error's class at Ca -/
structure ErrC (K : PySem.W.Frag) (mg : Str → Option Value) (x : Str) (Ca : Addr) : Prop where
  q : PySem.W.excIn K Ca [.type "ValueError", .type "Exception", .type "BaseException", .type "object"] "ValueError.__new__" = true
  g : mg x = some (.ref Ca)
  k : PySem.W.keepIn K (.ref Ca) = true
  sb : PySem.W.subIn K (.ref Ca) (.type "BaseException") = some true
  ty : PySem.W.typeIn K (.ref Ca) = some (.type "type")
def sRaise (c : Str) : AE → Option Fl := fun A => some (.ex c [] A)
theorem s_raise {X : Cx} {C : Cc} {x : Str} {Ca : Addr} {p pos pos2 : Pos} (hc : X.calm = true) (T : ErrC X.K X.mg x Ca) (hcl : C.cl x = Ca) (tk : Takes X (fun cls d _ H => C.E cls d H)) (hg : Gl X x)
    (hdb : (x == ("__debug__" : Str)) = false := by decide) : PS X (.Raise (some (.Call (.Name x p) [] [] pos)) none pos2) (tS C (sRaise x)) :=
  PS_imp (ps_raise hc tk (pmk_own0 PySem.F.excBase_ValueError T.q T.g T.k (raises_own T.sb T.ty) hg hdb)) fun D σ H ⟨B, A, r, hh⟩ => by
    have h := (hh B σ H r (Ext.refl B H)).1 rfl H (Sm.refl H)
    rw [hcl] at h
    exact h

/-! # a def's promise by its body -/
def entry (n : Nat) (ds : List D) : AE := ds.map (fun d => some (.dat d)) ++ List.replicate (n - ds.length) none
def runP (n : Nat) (m : AE → Option Fl) (ds : List D) : Option Rs := match m (entry n ds) with
  | some (.rt d _) => some (.ok d)
  | some (.nx _) => some (.ok .non)
  | some (.ex c fs _) => some (.exc c fs)
  | _ => none
def entryO (n : Nat) (xs : List D) (ds : List D) : AE := some (.own true xs) :: (ds.map (fun d => some (.dat d)) ++ List.replicate (n - ds.length - 1) none)
def argOf (A : AE) : Option (List D) := match A[(0 : Nat)]? with
  | some (some (.own true xs)) => some xs
  | _ => none
def runO (n : Nat) (m : AE → Option Fl) (xs ds : List D) : Option (D × List D) := match m (entryO n xs ds) with
  | some (.rt d A) => (argOf A).map fun ys => (d, ys)
  | some (.nx A) => (argOf A).map fun ys => (.non, ys)
  | _ => none
theorem start_get {N : List Str} {vs : List V} {i : Nat} {v : V} (h : vs[i]? = some v) : (L2.start N vs)[i]? = some (some v) := by
  unfold L2.start
  have hi := (List.getElem?_eq_some_iff.mp h).1
  rw [List.getElem?_append_left (by rw [List.length_map]; exact hi), List.getElem?_map, h]; rfl
theorem entry_get {n : Nat} {ds : List D} {i : Nat} {x : AV} (h : (entry n ds)[i]? = some (some x)) : ∃ d, ds[i]? = some d ∧ x = .dat d := by
  unfold entry at h
  by_cases hi : i < ds.length
  · rw [List.getElem?_append_left (by rw [List.length_map]; exact hi), List.getElem?_map, List.getElem?_eq_getElem hi] at h
    exact ⟨ds[i], List.getElem?_eq_getElem hi, by simp at h; exact h.symm⟩
  · rw [List.getElem?_append_right (by rw [List.length_map]; omega), List.getElem?_replicate] at h
    split at h <;> cases h
section
variable {P : Program} {w : World} {K : PySem.W.Frag} {mg : Str → Option Value} {base : Heap}
theorem okXC {x qual : Str} {st : Stmt} {f : Addr} {fd : FuncData} {N ps : List Str} {k : Nat} {sp : Sp} (F : Fun K x qual st f fd) (S : FnScope N ps (defScope st)) (len : ∀ vs H Q E, sp vs H Q E → vs.length = ps.length)
    (hbody : ∀ (A : Around) (outer : List Env) (s : Shared) (H : Hp) (vs : List V) (Q : VK) (E : XK), Room k (A.deeper (envOfC qual (defScope st) s.heap.objs.size f fd.code)) → sp vs H Q E →
      ∃ t, PSs (cxOf (L2.CX P w) P w K mg base N qual (defScope st) f fd.code A outer s H E) (defBody st) t ∧ t { nx := fun _ H' => Q .non H', rt := Q } (L2.start N vs) H) : FnOk P w K mg base (L2.CX P w) (k + 1) f fd ps sp := by
  obtain ⟨oc, od, kV, doc, pm, an, cdv, ct, osl, rfl, lk, hcd⟩ := F.ex
  exact fn_of lk hcd S len fun A outer s H vs Q E hr hsp => hbody A outer s H vs Q E hr hsp
theorem fn_P {cl : Str → Addr} {x qual : Str} {st : Stmt} {f : Addr} {fd : FuncData} {N ps : List Str} {k : Nat} {m : AE → Option Fl} (F : Fun K x qual st f fd) (S : FnScope N ps (defScope st))
    (body : ∀ (A : Around) (outer : List Env) (s : Shared) (H : Hp) (E : XK) (H0 : Hp) (B0 M : Ban), Room k (A.deeper (envOfC qual (defScope st) s.heap.objs.size f fd.code)) →
      PSs (cxOf (L2.CX P w) P w K mg base N qual (defScope st) f fd.code A outer s H E) (defBody st) (tS ⟨K, H0, B0, M, E, cl⟩ m)) : FnOk P w K mg base (L2.CX P w) (k + 1) f fd ps (spP K cl ps.length (runP N.length m)) := by
  have hNl : ps.length ≤ N.length := by
    have := congrArg List.length S.pre
    rw [List.length_take] at this; omega
  refine okXC F S (fun vs H Q E ⟨B, ds, _, _, hl, r, _⟩ => by rw [← r.len]; exact hl) fun A outer s H vs Q E hr ⟨B, ds, bl, tb, hl, rp, hq⟩ => ⟨_, body A outer s H E H B (fun _ => False) hr, ?_⟩
  have rel : Rel ⟨K, H, B, fun _ => False, E, cl⟩ ⟨B, fun _ => False, fun _ z => z.elim⟩ (entry N.length ds) (L2.start N vs) H := by
    refine ⟨?_, fun i d e => ?_, fun i t xs e => ?_, fun i j t t' xs ys a e => ?_, bl, fun _ h => h, fun _ h => h.elim, Kp.refl _ H, tb⟩
    · unfold entry L2.start
      rw [List.length_append, List.length_append, List.length_map, List.length_map, List.length_replicate, List.length_replicate, rp.len]
    · obtain ⟨d', e1, e2⟩ := entry_get e
      cases e2
      obtain ⟨v, e3, r⟩ := rp.get e1
      exact ⟨v, start_get e3, r⟩
    · obtain ⟨d', e1, e2⟩ := entry_get e; cases e2
    · obtain ⟨d', e1, e2⟩ := entry_get e; cases e2
  refine ⟨_, _, rel, ?_⟩
  unfold runP at hq
  cases e1 : m (entry N.length ds) with
  | none => rw [e1] at hq; exact hq
  | some fl =>
    rw [e1] at hq
    cases fl with
    | nx A' => exact fun B' σ' H' r _ => hq .non H' (r.kp.sm fun _ z => z) rfl
    | rt d A' => exact fun B' σ' H' v r _ q => hq v H' (r.kp.sm fun _ z => z) q
    | bk A' => exact hq.elim
    | ct A' => exact hq.elim
    | ex c fs A' => exact fun B' σ' H' r _ => ExOk.same hq (r.kp.sm fun _ z => z)
theorem fn_O {cl : Str → Addr} {x qual : Str} {st : Stmt} {f : Addr} {fd : FuncData} {N ps : List Str} {k : Nat} {m : AE → Option Fl} (F : Fun K x qual st f fd) (S : FnScope N ps (defScope st)) (hp : 0 < ps.length)
    (body : ∀ (A : Around) (outer : List Env) (s : Shared) (H : Hp) (E : XK) (H0 : Hp) (B0 M : Ban), Room k (A.deeper (envOfC qual (defScope st) s.heap.objs.size f fd.code)) →
      PSs (cxOf (L2.CX P w) P w K mg base N qual (defScope st) f fd.code A outer s H E) (defBody st) (tS ⟨K, H0, B0, M, E, cl⟩ m)) : FnOk P w K mg base (L2.CX P w) (k + 1) f fd ps (spO K (ps.length - 1) (runO N.length m)) := by
  have hNl : ps.length ≤ N.length := by
    have := congrArg List.length S.pre
    rw [List.length_take] at this; omega
  refine okXC F S (fun vs H Q E ⟨B, a, us, xs, ds, vs', ev, _, _, _, _, _, hl, r, _⟩ => by rw [ev, List.length_cons, ← r.len]; omega) fun A outer s H vs Q E hr ⟨B, a, us, xs, ds, vs', ev, bl, hB, hH, tb, rx, hl, rp, hq⟩ => ⟨_, body A outer s H E H B (fun b => b = a) hr, ?_⟩
  subst ev
  have e0 : (entryO N.length xs ds)[0]? = some (some (.own true xs)) := rfl
  have eS : ∀ {i : Nat} {x : AV}, (entryO N.length xs ds)[i + 1]? = some (some x) → ∃ d, ds[i]? = some d ∧ x = .dat d := fun {i x} h => by
    unfold entryO at h
    rw [List.getElem?_cons_succ] at h
    have h' : (entry (N.length - 1) ds)[i]? = some (some x) := by
      unfold entry
      have : N.length - 1 - ds.length = N.length - ds.length - 1 := by omega
      rw [this]; exact h
    exact entry_get h'
  have rel : Rel ⟨K, H, B, fun b => b = a, E, cl⟩ ⟨B, fun b => b = a, fun _ z => by rw [z]; exact hB⟩ (entryO N.length xs ds) (L2.start N (.ref a :: vs')) H := by
    refine ⟨?_, fun i d e => ?_, fun i t ys e => ?_, fun i j t t' ys zs p e1 e2 _ _ => ?_, bl, fun _ h => h, fun _ h => by rw [h]; exact hB, Kp.refl _ H, tb⟩
    · unfold entryO L2.start
      rw [List.length_cons, List.length_append, List.length_append, List.length_map, List.length_map, List.length_replicate, List.length_replicate, List.length_cons, rp.len]
      have := rp.len
      omega
    · cases i with
      | zero => rw [e0] at e; cases e
      | succ i =>
        obtain ⟨d', e1, e2⟩ := eS e
        cases e2
        obtain ⟨v, e3, r⟩ := rp.get e1
        exact ⟨v, start_get (by rw [List.getElem?_cons_succ]; exact e3), r⟩
    · cases i with
      | zero => rw [e0] at e; cases e; exact ⟨a, us, start_get rfl, hH, rfl, rx, rfl⟩
      | succ i => obtain ⟨d', e1, e2⟩ := eS e; cases e2
    · cases i with
      | succ i => obtain ⟨d', e1, e2⟩ := eS e1; cases e2
      | zero =>
        cases j with
        | zero => rfl
        | succ j => obtain ⟨d', e1, e2⟩ := eS e2; cases e2
  refine ⟨_, _, rel, ?_⟩
  have fin : ∀ (B' : Bw) (A' : AE) (σ' : L2.St) (H' : Hp) (ys : List D), Rel ⟨K, H, B, fun b => b = a, E, cl⟩ B' A' σ' H' → argOf A' = some ys → Kp (fun b => b = a) H H' ∧ ∃ us', H' a = some (.lst us') ∧ RpL K B H' ys us' := fun B' A' σ' H' ys r ea => by
    refine ⟨r.kp, ?_⟩
    unfold argOf at ea
    split at ea
    · rename_i zs hA
      cases ea
      obtain ⟨a', us', g1, g2, g3, g4, g5⟩ := r.own 0 true _ hA
      have : a' = a := g5
      subst this
      exact ⟨us', g2, g4.weak r.b0⟩
    · cases ea
  unfold runO at hq
  cases e1 : m (entryO N.length xs ds) with
  | none => rw [e1] at hq; exact hq
  | some fl =>
    rw [e1] at hq
    cases fl with
    | nx A' =>
      intro B' σ' H' r _
      cases ea : argOf A' with
      | none => dsimp only at hq; rw [ea] at hq; exact (show False from hq).elim
      | some ys =>
        dsimp only at hq
        rw [ea] at hq
        obtain ⟨k1, us', k2, k3⟩ := fin B' A' σ' H' ys r ea
        exact hq .non H' us' k1 k2 k3 rfl
    | rt d A' =>
      intro B' σ' H' v r _ q
      cases ea : argOf A' with
      | none => dsimp only at hq; rw [ea] at hq; exact (show False from hq).elim
      | some ys =>
        dsimp only at hq
        rw [ea] at hq
        obtain ⟨k1, us', k2, k3⟩ := fin B' A' σ' H' ys r ea
        exact hq v H' us' k1 k2 k3 q
    | bk A' => exact hq.elim
    | ct A' => exact hq.elim
    | ex c fs A' => exact hq.elim
end
end DV

namespace DV
open PySem PySem.Spec PyProof.Rows L2
variable [TabC]

/-! # sum of a tuple of ints -/
section
variable {prog : Program} {w : World} {A : Around} {E : Value → Shared → Prop} {s : Shared} {l : Addr}
theorem sum_tup {its : List Value} {ns : List Int} {Q : Value → Shared → Prop} (hh : A.handled = none) (hl : s.heap.IsTuple l its.toArray) (hi : IntsAre its ns)
    (h : ∀ h' tk t', (∀ b o, s.heap.get? b = some o → h'.get? b = some o) → Q (.int ns.sum t') { s with heap := h', toks := tk }) : wpAny (model prog w) A (call (.builtin "sum") [.ref l]) Q E s := by
  obtain ⟨xs, e⟩ := hi.allInts.items
  have hn : numsOf (intItems xs).toList = ns := by rw [← e]; exact hi.numsOf
  rw [nums_intItems] at hn
  rw [e] at hl
  have hlt : l < s.heap.objs.size := by obtain ⟨_, e, _⟩ := id hl; exact Heap.lt_size e
  have hne : l ≠ s.heap.objs.size := Nat.ne_of_lt hlt
  refine call_sum_walkG (wpAny_pyIter_tuple hl ⟨_, _, _, _, _, _, numAt xs, rfl, Walks.tuple (A := A.in1) hh _ l hne (intItems xs), ⟨⟨_, Heap.get?_push_size _ rfl, rfl, rfl⟩, hl.push _⟩, fun b hb => ?_, (fun _ _ => intItems_at), fun h' tk t' hk => ?_⟩)
  · show b < (s.heap.push _).objs.size
    rw [Heap.size_push]
    rcases List.mem_cons.mp hb with rfl | hb
    · exact Nat.lt_succ_self _
    · rcases List.mem_cons.mp hb with rfl | hb
      · exact Nat.lt_succ_of_lt hlt
      · cases hb
  · have := h h' tk t' fun b o e => hk b o (fun hm => by
      rcases List.mem_cons.mp hm with e1 | hm
      · have := Heap.lt_size e; rw [e1] at this; exact Nat.lt_irrefl _ this
      · cases hm) (Heap.get?_push_of_some _ e)
    rw [preSum_eq, List.take_of_length_le (by simp [intItems]), hn]; exact this
end
def mSumA : List D → Option D
  | [.lst xs] => (intsOf xs).map fun ns => .int ns.sum
  | [.tup xs] => (intsOf xs).map fun ns => .int ns.sum
  | _ => none
section
variable {X : Cx}
theorem c_sumA (hc : X.calm = true) : CallR X (.builtin "sum") (rC X.K mSumA) := by
  intro pins s σ H vs us Q I r h
  obtain ⟨B, ds, z, bl, hd, em, q⟩ := h
  unfold mSumA at em
  split at em
  · exact c_sum hc pins s σ H vs us Q I r ⟨B, _, z, bl, hd, em, q⟩
  · rename_i xs
    cases e1 : intsOf xs with
    | none => rw [e1] at em; cases em
    | some ns =>
      rw [e1] at em; cases em
      obtain ⟨x, rfl, a, ys, rfl, s1, r1⟩ := hd.one
      rw [intsOf_inv e1] at r1
      rw [r1.ints'] at s1
      obtain ⟨its, rv, hl, _⟩ := I.tuple s1
      rw [Vals.ref1 r]
      exact sum_tup (I.ok.hd hc) (show s.heap.IsTuple a its.toArray from hl) rv.ints fun h' tk t' hk => ⟨.int _, H, I.kept hk, ⟨_, rfl⟩, q _ _ (Sm.refl _) rfl⟩
  · cases em
/-! # flat lists: index, count -/
theorem countP_eqU {y : V} {uy : Value} : ∀ {ys : List V} {us : List Value}, ys.all flatV = true → Vals ys us → us.countP (eqU y) = ys.countP fun z => eqV z y
  | _, _, _, .nil => rfl
  | _ :: ys, _ :: us, f, .cons r rs => by
    rw [List.all_cons, Bool.and_eq_true] at f
    rw [List.countP_cons, List.countP_cons, countP_eqU (uy := uy) f.2 rs, eqU_of r f.1]
def rCount (K : PySem.W.Frag) : V → List V → Hp → VK → Prop := fun x xs H Q => ∃ (a : Addr) (ys : List V) (y : V), x = V.ref a ∧ xs = [y] ∧ SqL K H a ys ∧ flatV y = true ∧ ys.all flatV = true ∧ Q (.int (ys.countP (fun z => eqV z y) : Nat)) H
theorem mt_countF : MtR X "list.count" (rCount X.K) := by
  intro pins s σ H x xs v us Q I rx rxs h
  obtain ⟨a, ys, y, rfl, rfl, hs, fy, fys, q⟩ := h
  cases rx
  cases rxs with
  | cons ry rt =>
    rename_i uy ut
    cases rt
    obtain ⟨its, rv, ⟨⟨cls, dd, data, sl⟩, n, ho, hc, hdn, hd⟩, hlen⟩ := I.list hs
    simp only at hc hd
    subst hc hd
    refine call_meets PySem.F.slot_list_count ⟨_, ho, rfl⟩ PySem.F.entry_list_count (PySem.F.args_list_count_2 _ _)
      (SeqAt.list_countAt a its.toArray n dd sl uy (eqU y)) ⟨ho, fun u' hu' => mem_eqAt ry fy rv fys u' (by simpa using hu'), ?_⟩
    refine ⟨.int (ys.countP (fun z => eqV z y) : Nat), H, I.tok _, ⟨s.toks, ?_⟩, q⟩
    show Value.int ((its.toArray.toList.countP (eqU y) : Nat) : Int) s.toks = _
    rw [show its.toArray.toList = its from rfl, countP_eqU (uy := uy) fys rv]
variable {C : Cc} {o a : Expr} {apos pos : Pos} {f g : AE → Option D}
def mCount : D → D → Option D
  | .lst ys, .v y => if flatV y then (flatsOf ys).map fun zs => .int (zs.countP (fun z => eqV z y) : Nat) else none
  | _, _ => none
def mIndex : D → D → Option D
  | .lst ys, .v y => if flatV y then (flatsOf ys).bind fun zs => (zs.findIdx? fun z => eqV z y).map fun j => .int (j : Nat) else none
  | _, _ => none
theorem q_count (h : PE X (.Call (.Attribute o "count" apos) [a] [] pos) (tBM X.K "list" (rCount X.K) (tR C f) (tCons (tQ C g) tNil))) (hK : X.K = C.K := by rfl) : PE X (.Call (.Attribute o "count" apos) [a] [] pos) (tQ C (fB mCount f g)) := PE_imp h fun σ H Q ⟨B, A, d, r, ef, k⟩ => by
  obtain ⟨x, y, h1, h2, h3⟩ := fB_inv ef
  unfold mCount at h3
  split at h3
  · rename_i ys y
    split at h3
    · rename_i fy
      cases e1 : flatsOf ys with
      | none => rw [e1] at h3; cases h3
      | some zs =>
        rw [e1] at h3; cases h3
        obtain ⟨e3, fz⟩ := flatsOf_inv e1
        refine ⟨B, A, _, r, h1, fun v H1 s1 q1 => ?_⟩
        obtain ⟨a, us, rfl, t1, t2⟩ := q1
        rw [e3] at t2
        rw [RpL.vals' t2] at t1
        refine ⟨.inl ⟨rfl, _, .inl (.inl t1)⟩, B, A, _, r.same s1, h2, fun u H2 s2 q2 => ?_⟩
        cases (show u = y from q2)
        exact ⟨a, zs, y, rfl, rfl, by rw [hK]; exact SqL.of (s2.lst t1), fy, fz, k _ _ (s1.trans s2) rfl⟩
    · cases h3
  · cases h3
theorem q_index (h : PE X (.Call (.Attribute o "index" apos) [a] [] pos) (tBM X.K "list" (rIndex X.K) (tR C f) (tCons (tQ C g) tNil))) (hK : X.K = C.K := by rfl) : PE X (.Call (.Attribute o "index" apos) [a] [] pos) (tQ C (fB mIndex f g)) := PE_imp h fun σ H Q ⟨B, A, d, r, ef, k⟩ => by
  obtain ⟨x, y, h1, h2, h3⟩ := fB_inv ef
  unfold mIndex at h3
  split at h3
  · rename_i ys y
    split at h3
    · rename_i fy
      cases e1 : flatsOf ys with
      | none => rw [e1] at h3; cases h3
      | some zs =>
        rw [e1, Option.bind_some] at h3
        cases e2 : zs.findIdx? (fun z => eqV z y) with
        | none => rw [e2] at h3; cases h3
        | some j =>
          rw [e2] at h3; cases h3
          obtain ⟨e3, fz⟩ := flatsOf_inv e1
          obtain ⟨hj, hjy, hno⟩ := List.findIdx?_eq_some_iff_getElem.mp e2
          refine ⟨B, A, _, r, h1, fun v H1 s1 q1 => ?_⟩
          obtain ⟨a, us, rfl, t1, t2⟩ := q1
          rw [e3] at t2
          rw [RpL.vals' t2] at t1
          refine ⟨.inl ⟨rfl, _, .inl (.inl t1)⟩, B, A, _, r.same s1, h2, fun u H2 s2 q2 => ?_⟩
          cases (show u = y from q2)
          refine ⟨a, zs, y, j, zs[j], rfl, rfl, by rw [hK]; exact SqL.of (s2.lst t1), fy, fz, List.getElem?_eq_getElem hj, hjy, fun m z' hm hz' => ?_, k _ _ (s1.trans s2) rfl⟩
          obtain ⟨hm', e4⟩ := List.getElem?_eq_some_iff.mp hz'
          rw [← e4]
          simpa using hno m hm
    · cases h3
  · cases h3
end
end DV

namespace DV
open PySem PySem.Spec PyProof.Rows L2
variable [TabC]

/-! # f(lambda: e), f a def that calls what it got and tells of what is raised -/
def FsOk (K : PySem.W.Frag) (dd : Option Addr) (fs : List (Str × D)) (H : Hp) : Prop := (fs = [] → dd = none) ∧ (fs ≠ [] → ∃ a vs, dd = some a ∧ H a = some (.xd vs) ∧ vs.map (·.1) = fs.map (·.1) ∧ RpL K (fun _ => False) H (fs.map (·.2)) (vs.map (·.2)))
/-- what is told, by what came of the lambda -/
def TTw (K : PySem.W.Frag) (cl : Str → Addr) (W : Rs → Option D) : (XK → Hp → VK → Prop) → Hp → VK → Prop := fun tl H Q => TbOk H ∧ ∀ (E1 : XK) (Q1 : VK),
  (∀ cls dd H', (∃ c fs d, cls = .ref (cl c) ∧ TbOk H' ∧ FsOk K dd fs H' ∧ W (.exc c fs) = some d ∧ ∀ v H'', Sm H' H'' → Rp K (fun _ => False) H'' d v → Q v H'') → E1 cls dd H') →
  (∀ v H', (∃ d0 d, W (.ok d0) = some d ∧ TbOk H' ∧ ∀ v' H'', Sm H' H'' → Rp K (fun _ => False) H'' d v' → Q v' H'') → Q1 v H') → tl E1 H Q1
theorem Rel.withE {C : Cc} {B : Bw} {A : AE} {σ : L2.St} {H : Hp} {E1 : XK} (r : Rel C B A σ H) : Rel ⟨C.K, C.H0, C.B0, C.M, E1, C.cl⟩ B A σ H := ⟨r.len, r.dat, r.own, r.inj, r.bl, r.b0, r.m0, r.kp, r.tabs⟩
def gWord (W : Rs → Option D) (g : AE → Option Rs) : AE → Option (D × AE) := fun A => (g A).bind fun rs => (W rs).bind fun d => if lf d then some (d, A) else none
section
variable {X : Cx} {C : Cc}
theorem f_word {W : Rs → Option D} {g : AE → Option Rs} {x a : Str} {st : Stmt} {gf c P : Addr} {fd : FuncData} {k : Nat} {Ng : List Str} {params : Arguments} {body : Expr} {scope : Scope} {p lpos pos : Pos}
    (F : Fun X.K x x st gf fd) (hg : Gl X x) (hm : X.mg x = some (.ref gf)) (hb : L2.Binds X.K fd [a] []) (Sg : FnScope Ng [a] (defScope st)) (hNg : Ng[0]? = some a) (hva : Vis (defScope st) a)
    (hG : LamX.GivesTo X Ng x (defScope st) gf fd.code (defBody st) a (X.env.qual ++ "<lambda>") (TTw X.K C.cl W))
    (TB : LamX.TabB X.base X.mg c P) (hcode : X.env.code = .ref c) (hmT : (P, X.env.qual ++ "<lambda>") ∈ TabC.T) (hu : ∀ p ∈ TabC.T, p.1 = P → p.2 = X.env.qual ++ "<lambda>") (hr : Room (k + 2) X.A) (L : LamX.LamS X.env.scope scope) (hdef : defaultsOf params X.env = ([], []))
    (hbind : ∀ (q : Str) (cl : List (Str × Addr)) (pm cv ctv : Value), bindArgs (PySem.W.kla_fn "<lambda>" q params body scope cl pm cv ctv) ⟨[], []⟩ = pure [])
    (hbody : ∀ (A : Around) (outer : List Env) (s : Shared) (H : Hp) (E : XK) (f c' : Addr), Room k (A.deeper (LamX.lamEnv X scope s.heap.objs.size f c')) → PE (LamX.lamCx X A outer s H E scope f c') body (tX ⟨C.K, C.H0, C.B0, C.M, E, C.cl⟩ g))
    (hdb : (x == ("__debug__" : Str)) = false := by decide) (hd : (a == ("__debug__" : Str)) = false := by decide) (hcd : (a == ("__classdict__" : Str)) = false := by decide) (hK : X.K = C.K := by rfl) :
    PE X (.Call (.Name x p) [.Lambda params body scope lpos] [] pos) (tF C (gWord W g)) := by
  obtain ⟨oc, od, kV, doc, pm, an, cdv, ct, osl, efd, lk, hcg⟩ := F.ex
  subst efd
  refine PE_imp (LamX.pe_lamcall (t := fun E => tX ⟨C.K, C.H0, C.B0, C.M, E, C.cl⟩ g) hg hm F.kp lk hcg hb Sg hNg hva hG TB hcode hmT hu hr L hdef hbind hbody hdb hd hcd) fun σ H Q ⟨B, A, d, A', r, ef, kk⟩ => ?_
  unfold gWord at ef
  cases e1 : g A with
  | none => rw [e1] at ef; cases ef
  | some rs =>
    rw [e1, Option.bind_some] at ef
    cases e2 : W rs with
    | none => rw [e2] at ef; cases ef
    | some d' =>
      rw [e2, Option.bind_some] at ef
      split at ef
      · rename_i hl
        cases ef
        refine ⟨r.tabs, fun H1 eN T1 => ⟨T1, fun E1 Q1 hE hQ => ?_⟩⟩
        have s1 : Sm H H1 := ⟨fun b o e nt => eN b o e nt, fun _ => T1⟩
        have r1 := r.same s1
        have fin : ∀ H', Sm H1 H' → ∀ v H'', Sm H' H'' → Rp X.K (fun _ => False) H'' d v → Q v H'' := fun H' s2 v H'' s3 q => kk v H'' ((r1.same s2).same s3) (Kp.of ((s1.trans s2).trans s3)) (by rw [← hK]; exact q.lf hl)
        refine ⟨B, A, r1.withE, ?_⟩
        rw [e1]
        cases rs with
        | ok d0 => exact fun v H' s2 q => hQ v H' ⟨d0, d, e2, (r1.same s2).tabs, fin H' s2⟩
        | exc cc fs =>
          refine ⟨fun e0 H' s2 => hE _ _ _ ⟨cc, fs, d, rfl, (r1.same s2).tabs, ⟨fun _ => rfl, fun z => (z e0).elim⟩, e2, fin H' s2⟩, fun ne H' dd vs s2 _ q1 q2 q3 => hE _ _ _ ⟨cc, fs, d, rfl, (r1.same s2).tabs, ⟨fun z => (ne z).elim, fun _ => ⟨dd, vs, rfl, q1, q2, by rw [hK]; exact q3⟩⟩, e2, fin H' s2⟩⟩
      · cases ef
/-- nothing is known of the slots -/
theorem rel_none {K : PySem.W.Frag} {H : Hp} {E : XK} {cl : Str → Addr} {σ : L2.St} {n : Nat} (hl : σ.length = n) (t : TbOk H) : Rel ⟨K, H, fun _ => False, fun _ => False, E, cl⟩ ⟨fun _ => False, fun _ => False, fun _ z => z.elim⟩ (List.replicate n none) σ H := by
  have no : ∀ (i : Nat) (x : AV), (List.replicate n (none : Option AV))[i]? ≠ some (some x) := fun i x z => by
    rw [List.getElem?_replicate] at z
    split at z <;> cases z
  exact ⟨by rw [List.length_replicate, hl], fun i d e => (no i _ e).elim, fun i t xs e => (no i _ e).elim, fun i j t t' xs ys a e => (no i _ e).elim, fun _ z => z.elim, fun _ z => z, fun _ z => z, Kp.refl _ H, t⟩
/-- try: a() / except e as n: suite / rest -/
theorem word_gives {W : Rs → Option D} {Ng : List Str} {x a e n q : Str} {sg : Scope} {g CS : Addr} {cdg : Value} {i : Nat} {b₀ : Stmt} {suite rest : List Stmt} {cl : Str → Addr} {mS : Str → List (Str × D) → Addr → AE → Option Fl} {mR : AE → Option Fl} {p1 p2 p3 p4 p5 p6 : Pos}
    (hge : sg.names.lookup e = some .globalImplicit) (hme : X.mg e = some (.ref CS)) (hde : (e == ("__debug__" : Str)) = false) (h0 : ∀ f : Addr, (L2.start Ng [V.ref f])[0]? = some (some (V.ref f))) (hlN : 1 ≤ Ng.length)
    (nd : Ng.Nodup) (hi : Ng[i]? = some n) (hln : sg.names.lookup n = some .local)
    (hex : ∀ c fs d, W (.exc c fs) = some d → PySem.W.exmOne X.K (.ref (cl c)) (.ref CS) = some true ∧ ∀ aa, ∃ A', mS c fs aa ((List.replicate Ng.length none).set i (some (.dat (.v (.ref aa))))) = some (.rt d A'))
    (hok : ∀ d0 d, W (.ok d0) = some d → ∃ A', mR (List.replicate Ng.length none) = some (.rt d A'))
    (hS : ∀ (s : Shared) (H H' : Hp) (c : Str) (fs : List (Str × D)) (d : D) (aa : Addr) (oe : Obj) (dd : Option Addr) (pn : List (Addr × Obj)), W (.exc c fs) = some d → (fs = [] → dd = none) → Zc (.ref (cl c)) dd oe → (∃ vs, oe.data = .fields vs) →
      PSs ((cxOf C8.CX0 X.prog X.w X.K X.mg X.base Ng x sg g cdg X.A X.stack s H C8.E0).nox.suite aa ((aa, oe) :: pn)) (b₀ :: suite) (tS ⟨X.K, H', fun _ => False, fun _ => False, fun _ _ _ => False, cl⟩ (mS c fs aa)))
    (hR : ∀ (s : Shared) (H H' : Hp), PSs (cxOf C8.CX0 X.prog X.w X.K X.mg X.base Ng x sg g cdg X.A X.stack s H C8.E0).nox rest (tS ⟨X.K, H', fun _ => False, fun _ => False, fun _ _ _ => False, cl⟩ mR)) :
    LamX.GivesTo X Ng x sg g cdg (.Try [.Expr (.Call (.Name a p1) [] [] p2) p3] [.ExceptHandler (some (.Name e p4)) (some n) (b₀ :: suite) p5] [] [] p6 :: rest) a q (TTw X.K cl W) := by
  intro f c' s H Q tl act hc h
  obtain ⟨tb, h⟩ := h
  have hgl : Gl (cxOf C8.CX0 X.prog X.w X.K X.mg X.base Ng x sg g cdg X.A X.stack s H C8.E0).nox e := hge
  have lenS : ∀ f : Addr, (L2.start Ng [V.ref f]).length = Ng.length := fun f => by
    unfold L2.start
    rw [List.length_append, List.length_map, List.length_replicate, List.length_singleton]; omega
  refine ⟨_, pss_cons (ps_try_as (X := (cxOf C8.CX0 X.prog X.w X.K X.mg X.base Ng x sg g cdg X.A X.stack s H C8.E0).nox) (i := i) (c := .ref CS)
      (tb := fun (W : WX) (D : Ends) (σ : L2.St) (H : Hp) => ∃ Ech : XK, (∀ cls d (σ' : L2.St) H', Ech cls d H' → W cls d σ' H') ∧ σ[0]? = some (some (.ref f)) ∧ H c' = some (LamX.CodeO c' q) ∧ tl Ech H fun _ H' => D.nx σ H')
      (ts := fun aa cls dd (D : Ends) (σ : L2.St) (H : Hp) => σ.length = Ng.length → ∃ c fs d, cls = .ref (cl c) ∧ (fs = [] → dd = none) ∧ W (.exc c fs) = some d ∧ tS ⟨X.K, H, fun _ => False, fun _ => False, fun _ _ _ => False, cl⟩ (mS c fs aa) D σ H) (Wout := fun _ _ _ _ => False)
      rfl rfl nd hi hln ⟨hgl, hde, .inl hme⟩ LamX.takes0 (fun W pn xe tk _ => ?_) (fun aa oe cls dd pn hz hf => ?_)) (u := fun (D : Ends) (σ : L2.St) (H : Hp) => tS ⟨X.K, H, fun _ => False, fun _ => False, fun _ _ _ => False, cl⟩ mR D σ H) ?_, ?_⟩
  · refine pss_one ⟨fun pins s' σ H' D I h' => ?_⟩
    obtain ⟨Ech, hW, h1, h2, h3⟩ := h'
    exact (ps_expr (pos := p3) (act W pn xe Ech p1 p2 tk hW)).run pins s' σ H' D I ⟨h1, h2, h3⟩
  · refine ⟨fun pins s' σ H' D I h' => ?_⟩
    obtain ⟨c, fs, d, e1, e2, e3, e4⟩ := h' I.len
    subst e1
    exact (hS s H H' c fs d aa oe dd pn e3 e2 hz hf).run pins s' σ H' D I e4
  · exact ⟨fun pins s' σ H' D I h' => (hR s H H').run pins s' σ H' D I h'⟩
  · refine ⟨_, ?_, h0 f, hc, h _ _ (fun cls dd H' z => z) fun v H' ⟨d0, d, w, t', fin⟩ => ?_⟩
    · intro cls dd σ' H' ⟨c, fs, d, e1, t', e2, e3, fin⟩
      subst e1
      obtain ⟨hx1, hx2⟩ := hex c fs d e3
      refine ⟨true, hx1, fun _ aa ha hl => ⟨c, fs, d, rfl, e2.1, e3, ?_⟩, fun z => by cases z⟩
      obtain ⟨A', e4⟩ := hx2 aa
      refine ⟨⟨fun _ => False, fun _ => False, fun _ z => z.elim⟩, _, (rel_none (n := Ng.length) (by rw [List.length_set] at hl; exact hl) t').setDat (i := i) (v := .ref aa) (d := .v (.ref aa)) rfl, ?_⟩
      rw [e4]
      exact fun B' σ2 H2 v r _ q => fin v H2 (r.kp.sm fun _ z => z) q
    · obtain ⟨A', e4⟩ := hok d0 d w
      refine ⟨⟨fun _ => False, fun _ => False, fun _ z => z.elim⟩, _, rel_none (lenS f) t', ?_⟩
      rw [e4]
      exact fun B' σ2 H2 v r _ q => fin v H2 (r.kp.sm fun _ z => z) q
end
end DV

namespace DV
open PySem PySem.Spec PyProof.Rows L2
variable [TabC]

/-! # isinstance of the error that a suite holds -/
def fIsE (i : Nat) (a : Addr) (b : Bool) : AE → Option D := fun A => match A[i]? with
  | some (some (.dat (.v (.ref a')))) => if a' = a then some (.bl b) else none
  | _ => none
theorem q_isE {X : Cx} {C : Cc} {i : Nat} {a Da C' : Addr} {b : Bool} {e : Expr} (h : PE X e (tCB (rIsE X.K Da a) (tCons (tVar i) (tCons (tC (.ref C')) tNil)))) (hk : PySem.W.kitOne X.K (.ref Da) (.ref C') = some b) : PE X e (tQ C (fIsE i a b)) := PE_imp h fun σ H Q ⟨B, A, d, r, ef, k⟩ => by
  unfold fIsE at ef
  split at ef
  · rename_i a' hA
    split at ef
    · rename_i ha
      subst ha
      cases ef
      obtain ⟨v, e1, q⟩ := r.dat i _ hA
      have ev : v = .ref a' := q
      subst ev
      exact ⟨_, e1, .ref C', .ref C', b, rfl, fun u r => by cases r; rfl, hk, k _ _ (Sm.refl _) rfl⟩
    · cases ef
  · cases ef

/-! # x, y = a, b with new lists -/
section
variable {C : Cc} {B : Bw} {A : AE} {σ : L2.St} {H : Hp}
/-- a list that no slot holds becomes a slot's own -/
theorem Rel.adopt {i : Nat} {ds : List D} {vs : List V} {p : Addr} (r : Rel C (B.more p) A σ H) (hp : H p = some (.lst vs)) (h0 : Fr0 C.H0 p ∧ ¬ C.B0 p) (nw : ¬ B.wr p) (q : RpL C.K (B.more p).on H ds vs) : Rel C (B.plus p) (A.set i (some (.own false ds))) (σ.set i (some (.ref p))) H := by
  refine ⟨by rw [List.length_set, List.length_set]; exact r.len, fun j d' ej => ?_, fun j t ys ej => ?_, fun j l t t' ys zs p' ej el hj hl => ?_, r.bl, r.b0, r.m0, r.kp, r.tabs⟩
  · by_cases hj : i = j
    · subst hj
      have hi : i < A.length := by have := (List.getElem?_eq_some_iff.mp ej).1; rwa [List.length_set] at this
      rw [List.getElem?_set_self hi] at ej; cases ej
    · rw [List.getElem?_set_ne hj] at ej ⊢
      exact r.dat j d' ej
  · by_cases hj : i = j
    · subst hj
      have hi : i < A.length := by have := (List.getElem?_eq_some_iff.mp ej).1; rwa [List.length_set] at this
      rw [List.getElem?_set_self hi] at ej; cases ej
      exact ⟨p, vs, by rw [List.getElem?_set_self (by rw [← r.len]; exact hi)], hp, .inl rfl, q, h0⟩
    · rw [List.getElem?_set_ne hj] at ej ⊢
      obtain ⟨a2, vs2, f1, f2, f3, f4, f5⟩ := r.own j _ ys ej
      exact ⟨a2, vs2, f1, f2, .inr f3, f4, f5⟩
  · have old : ∀ (j : Nat) t ys, A[j]? = some (some (.own t ys)) → σ[j]? ≠ some (some (.ref p)) := fun j t ys ej z => by
      obtain ⟨a, ws, f1, f2, f3, _⟩ := r.own j _ ys ej
      rw [z] at f1; cases f1
      exact nw f3
    have inr : ∀ (j : Nat) t ys, (A.set i (some (.own false ds)))[j]? = some (some (.own t ys)) → i ≠ j → A[j]? = some (some (.own t ys)) ∧ (σ.set i (some (.ref p)))[j]? = σ[j]? := fun j t ys ej hj => by
      rw [List.getElem?_set_ne hj] at ej ⊢; exact ⟨ej, rfl⟩
    have inn : ∀ (j : Nat) t ys, (A.set i (some (.own false ds)))[j]? = some (some (.own t ys)) → i = j → (σ.set i (some (.ref p)))[j]? = some (some (.ref p)) := fun j t ys ej hj => by
      subst hj
      have hi : i < A.length := by have := (List.getElem?_eq_some_iff.mp ej).1; rwa [List.length_set] at this
      rw [List.getElem?_set_self (by rw [← r.len]; exact hi)]
    by_cases hj' : i = j
    · by_cases hl' : i = l
      · exact hj'.symm.trans hl'
      · have e1 := inn j _ _ ej hj'
        obtain ⟨e2, e3⟩ := inr l _ _ el hl'
        rw [hj] at e1; cases e1
        rw [hl] at e3
        exact (old l _ _ e2 e3.symm).elim
    · by_cases hl' : i = l
      · have e1 := inn l _ _ el hl'
        obtain ⟨e2, e3⟩ := inr j _ _ ej hj'
        rw [hl] at e1; cases e1
        rw [hj] at e3
        exact (old j _ _ e2 e3.symm).elim
      · obtain ⟨e2, e3⟩ := inr j _ _ ej hj'
        obtain ⟨f2, f3⟩ := inr l _ _ el hl'
        rw [hj] at e3
        rw [hl] at f3
        exact r.inj j l _ _ _ _ p' e2 f2 e3.symm f3.symm
end
def sParOO (i j : Nat) (f g : AE → Option (List D × AE)) : AE → Option Fl := fun A => (f A).bind fun p => (g p.2).map fun q => .nx ((q.2.set i (some (.own false p.1))).set j (some (.own false q.1)))
def sParDO (i j : Nat) (f : AE → Option (D × AE)) (g : AE → Option (List D × AE)) : AE → Option Fl := fun A => (f A).bind fun p => (g p.2).map fun q => .nx ((q.2.set i (some (.dat p.1))).set j (some (.own false q.1)))
section
variable {X : Cx} {C : Cc} {pos : Pos}
theorem s_parOO {i j : Nat} {x y : Str} {e1 e2 : Expr} {px py pt : Pos} {kt k2 pt2} {f g : AE → Option (List D × AE)} (hc : X.calm = true) (hN : X.N.Nodup) (hi : X.N[i]? = some x) (hj : X.N[j]? = some y) (hij : i ≠ j)
    (hx : X.env.scope.names.lookup x = some .local) (hy : X.env.scope.names.lookup y = some .local) (h1 : PE X e1 (tN C f)) (h2 : PE X e2 (tN C g))
    (hw : swappedStores [.Tuple [.Name x px, .Name y py] kt pt] (.Tuple [e1, e2] k2 pt2) X.env = pure (some [x, y])) (hs1 : starEach [e1, e2] X.env = (false, eval e1 X.env) :: starEach [e2] X.env := by rfl) (hs2 : starEach [e2] X.env = (false, eval e2 X.env) :: starEach [] X.env := by rfl)
    (hs : swapsWithSole [.Tuple [.Name x px, .Name y py] kt pt] (.Tuple [e1, e2] k2 pt2) pos.line X.env = pure false := by rfl) :
    PS X (.Assign [.Tuple [.Name x px, .Name y py] kt pt] (.Tuple [e1, e2] k2 pt2) pos) (tS C (sParOO i j f g)) := PS_imp (ps_par hc hN hi hj hij hx hy (pa_cons h1 (pa_cons h2 pa_nil hs2) hs1) hw hs) fun D σ H ⟨B, A, r, hh⟩ => by
  unfold sParOO at hh
  cases e1 : f A with
  | none => rw [e1] at hh; exact hh.elim
  | some p1 =>
    obtain ⟨ds, A1⟩ := p1
    rw [e1, Option.bind_some] at hh
    cases e2 : g A1 with
    | none => rw [e2] at hh; exact hh.elim
    | some p2 =>
      obtain ⟨es, A2⟩ := p2
      rw [e2] at hh
      refine ⟨B, A, ds, A1, r, e1, fun H1 p vs r1 k1 hp q1 => ?_⟩
      have h0 := r1.h0_new hp
      have nw : ¬ B.wr p := fun z => r1.bl.free hp (B.sub p z)
      refine ⟨B.more p, A1, es, A2, r1.ban vs hp, e2, fun H2 q ws r2 k2 hq q2 => ?_⟩
      have q1' : RpL C.K (B.more p).on H2 ds vs := ((q1.ban hp).same (same_new hp)).kp (r1.ban vs hp).bl (Bw.up k2)
      have r3 : Rel C (B.plus p) (A2.set i (some (.own false ds))) (σ.set i (some (.ref p))) H2 := r2.adopt (k2.lst upd_same nw) h0 nw q1'
      have r4 := r3.setNew (i := j) hq q2
      refine ⟨_, _, rfl, hh _ _ _ r4 ?_⟩
      exact (((Ext.of k1).trans (Ext.plus hp _)).trans (Ext.of (k2.mono fun b z => .inr z))).trans (Ext.plus hq _)
theorem s_parDO {i j : Nat} {x y : Str} {e1 e2 : Expr} {px py pt : Pos} {kt k2 pt2} {f : AE → Option (D × AE)} {g : AE → Option (List D × AE)} (hc : X.calm = true) (hN : X.N.Nodup) (hi : X.N[i]? = some x) (hj : X.N[j]? = some y) (hij : i ≠ j)
    (hx : X.env.scope.names.lookup x = some .local) (hy : X.env.scope.names.lookup y = some .local) (h1 : PE X e1 (tF C f)) (h2 : PE X e2 (tN C g))
    (hw : swappedStores [.Tuple [.Name x px, .Name y py] kt pt] (.Tuple [e1, e2] k2 pt2) X.env = pure (some [x, y])) (hs1 : starEach [e1, e2] X.env = (false, eval e1 X.env) :: starEach [e2] X.env := by rfl) (hs2 : starEach [e2] X.env = (false, eval e2 X.env) :: starEach [] X.env := by rfl)
    (hs : swapsWithSole [.Tuple [.Name x px, .Name y py] kt pt] (.Tuple [e1, e2] k2 pt2) pos.line X.env = pure false := by rfl) :
    PS X (.Assign [.Tuple [.Name x px, .Name y py] kt pt] (.Tuple [e1, e2] k2 pt2) pos) (tS C (sParDO i j f g)) := PS_imp (ps_par hc hN hi hj hij hx hy (pa_cons h1 (pa_cons h2 pa_nil hs2) hs1) hw hs) fun D σ H ⟨B, A, r, hh⟩ => by
  unfold sParDO at hh
  cases e1 : f A with
  | none => rw [e1] at hh; exact hh.elim
  | some p1 =>
    obtain ⟨d, A1⟩ := p1
    rw [e1, Option.bind_some] at hh
    cases e2 : g A1 with
    | none => rw [e2] at hh; exact hh.elim
    | some p2 =>
      obtain ⟨es, A2⟩ := p2
      rw [e2] at hh
      refine ⟨B, A, d, A1, r, e1, fun v H1 r1 k1 q1 => ⟨B, A1, es, A2, r1, e2, fun H2 q ws r2 k2 hq q2 => ?_⟩⟩
      have r3 := r2.setDat (i := i) (q1.kp r1.bl (Bw.up k2))
      have r4 := r3.setNew (i := j) hq q2
      exact ⟨_, _, rfl, hh _ _ _ r4 ((Ext.of (k1.trans k2)).trans (Ext.plus hq _))⟩
/-! # a def that a slot holds -/
def fXL (i : Nat) (disp : Addr → Option (Nat × (List D → Option Rs))) (fs : AE → Option (List D)) : AE → Option Rs := fun A => match A[i]? with
  | some (some (.dat (.v (.ref f)))) => (disp f).bind fun p => (fs A).bind fun ds => if ds.length = p.1 then p.2 ds else none
  | _ => none
theorem x_callL {i k : Nat} {x : Str} {p : Pos} {e : Expr} {es : List Expr} {disp : Addr → Option (Nat × (List D → Option Rs))} {fs : AE → Option (List D)}
    (hF : ∀ f n G, disp f = some (n, G) → ∃ (fd : FuncData) (ps : List Str), FnOk X.prog X.w X.K X.mg X.base (L2.CX X.prog X.w) k f fd ps (spP X.K C.cl n G) ∧ PySem.W.keepIn X.K (.ref f) = true ∧ L2.Binds X.K fd ps [])
    (hr : Room k X.A) (hN : X.N[i]? = some x) (hv : Vis X.env.scope x) (hx : Passes (L2.CX X.prog X.w) X C.E) (ha : PA X (e :: es) (tQA C fs)) (hdb : (x == ("__debug__" : Str)) = false := by decide) (hcd : (x == ("__classdict__" : Str)) = false := by decide)
    (he : starEach (e :: es) X.env = (false, eval e X.env) :: starEach es X.env := by rfl) (hpl : (backTo pos (starEach es X.env)).any (·.1) = false := by rfl) (hK : X.K = C.K := by rfl) : PE X (.Call (.Name x p) (e :: es) [] pos) (tX C (fXL i disp fs)) := by
  refine ⟨fun pins s σ H Q I h => ?_⟩
  obtain ⟨B, A, r, hh⟩ := h
  unfold fXL at hh
  split at hh
  · rename_i d heq
    split at heq
    · rename_i f hA
      cases e1 : disp f with
      | none => rw [e1] at heq; cases heq
      | some nG =>
        obtain ⟨n, G⟩ := nG
        rw [e1, Option.bind_some] at heq
        cases e2 : fs A with
        | none => rw [e2] at heq; cases heq
        | some ds =>
          rw [e2, Option.bind_some] at heq
          split at heq
          · rename_i hn
            obtain ⟨fd, ps, F, hk, hb⟩ := hF f n G e1
            obtain ⟨v, ev, q⟩ := r.dat i _ hA
            have ev' : v = .ref f := q
            subst ev'
            refine (pe_callL (i := i) (dvs := []) (ds := []) (E := C.E) F hr hN hv hk hb .nil hx ha hdb hcd he hpl).run pins s σ H Q I ⟨ev, B, A, ds, r, e2, fun vs H1 s1 q1 => ?_⟩
            show spP X.K C.cl n G (vs ++ []) H1 Q _
            rw [List.append_nil, hK]
            refine ⟨B, ds, (r.same s1).bl, (r.same s1).tabs, hn, q1, ?_⟩
            rw [show G ds = _ from heq]
            exact fun v H' s q => hh v H' (s1.trans s) q
          · cases heq
    · cases heq
  · rename_i c fs' heq
    split at heq
    · rename_i f hA
      cases e1 : disp f with
      | none => rw [e1] at heq; cases heq
      | some nG =>
        obtain ⟨n, G⟩ := nG
        rw [e1, Option.bind_some] at heq
        cases e2 : fs A with
        | none => rw [e2] at heq; cases heq
        | some ds =>
          rw [e2, Option.bind_some] at heq
          split at heq
          · rename_i hn
            obtain ⟨fd, ps, F, hk, hb⟩ := hF f n G e1
            obtain ⟨v, ev, q⟩ := r.dat i _ hA
            have ev' : v = .ref f := q
            subst ev'
            refine (pe_callL (i := i) (dvs := []) (ds := []) (E := C.E) F hr hN hv hk hb .nil hx ha hdb hcd he hpl).run pins s σ H Q I ⟨ev, B, A, ds, r, e2, fun vs H1 s1 q1 => ?_⟩
            show spP X.K C.cl n G (vs ++ []) H1 Q _
            rw [List.append_nil, hK]
            refine ⟨B, ds, (r.same s1).bl, (r.same s1).tabs, hn, q1, ?_⟩
            rw [show G ds = _ from heq]
            exact hh.same s1
          · cases heq
    · cases heq
  · exact hh.elim
end
end DV

namespace DV
open PySem PySem.Spec PyProof.Rows L2
variable [TabC]

/-! # the hand -/
def cellsOf (ns : List Int) : List Int := (ns.take 63).map fun n => (n.natAbs : Int)
def hand0 (c1 c2 : Int) (ns : List Int) : List D := [.lst ((cellsOf ns).map D.int), .int 0, .int 0, .int (c1 + c2 * ((cellsOf ns).length : Nat)), .int 0]
def spH (K : PySem.W.Frag) (c1 c2 : Int) : Sp := fun vs H Q _ => ∃ a ns, vs = [.ref a] ∧ SqL K H a (ns.map V.int) ∧ TbOk H ∧
  ∀ p H' us, Sm H H' → Fr0 H p → H' p = some (.lst us) → RpL K (fun b => b = p) H' (hand0 c1 c2 ns) us → Q (.ref p) H'
theorem SqL.sm {K : PySem.W.Frag} {H H' : Hp} {a : Addr} {xs : List V} (h : SqL K H a xs) (k : Sm H H') : SqL K H' a xs := by
  rcases h with (h | ⟨o, h⟩) | h
  · exact .inl (.inl (k.ob _ _ h fun _ e => by cases e))
  · exact .inl (.inr ⟨o, k.ob _ _ h fun _ e => by cases e⟩)
  · exact .inr h
/-- xs[:63] of the script -/
def fScr (i : Nat) (a : Addr) (zs : List V) : AE → Option D := fun A => match A[i]? with
  | some (some (.dat (.v (.ref a')))) => if a' = a then some (.lst (zs.map D.v)) else none
  | _ => none
theorem take_vals (ns : List Int) : (ns.map V.int).take 63 = (ns.take 63).map V.int := by rw [List.map_take]
section
variable {X : Cx} {C : Cc} {pos : Pos}
theorem q_scr {i : Nat} {a : Addr} {ns : List Int} {o : Expr} {p1 p2 : Pos} {k : Nat} (hS : SqL C.K C.H0 a (ns.map V.int)) (hM : ∀ b, ¬ C.M b) (h : PE X o (tVar i)) (hK : X.K = C.K := by rfl) :
    PE X (.Subscript o (.Slice none (some (.Constant (.int 63) k p1)) none p2) pos) (tQ C (fScr i a ((ns.take 63).map V.int))) := by
  refine PE_imp (pe_slice (lo := none) sl_list h po_none (po_some (pe_int (i := 63)))) fun σ H Q ⟨B, A, d, r, ef, kk⟩ => ?_
  unfold fScr at ef
  split at ef
  · rename_i a' hA
    split at ef
    · rename_i ha
      subst ha
      cases ef
      obtain ⟨v, e1, q⟩ := r.dat i _ hA
      have ev : v = .ref a' := q
      subst ev
      have sm := r.kp.sm hM
      refine ⟨_, e1, 63, rfl, a', ns.map V.int, rfl, by rw [hK]; exact SqL.sm hS sm, fun p hp => ?_⟩
      have e2 : cutV (ns.map V.int) none (some 63) = (ns.take 63).map V.int := by
        unfold cutV
        rw [show (some (63 : Int)) = some ((63 : Nat) : Int) from rfl, HT.sIx_nat, HT.sIx_none, Nat.sub_zero, List.drop_zero, ← List.map_take]
        congr 1
        rw [List.length_map]
        by_cases h : 63 ≤ ns.length
        · rw [Nat.min_eq_left h]
        · rw [Nat.min_eq_right (by omega), List.take_of_length_le (Nat.le_refl _), List.take_of_length_le (by omega)]
      rw [e2]
      exact kk _ _ (same_new hp) (Rp.lstNew r.bl (RpL.vals _) hp)
    · cases ef
  · cases ef
theorem fn_H {P : Program} {w : World} {K : PySem.W.Frag} {mg : Str → Option Value} {base : Heap} {cl : Str → Addr} {x qual p1 : Str} {st : Stmt} {f : Addr} {fd : FuncData} {N : List Str} {k : Nat} {c1 c2 : Int} {m : Addr → List Int → AE → Option Fl} (F : Fun K x qual st f fd) (S : FnScope N [p1] (defScope st))
    (body : ∀ (A : Around) (outer : List Env) (s : Shared) (H : Hp) (E : XK) (H0 : Hp) (B0 : Ban) (a : Addr) (ns : List Int), Room k (A.deeper (envOfC qual (defScope st) s.heap.objs.size f fd.code)) → SqL K H0 a (ns.map V.int) →
      PSs (cxOf (L2.CX P w) P w K mg base N qual (defScope st) f fd.code A outer s H E) (defBody st) (tS ⟨K, H0, B0, fun _ => False, E, cl⟩ (m a ns)))
    (hm : ∀ a ns, ∃ A', m a ns (some (.dat (.v (.ref a))) :: List.replicate (N.length - 1) none) = some (.rt (.lst (hand0 c1 c2 ns)) A')) : FnOk P w K mg base (L2.CX P w) (k + 1) f fd [p1] (spH K c1 c2) := by
  have hNl : 1 ≤ N.length := by
    have := congrArg List.length S.pre
    rw [List.length_take] at this
    simp only [List.length_singleton] at this; omega
  refine okXC F S (fun vs H Q E ⟨a, ns, e, _⟩ => by rw [e]; rfl) fun A outer s H vs Q E hr ⟨a, ns, ev, hS, tb, hq⟩ => ⟨_, body A outer s H E H (fun b => ∃ vs, H b = some (.lst vs)) a ns hr hS, ?_⟩
  subst ev
  obtain ⟨A', e1⟩ := hm a ns
  have rel : Rel ⟨K, H, fun b => ∃ vs, H b = some (.lst vs), fun _ => False, E, cl⟩ ⟨fun b => ∃ vs, H b = some (.lst vs), fun _ => False, fun _ z => z.elim⟩ (some (.dat (.v (.ref a))) :: List.replicate (N.length - 1) none) (L2.start N [.ref a]) H := by
    have no : ∀ (i : Nat) (x : AV), (some (.dat (.v (.ref a))) :: List.replicate (N.length - 1) none)[i]? = some (some x) → i = 0 ∧ x = .dat (.v (.ref a)) := fun i x z => by
      cases i with
      | zero => simp at z; exact ⟨rfl, z.symm⟩
      | succ i =>
        rw [List.getElem?_cons_succ, List.getElem?_replicate] at z
        split at z <;> cases z
    refine ⟨?_, fun i d e => ?_, fun i t xs e => ?_, fun i j t t' xs ys a e => ?_, fun _ h => h, fun _ h => h, fun _ h => h.elim, Kp.refl _ H, tb⟩
    · unfold L2.start
      rw [List.length_cons, List.length_append, List.length_map, List.length_replicate, List.length_replicate, List.length_singleton]; omega
    · obtain ⟨e2, e3⟩ := no i _ e
      subst e2; cases e3
      exact ⟨_, start_get rfl, rfl⟩
    · obtain ⟨e2, e3⟩ := no i _ e; cases e3
    · obtain ⟨e2, e3⟩ := no i _ e; cases e3
  refine ⟨_, _, rel, ?_⟩
  rw [e1]
  intro B' σ' H' v r _ ⟨p, us, ev, sq, rp⟩
  subst ev
  have sm := r.kp.sm (fun _ z => z)
  refine hq p H' us sm (fun o e nt => sq.2 ⟨us, ?_⟩) sq.1 ?_
  · have := sm.ob p o e nt
    rw [sq.1] at this
    rw [e, this]
  · obtain ⟨u0, ur, e2, ⟨p0, ws, e3, sq0, rp0⟩, rest⟩ := rp
    subst e2; subst e3
    have rp0' := rp0
    have ne : p0 ≠ p := fun z => by
      subst z
      have := sq0.1
      rw [sq.1] at this
      have e4 : (V.ref p0 :: ur) = ws := by injection (Option.some.inj this)
      rw [← e4] at rp0
      have := rp0.ints'
      cases h : cellsOf ns with
      | nil => rw [h] at this; cases this
      | cons c cs => rw [h] at this; cases this
    refine ⟨_, ur, rfl, ⟨p0, ws, rfl, ⟨sq0.1, ne⟩, ?_⟩, ?_⟩
    · rw [ints_map] at rp0 ⊢
      rw [RpL.vals' rp0]; exact RpL.vals _
    · exact RpL.lf (ds := [.int 0, .int 0, .int (c1 + c2 * ((cellsOf ns).length : Nat)), .int 0]) rfl rest

/-! # the law -/
def tHand (K : PySem.W.Frag) (c1 c2 : Int) : TS := fun D σ H => ∃ a ns, σ[0]? = some (some (.ref a)) ∧ SqL K H a (ns.map V.int) ∧ TbOk H ∧
  ∀ p H' us, Sm H H' → Fr0 H p → H' p = some (.lst us) → RpL K (fun b => b = p) H' (hand0 c1 c2 ns) us → D.nx (σ.set 1 (some (.ref p))) H'
theorem s_hand {k : Nat} {c1 c2 : Int} {f : Addr} {fd : FuncData} {ps : List Str} {x y : Str} {px py pc : Pos} {e : Expr} (F : FnOk X.prog X.w X.K X.mg X.base (L2.CX X.prog X.w) k f fd ps (spH X.K c1 c2)) (hr : Room k X.A) (hg : Gl X x) (hm : X.mg x = some (.ref f)) (hk : PySem.W.keepIn X.K (.ref f) = true) (hb : L2.Binds X.K fd ps [])
    (hv : PE X e (tVar 0)) (hN : X.N.Nodup) (hi : X.N[1]? = some y) (hx : Loc X.env.scope y) (hdb : (x == ("__debug__" : Str)) = false := by decide)
    (he : starEach [e] X.env = (false, eval e X.env) :: starEach [] X.env := by rfl) (hpl : (backTo pc (starEach [] X.env)).any (·.1) = false := by rfl)
    (hs : swapsWith (.Call (.Name x px) [e] [] pc) (some (.Name y py)) pos.line X.env = pure false := by rfl) (hf : X.fn y = true ∨ X.env.scope.names.lookup y = some .local := by first | exact .inl rfl | exact .inr rfl | assumption) :
    PS X (.Assign [.Name y py] (.Call (.Name x px) [e] [] pc) pos) (tHand X.K c1 c2) := PS_imp (ps_set hN hi hx (pe_call F hr hg hm hk hb .nil passes_none (pa_cons hv pa_nil he) hdb he hpl) hs hf) fun D σ H ⟨a, ns, e1, e2, e3, e4⟩ =>
  ⟨_, e1, a, ns, rfl, e2, e3, fun p H' us s1 f1 h1 r1 => e4 p H' us s1 f1 h1 r1⟩
end
def spLaw (K : PySem.W.Frag) (good : List Int → Prop) : Sp := fun vs H Q _ => ∃ a ns, vs = [.ref a] ∧ SqL K H a (ns.map V.int) ∧ TbOk H ∧ good ns ∧ ∀ H', Q (.bl true) H'
theorem fn_law {P : Program} {w : World} {K : PySem.W.Frag} {mg : Str → Option Value} {base : Heap} {cl : Str → Addr} {x qual p1 : Str} {st st1 : Stmt} {rest : List Stmt} {f : Addr} {fd : FuncData} {N : List Str} {k : Nat} {c1 c2 : Int} {good : List Int → Prop} {m : AE → Option Fl} (F : Fun K x qual st f fd) (S : FnScope N [p1] (defScope st)) (hN : 2 ≤ N.length) (hb : defBody st = st1 :: rest)
    (first : ∀ (A : Around) (outer : List Env) (s : Shared) (H : Hp) (E : XK), Room k (A.deeper (envOfC qual (defScope st) s.heap.objs.size f fd.code)) → PS (cxOf (L2.CX P w) P w K mg base N qual (defScope st) f fd.code A outer s H E) st1 (tHand K c1 c2))
    (body : ∀ (A : Around) (outer : List Env) (s : Shared) (H : Hp) (E : XK) (H0 : Hp) (B0 M : Ban), Room k (A.deeper (envOfC qual (defScope st) s.heap.objs.size f fd.code)) →
      PSs (cxOf (L2.CX P w) P w K mg base N qual (defScope st) f fd.code A outer s H E) rest (tS ⟨K, H0, B0, M, E, cl⟩ m))
    (hm : ∀ ns, good ns → ∃ A', m (none :: some (.own true (hand0 c1 c2 ns)) :: List.replicate (N.length - 2) none) = some (.rt (.bl true) A')) : FnOk P w K mg base (L2.CX P w) (k + 1) f fd [p1] (spLaw K good) := by
  refine okXC F S (fun vs H Q E ⟨a, ns, e, _⟩ => by rw [e]; rfl) fun A outer s H vs Q E hr ⟨a, ns, ev, hS, tb, hg, hq⟩ => ⟨tSeq (tHand K c1 c2) fun D σ H' => ∃ p, σ[1]? = some (some (.ref p)) ∧ tS ⟨K, H', fun _ => False, fun b => b = p, E, cl⟩ m D σ H', ?_, ?_⟩
  · rw [hb]
    exact pss_cons (first A outer s H E hr) ⟨fun pins s' σ H' D I ⟨p, _, h⟩ => (body A outer s H E H' _ _ hr).run pins s' σ H' D I h⟩
  · subst ev
    refine ⟨a, ns, start_get rfl, hS, tb, fun p H' us sm fr hp rp => ?_⟩
    have lenS : (L2.start N [V.ref a]).length = N.length := by
      unfold L2.start
      rw [List.length_append, List.length_map, List.length_replicate, List.length_singleton]; omega
    have gp : ((L2.start N [V.ref a]).set 1 (some (.ref p)))[1]? = some (some (.ref p)) := List.getElem?_set_self (by rw [lenS]; omega)
    refine ⟨p, gp, ⟨fun b => b = p, fun b => b = p, fun _ z => z⟩, none :: some (.own true (hand0 c1 c2 ns)) :: List.replicate (N.length - 2) none, ?_, ?_⟩
    · have no : ∀ (i : Nat) (x : AV), ((none : Option AV) :: some (.own true (hand0 c1 c2 ns)) :: List.replicate (N.length - 2) none)[i]? = some (some x) → i = 1 ∧ x = .own true (hand0 c1 c2 ns) := fun i x z => by
        match i, z with
        | 0, z => simp at z
        | 1, z => simp at z; exact ⟨rfl, z.symm⟩
        | i + 2, z =>
          rw [List.getElem?_cons_succ, List.getElem?_cons_succ, List.getElem?_replicate] at z
          split at z <;> cases z
      refine ⟨?_, fun i d e => ?_, fun i t xs e => ?_, fun i j t t' xs ys a e1 e2 _ _ => ?_, fun b z => ⟨us, by rw [z]; exact hp⟩, fun _ z => z.elim, fun _ z => z, Kp.refl _ H', sm.tb tb⟩
      · rw [List.length_cons, List.length_cons, List.length_replicate, List.length_set, lenS]; omega
      · obtain ⟨e2, e3⟩ := no i _ e; cases e3
      · obtain ⟨e2, e3⟩ := no i _ e
        subst e2; cases e3
        exact ⟨p, us, gp, hp, rfl, rp, rfl⟩
      · obtain ⟨e3, _⟩ := no i _ e1
        obtain ⟨e4, _⟩ := no j _ e2
        rw [e3, e4]
    · obtain ⟨A', e1⟩ := hm ns hg
      rw [e1]
      intro B' σ' H2 v r _ q
      have ev : v = .bl true := q
      rw [ev]
      exact hq H2
end DV

namespace DV
open PySem PySem.Spec PyProof.Rows L2
variable [TabC]
section
variable {X : Cx} {C : Cc} {pos : Pos} {a b e : Expr} {f g : AE → Option D} {gF : AE → Option (D × AE)}
theorem hu64 {k : Nat} {A : Around} (r : Room k A) : A.units + 64 < cLine := by have := r.un; omega
theorem hu0 {k : Nat} {A : Around} (r : Room k A) : A.units < cLine := by have := r.un; omega
/-! # - e -/
def fNeg (f : AE → Option D) : AE → Option D := fun A => (f A).bind fun d => (asI d).map fun i => .int (-i)
theorem q_neg (h : PE X a (tQ C f)) : PE X (.UnaryOp .USub a pos) (tQ C (fNeg f)) := PE_imp (pe_un un_neg h) fun σ H Q ⟨B, A, d, r, ef, k⟩ => by
  unfold fNeg at ef
  cases e1 : f A with
  | none => rw [e1] at ef; cases ef
  | some x =>
    rw [e1, Option.bind_some] at ef
    cases e2 : asI x with
    | none => rw [e2] at ef; cases ef
    | some i =>
      rw [e2] at ef; cases ef
      have := asI_inv e2; subst this
      exact ⟨B, A, _, r, e1, fun v H1 s1 q1 => ⟨i, q1, k _ H1 s1 rfl⟩⟩
/-! # xs + [..], xs a list in place, a new list comes -/
def nCat (i : Nat) (g : AE → Option (D × AE)) : AE → Option (List D × AE) := fun A => match A[i]? with
  | some (some (.own _ _)) => (g A).bind fun q => match q.2[i]?, q.1 with
    | some (some (.own _ xs)), .lst ys => if szOk (xs.length + ys.length) then some (xs ++ ys, q.2) else none
    | _, _ => none
  | _ => none
theorem n_cat {i : Nat} (ho : PE X a (tVar i)) (h : PE X b (tF C gF)) (hK : X.K = C.K := by rfl) : PE X (.BinOp a .Add b pos) (tN C (nCat i gF)) := PE_imp (pe_op op_cat ho h) fun σ H Q ⟨B, A, d, A', r, ef, k⟩ => by
  unfold nCat at ef
  split at ef
  · rename_i xs0 h0
    obtain ⟨p, us0, f1, f2, f3, f4, f5⟩ := r.own i _ xs0 h0
    cases e1 : gF A with
    | none => rw [e1] at ef; cases ef
    | some q =>
      obtain ⟨dq, A1⟩ := q
      rw [e1, Option.bind_some] at ef
      split at ef
      · rename_i xs ys hA1 hq
        have hq' : dq = .lst ys := hq
        subst hq'
        split at ef
        · rename_i hz
          cases ef
          refine ⟨_, f1, B, A, _, A1, r, e1, fun v H1 r1 s1 q1 => ?_⟩
          obtain ⟨b', ws, rfl, t1, t2⟩ := q1
          obtain ⟨a', us, g1, g2, g3, g4, g5⟩ := r1.own i _ xs hA1
          rw [f1] at g1; cases g1
          exact ⟨p, b', us, ws, rfl, rfl, g2, t1.1, by rw [← g4.len, ← t2.len]; exact szOk.le hz, fun l hl => k H1 l _ r1 s1 hl (g4.append t2)⟩
        · cases ef
      · cases ef
  · cases ef
end
end DV

namespace DV
open PySem PySem.Spec PyProof.Rows L2
variable [TabC]

/-! # mirrors told of values -/
/-- a tuple, a list of ints -/
abbrev tI' (ns : List Int) : D := .tup (ns.map D.int)
abbrev lI (ns : List Int) : D := .lst (ns.map D.int)
theorem toPL_ints : ∀ ns : List Int, toPL (ns.map D.int) = some (ns.map PyData.int)
  | [] => rfl
  | n :: ns => by
    show (toP (D.int n)).bind _ = _
    show (some (PyData.int n)).bind (fun p => (toPL (ns.map D.int)).map (p :: ·)) = _
    rw [toPL_ints ns]; rfl
theorem canLay_ints : ∀ ns : List Int, PyData.canLayAll0 (ns.map PyData.int) = true
  | [] => by simp [PyData.canLayAll0]
  | n :: ns => by
    rw [List.map_cons]
    simp only [PyData.canLayAll0, Bool.and_eq_true]
    exact ⟨by simp [PyData.canLay0], canLay_ints ns⟩
theorem depth_ints : ∀ ns : List Int, PyData.depthAll (ns.map PyData.int) ≤ 1
  | [] => by simp [PyData.depthAll]
  | n :: ns => by
    rw [List.map_cons]
    simp only [PyData.depthAll]
    have := depth_ints ns
    simp only [PyData.depth]
    omega
theorem eqvAll_ints : ∀ ns ms : List Int, PyData.eqvAll (ns.map PyData.int) (ms.map PyData.int) = decide (ns = ms)
  | [], [] => by simp [PyData.eqvAll]
  | [], m :: ms => by simp [PyData.eqvAll]
  | n :: ns, [] => by simp [PyData.eqvAll]
  | n :: ns, m :: ms => by
    rw [List.map_cons, List.map_cons]
    simp only [PyData.eqvAll, PyData.eqv, eqvAll_ints ns ms]
    by_cases h : n = m
    · subst h; simp
    · simp [h]
theorem shaped_tup (ns : List Int) : SeqAt.shaped (.tuple (ns.map PyData.int)) = true := by
  unfold SeqAt.shaped
  rw [Bool.and_eq_true]
  refine ⟨?_, ?_⟩
  · simp only [PyData.canLay0]; exact canLay_ints ns
  · rw [decide_eq_true_eq]; simp only [PyData.depth]; have := depth_ints ns; omega
theorem shaped_lst (ns : List Int) : SeqAt.shaped (.list (ns.map PyData.int)) = true := by
  unfold SeqAt.shaped
  rw [Bool.and_eq_true]
  refine ⟨?_, ?_⟩
  · simp only [PyData.canLay0]; exact canLay_ints ns
  · rw [decide_eq_true_eq]; simp only [PyData.depth]; have := depth_ints ns; omega
theorem shaped_int (i : Int) : SeqAt.shaped (.int i) = true := by
  unfold SeqAt.shaped
  rw [Bool.and_eq_true]
  refine ⟨by simp [PyData.canLay0], ?_⟩
  rw [decide_eq_true_eq]; simp only [PyData.depth]; omega
theorem eqB_tt (ns ms : List Int) : mEqB (tI' ns) (tI' ms) = some (decide (ns = ms)) := by
  unfold mEqB
  show ((toPL (ns.map D.int)).map PyData.tuple).bind _ = _
  rw [toPL_ints]
  show ((toPL (ms.map D.int)).map PyData.tuple).bind _ = _
  rw [toPL_ints]
  show (if _ then some _ else none) = _
  rw [shaped_tup, shaped_tup]
  simp only [PyData.eqv, eqvAll_ints]; rfl
theorem eqB_ll (ns ms : List Int) : mEqB (lI ns) (lI ms) = some (decide (ns = ms)) := by
  unfold mEqB
  show ((toPL (ns.map D.int)).map PyData.list).bind _ = _
  rw [toPL_ints]
  show ((toPL (ms.map D.int)).map PyData.list).bind _ = _
  rw [toPL_ints]
  show (if _ then some _ else none) = _
  rw [shaped_lst, shaped_lst]
  simp only [PyData.eqv, eqvAll_ints]; rfl
theorem eqB_ii (i j : Int) : mEqB (.int i) (.int j) = some (decide (i = j)) := by
  unfold mEqB
  show (if (SeqAt.shaped (.int i) && SeqAt.shaped (.int j)) = true then some (PyData.eqv (.int i) (.int j)) else none) = _
  rw [shaped_int, shaped_int]
  simp only [PyData.eqv]; rfl
theorem eq_tt (ns ms : List Int) : mEq (tI' ns) (tI' ms) = some (.bl (decide (ns = ms))) := by unfold mEq; rw [eqB_tt]; rfl
theorem eq_ll (ns ms : List Int) : mEq (lI ns) (lI ms) = some (.bl (decide (ns = ms))) := by unfold mEq; rw [eqB_ll]; rfl
theorem eq_ii (i j : Int) : mEq (.int i) (.int j) = some (.bl (decide (i = j))) := by unfold mEq; rw [eqB_ii]; rfl
theorem ne_tt (ns ms : List Int) : mNe (tI' ns) (tI' ms) = some (.bl (!decide (ns = ms))) := by unfold mNe; rw [eqB_tt]; rfl
theorem ne_ll (ns ms : List Int) : mNe (lI ns) (lI ms) = some (.bl (!decide (ns = ms))) := by unfold mNe; rw [eqB_ll]; rfl
theorem ne_ii (i j : Int) : mNe (.int i) (.int j) = some (.bl (!decide (i = j))) := by unfold mNe; rw [eqB_ii]; rfl
theorem asB_bl (b : Bool) : asB (.v (.bl b)) = some b := rfl
theorem asI_int (i : Int) : asI (.v (.int i)) = some i := rfl
theorem seqOf_lst (xs : List D) : seqOf (.lst xs) = some xs := rfl
theorem seqOf_tup (xs : List D) : seqOf (.tup xs) = some xs := rfl
theorem mLen_lst (xs : List D) : mLen [.lst xs] = some (.int (xs.length : Nat)) := rfl
theorem mLen_tup (xs : List D) : mLen [.tup xs] = some (.int (xs.length : Nat)) := rfl
/-! ## items, slices -/
theorem atI_nat {α : Type} {xs : List α} {i : Nat} (h : i < xs.length) : atI xs (i : Nat) = xs[i]? := by
  unfold atI ixN
  rw [if_pos (by omega), if_pos (by omega)]
  rfl
theorem atI_int {α : Type} {xs : List α} {i : Int} (h0 : 0 ≤ i) (h : i.toNat < xs.length) : atI xs i = xs[i.toNat]? := by
  have := atI_nat (xs := xs) h
  rwa [Int.toNat_of_nonneg h0] at this
theorem cut_from (xs : List D) (i : Nat) : cutD xs (some (i : Int)) none = xs.drop i := by
  unfold cutD
  rw [HT.sIx_nat, HT.sIx_none]
  by_cases h : i ≤ xs.length
  · rw [Nat.min_eq_left h, List.take_of_length_le (by rw [List.length_drop]; omega)]
  · rw [Nat.min_eq_right (by omega), List.drop_eq_nil_of_le (Nat.le_refl _), List.drop_eq_nil_of_le (by omega), List.take_nil]
theorem cut_to (xs : List D) (i : Nat) : cutD xs none (some (i : Int)) = xs.take i := by
  unfold cutD
  rw [HT.sIx_nat, HT.sIx_none, Nat.sub_zero, List.drop_zero]
  by_cases h : i ≤ xs.length
  · rw [Nat.min_eq_left h]
  · rw [Nat.min_eq_right (by omega), List.take_of_length_le (Nat.le_refl _), List.take_of_length_le (by omega)]
/-! ## comprehensions -/
section
variable {α : Type} {pat : D → AE → Option AE} {p : AE → Option Bool} {f : AE → Option D} {src : AE → Option (List D)} {A : AE} {vs : List Nat}
theorem lcGo_of (e : α → D) (t : α → Bool) (g : α → D) : ∀ ys : List α, (∀ y ∈ ys, ∃ A1, pat (e y) A = some A1 ∧ p A1 = some (t y) ∧ (t y = true → f A1 = some (g y))) → lcGo pat p f A (ys.map e) = some ((ys.filter t).map g)
  | [], _ => rfl
  | y :: ys, h => by
    obtain ⟨A1, h1, h2, h3⟩ := h y List.mem_cons_self
    have ih := lcGo_of e t g ys fun z hz => h z (List.mem_cons_of_mem _ hz)
    rw [List.map_cons]
    unfold lcGo
    rw [h1, Option.bind_some, h2, Option.bind_some]
    cases ht : t y with
    | true => rw [if_pos rfl, h3 ht, Option.bind_some, ih, List.filter_cons_of_pos ht]; rfl
    | false => rw [if_neg Bool.false_ne_true, ih, List.filter_cons_of_neg (by rw [ht]; exact Bool.false_ne_true)]
theorem fLC_of (ys : List α) (e : α → D) (t : α → Bool) (g : α → D) (hs : src A = some (ys.map e)) (hz : ys.length ≤ 16777216) (h : ∀ y ∈ ys, ∃ A1, pat (e y) (wipeA A vs) = some A1 ∧ p A1 = some (t y) ∧ (t y = true → f A1 = some (g y))) : fLC src vs pat p f A = some (.lst ((ys.filter t).map g)) := by
  unfold fLC
  rw [hs, Option.bind_some, if_pos (szOk.of (by rw [List.length_map]; exact hz)), lcGo_of e t g ys h]; rfl
theorem fLC_map (ys : List α) (e : α → D) (g : α → D) (hs : src A = some (ys.map e)) (hz : ys.length ≤ 16777216) (h : ∀ y ∈ ys, ∃ A1, pat (e y) (wipeA A vs) = some A1 ∧ p A1 = some true ∧ f A1 = some (g y)) : fLC src vs pat p f A = some (.lst (ys.map g)) := by
  have := fLC_of (vs := vs) (p := p) (f := f) (pat := pat) ys e (fun _ => true) g hs hz fun y hy => let ⟨A1, h1, h2, h3⟩ := h y hy; ⟨A1, h1, h2, fun _ => h3⟩
  rw [List.filter_eq_self.mpr (fun _ _ => rfl)] at this
  exact this
end
inductive All2 {α β : Type} (R : α → β → Prop) : List α → List β → Prop
  | nil : All2 R [] []
  | cons {x y xs ys} : R x y → All2 R xs ys → All2 R (x :: xs) (y :: ys)
/-- with changes: an invariant of what is left of the slots -/
theorem lcGoF_inv {α : Type} {pat : D → AE → Option AE} {p : AE → Option Bool} {f : AE → Option (D × AE)} {vs : List Nat} (e : α → D) (I : AE → Prop) (R : α → D → Prop) : ∀ (ys : List α) (A : AE), I A →
    (∀ y ∈ ys, ∀ A, I A → ∃ A1 d A2, pat (e y) A = some A1 ∧ p A1 = some true ∧ f A1 = some (d, A2) ∧ R y d ∧ I (wipeA A2 vs)) → ∃ ds A', lcGoF pat p f vs (ys.map e) A = some (ds, A') ∧ I A' ∧ All2 R ys ds
  | [], A, hA, _ => ⟨[], A, rfl, hA, .nil⟩
  | y :: ys, A, hA, h => by
    obtain ⟨A1, d, A2, h1, h2, h3, h4, h5⟩ := h y List.mem_cons_self A hA
    obtain ⟨ds, A', i1, i2, i3⟩ := lcGoF_inv e I R ys (wipeA A2 vs) h5 fun z hz => h z (List.mem_cons_of_mem _ hz)
    refine ⟨d :: ds, A', ?_, i2, .cons h4 i3⟩
    rw [List.map_cons]
    unfold lcGoF
    rw [h1, Option.bind_some, h2, Option.bind_some, if_pos rfl, h3, Option.bind_some, i1]; rfl
theorem add_tup {xs ys : List D} (h : xs.length + ys.length ≤ 16777216) : mAdd (.tup xs) (.tup ys) = some (.tup (xs ++ ys)) := by
  show (if szOk (xs.length + ys.length) = true then some (D.tup (xs ++ ys)) else none) = _
  rw [if_pos (szOk.of h)]
theorem add_lst {xs ys : List D} (h : xs.length + ys.length ≤ 16777216) : mAdd (.lst xs) (.lst ys) = some (.lst (xs ++ ys)) := by
  show (if szOk (xs.length + ys.length) = true then some (D.lst (xs ++ ys)) else none) = _
  rw [if_pos (szOk.of h)]
theorem add_int (i j : Int) : mAdd (.int i) (.int j) = some (.int (i + j)) := rfl
theorem mul_small {i j : Int} (h : j.natAbs < 2 ^ 64) : mMul (.int i) (.int j) = some (.int (i * j)) := by
  show (if mulOk i j = true then some (D.int (i * j)) else none) = _
  rw [if_pos]
  unfold mulOk
  rw [Bool.or_eq_true, Bool.or_eq_true, decide_eq_true_eq, decide_eq_true_eq]
  exact .inl (.inr h)
theorem mul_small' {i j : Int} (h : i.natAbs < 2 ^ 64) : mMul (.int i) (.int j) = some (.int (i * j)) := by
  show (if mulOk i j = true then some (D.int (i * j)) else none) = _
  rw [if_pos]
  unfold mulOk
  rw [Bool.or_eq_true, Bool.or_eq_true, decide_eq_true_eq]
  exact .inl (.inl h)
theorem mod_pos {i j : Int} (h : 0 < j) : mMod (.int i) (.int j) = some (.int (i % j)) := by
  show (if decide (0 < j) = true then some (D.int (i % j)) else none) = _
  rw [if_pos (decide_eq_true h)]
theorem div_pos {i j : Int} (h : 0 < j) (h2 : j.natAbs.log2 < 9000) : mDiv (.int i) (.int j) = some (.int (i / j)) := by
  show (if (decide (0 < j) && decide (j.natAbs.log2 < 9000)) = true then some (D.int (i / j)) else none) = _
  rw [if_pos (by rw [decide_eq_true h, decide_eq_true h2]; rfl)]
theorem enum_of {α : Type} (ns : List α) (e : α → D) : enumD (ns.map e) = ((List.range ns.length).zip ns).map fun p => .tup [.int (p.1 : Nat), e p.2] := by
  unfold enumD
  rw [List.length_map, List.zip_map, List.map_map]; rfl
/-! ## ranges -/
abbrev rng (n : Nat) : List Int := (List.range n).map fun i => ((i : Nat) : Int)
theorem rngD_rng (n : Nat) : rngD 0 (n : Int) = (rng n).map D.int := by
  unfold rngD rng
  rw [List.map_map]
  congr 1
  · funext i
    show D.int (0 + (i : Nat)) = D.int (i : Nat)
    rw [Int.zero_add]
theorem rgOk_n {n : Nat} (h : n ≤ 1000000) : rgOk 0 (n : Int) = true := by
  unfold rgOk; rw [decide_eq_true_eq]; omega
theorem rgOk2_n {n : Nat} (h : n ≤ 1000000) : rgOk2 ((0 : Int), (n : Int)) = true := by
  unfold rgOk2 rgOk
  rw [Bool.and_eq_true, decide_eq_true_eq, decide_eq_true_eq]
  omega
section
variable {f : AE → Option D} {A : AE} {n : Nat}
theorem fLR_n (h : f A = some (.int (n : Int))) (hn : n ≤ 1000000) : fLR (fG1 f) A = some (.lst ((rng n).map D.int)) := by
  unfold fLR fG1
  rw [h, Option.bind_some, asI_int, Option.map_some, Option.bind_some, if_pos (rgOk2_n hn), rngD_rng]
theorem fTR_n (h : f A = some (.int (n : Int))) (hn : n ≤ 1000000) : fTR (fG1 f) A = some (.tup ((rng n).map D.int)) := by
  unfold fTR fG1
  rw [h, Option.bind_some, asI_int, Option.map_some, Option.bind_some, if_pos (rgOk2_n hn), rngD_rng]
theorem nLR_n (h : f A = some (.int (n : Int))) (hn : n ≤ 1000000) : nLR (fG1 f) A = some ((rng n).map D.int, A) := by
  unfold nLR fG1
  rw [h, Option.bind_some, asI_int, Option.map_some, Option.bind_some, if_pos (rgOk2_n hn), rngD_rng]
theorem fR1_n (h : f A = some (.int (n : Int))) (hn : n ≤ 1000000) : fR1 (fCons f fNil) A = some ((rng n).map D.int) := by
  unfold fR1 fCons fNil
  rw [h, Option.bind_some, Option.map_some, Option.bind_some]
  show (if rgOk 0 (n : Int) = true then some (rngD 0 (n : Int)) else none) = _
  rw [if_pos (rgOk_n hn), rngD_rng]
/-- range(i, i + n) -/
theorem fR2_n {g : AE → Option D} {i : Nat} (h : f A = some (.int (i : Int))) (h2 : g A = some (.int ((i : Int) + (n : Int)))) (hn : i + n ≤ 1000000) : fR2 (fCons f (fCons g fNil)) A = some ((List.range n).map fun j => D.int ((i : Int) + (j : Nat))) := by
  unfold fR2 fCons fNil
  simp only [h, h2, Option.bind_some, Option.map_some]
  show (if rgOk (i : Int) ((i : Int) + (n : Int)) = true then some (rngD (i : Int) ((i : Int) + (n : Int))) else none) = _
  rw [if_pos (by unfold rgOk; rw [decide_eq_true_eq]; omega)]
  unfold rngD
  rw [show ((i : Int) + (n : Int) - (i : Int)).toNat = n by omega]
end
/-! ## for -/
theorem forGo_inv {α : Type} {pat : D → AE → Option AE} {fb : AE → Option Fl} (e : α → D) (I : List α → AE → Prop) : ∀ (ys done : List α) (A : AE), I done A →
    (∀ y done A, I done A → y ∈ ys → ∃ A1 A2, pat (e y) A = some A1 ∧ (fb A1 = some (.nx A2) ∨ fb A1 = some (.ct A2)) ∧ I (done ++ [y]) A2) → ∃ A', forGo pat fb (ys.map e) A = some (.nx A') ∧ I (done ++ ys) A'
  | [], done, A, hA, _ => ⟨A, rfl, by rw [List.append_nil]; exact hA⟩
  | y :: ys, done, A, hA, h => by
    obtain ⟨A1, A2, h1, h2, h3⟩ := h y done A hA List.mem_cons_self
    obtain ⟨A', i1, i2⟩ := forGo_inv e I ys (done ++ [y]) A2 h3 fun z d A hI hz => h z d A hI (List.mem_cons_of_mem _ hz)
    refine ⟨A', ?_, by rw [List.append_assoc] at i2; exact i2⟩
    rw [List.map_cons]
    unfold forGo
    rw [h1, Option.bind_some]
    rcases h2 with h2 | h2 <;> rw [h2, Option.bind_some] <;> exact i1
end DV

namespace DH
open DV
variable [DV.TabC]
def dP1 : AE → Option Fl := (DV.sIf (DV.fAnd (DV.fT (DV.fB DV.mEq (DV.fB DV.mIx (DV.fOwn 0) (DV.fC (.int 2))) (DV.fC (.int 0)))) (DV.fT (DV.fB DV.mLt (DV.fB DV.mIx (DV.fOwn 0) (DV.fC (.int 1))) (DV.fCB DV.mLen (DV.fCons (DV.fB DV.mIx (DV.fOwn 0) (DV.fC (.int 0))) DV.fNil))))) (DV.sSeq (DV.sSet 2 (DV.fB DV.mIx (DV.fB DV.mIx (DV.fOwn 0) (DV.fC (.int 0))) (DV.fB DV.mIx (DV.fOwn 0) (DV.fC (.int 1)))))
  (DV.sSeq (DV.sSetI 0 (DV.qf (DV.fB DV.mAdd (DV.fB DV.mIx (DV.fOwn 0) (DV.fC (.int 1))) (DV.fC (.int 1)))) (DV.fC (.int 1)))
  (DV.sSeq (DV.sSetI 0 (DV.qf (DV.fB DV.mMod (DV.fCB DV.mInt (DV.fCons (DV.fB DV.mAdd (DV.fB DV.mAdd (DV.fB DV.mMul (DV.fB DV.mIx (DV.fOwn 0) (DV.fC (.int 3))) (DV.fC (.int 69621))) (DV.fB DV.mMul (DV.fVar 2) (DV.fC (.int 40692)))) (DV.fC (.int 79))) DV.fNil)) (DV.fC (.int 2147483629)))) (DV.fC (.int 3)))
  (DV.sIf (DV.fT (DV.fB DV.mGe (DV.fVar 2) (DV.fB DV.mPow (DV.fC (.int 10)) (DV.fC (.int 18))))) (DV.sSetI 0 (DV.qf (DV.fVar 2)) (DV.fC (.int 2))) DV.sNil)))) DV.sNil)
def dP2 : AE → Option Fl := (DV.sIf (DV.fT (DV.fB DV.mGt (DV.fB DV.mIx (DV.fOwn 0) (DV.fC (.int 2))) (DV.fC (.int 0)))) (DV.sSeq (DV.sSet 3 (DV.fB DV.mMod (DV.fCB DV.mInt (DV.fCons (DV.fB DV.mIx (DV.fOwn 0) (DV.fC (.int 2))) DV.fNil)) (DV.fVar 1)))
  (DV.sSeq (DV.sSetI 0 (DV.qf (DV.fB DV.mDiv (DV.fB DV.mIx (DV.fOwn 0) (DV.fC (.int 2))) (DV.fVar 1))) (DV.fC (.int 2)))
  (DV.sRet (DV.fVar 3)))) DV.sNil)
def dP3 : AE → Option Fl := (DV.sSeq (DV.sSetI 0 (DV.qf (DV.fB DV.mAdd (DV.fB DV.mIx (DV.fOwn 0) (DV.fC (.int 4))) (DV.fC (.int 1)))) (DV.fC (.int 4)))
  (DV.sSeq (DV.sSet 4 (DV.fB DV.mMod (DV.fCB DV.mInt (DV.fCons (DV.fB DV.mMul (DV.fCB DV.mInt (DV.fCons (DV.fB DV.mAdd (DV.fB DV.mIx (DV.fOwn 0) (DV.fC (.int 3))) (DV.fB DV.mMul (DV.fC (.int 7919)) (DV.fB DV.mIx (DV.fOwn 0) (DV.fC (.int 4))))) DV.fNil)) (DV.fC (.int 48271))) DV.fNil)) (DV.fC (.int 2147483647))))
  (DV.sSeq (DV.sSet 4 (DV.fB DV.mMod (DV.fCB DV.mInt (DV.fCons (DV.fB DV.mMul (DV.fVar 4) (DV.fB DV.mAdd (DV.fB DV.mDiv (DV.fVar 4) (DV.fC (.int 1009))) (DV.fC (.int 69621)))) DV.fNil)) (DV.fC (.int 2147483647))))
  (DV.sSeq (DV.sSet 4 (DV.fB DV.mMod (DV.fCB DV.mInt (DV.fCons (DV.fB DV.mMul (DV.fVar 4) (DV.fB DV.mAdd (DV.fB DV.mDiv (DV.fVar 4) (DV.fC (.int 2003))) (DV.fC (.int 40692)))) DV.fNil)) (DV.fC (.int 2147483399))))
  (DV.sRet (DV.fB DV.mMod (DV.fCB DV.mInt (DV.fCons (DV.fB DV.mDiv (DV.fVar 4) (DV.fC (.int 16))) DV.fNil)) (DV.fVar 1)))))))
def mDraw : AE → Option Fl := DV.sSeq dP1 (DV.sSeq dP2 dP3)
def Gdraw : List D → List D → Option (D × List D) := runO 5 mDraw
def mSome : AE → Option Fl := (DV.sRetF (DV.gB DV.mIx (DV.qf (DV.fVar 1)) (DV.gCallO 0 1 Gdraw (DV.qa (DV.fCons (DV.fCB DV.mLen (DV.fCons (DV.fVar 1) DV.fNil)) DV.fNil)))))
def Gsome : List D → List D → Option (D × List D) := runO 2 mSome
def mMixed : AE → Option Fl := (DV.sSeq (DV.sParOO 2 3 (DV.nLR (DV.fG1 (DV.fVar 1))) (DV.nLst (DV.qa DV.fNil)))
  (DV.sSeq (DV.whGo (DV.qtf (DV.fT (DV.fB DV.mNe (DV.fOwn 2) (DV.fLst DV.fNil)))) (DV.sApp 3 (DV.gPopAt 2 (DV.gCallO 0 1 Gdraw (DV.qa (DV.fCons (DV.fCB DV.mLen (DV.fCons (DV.fOwn 2) DV.fNil)) DV.fNil))))) 200)
  (DV.sRet (DV.fCB DV.mTuple (DV.fCons (DV.fOwn 3) DV.fNil)))))
def Gmixed : List D → List D → Option (D × List D) := runO 4 mMixed
def lC : AE → Option (Bool × AE) := (DV.qtf (DV.fT (DV.fB DV.mGt (DV.fCB DV.mLen (DV.fCons (DV.fVar 3) DV.fNil)) (DV.fC (.int 1)))))
def lB : AE → Option Fl := (DV.sSeq (DV.sSetF 4 (DV.gCallO 0 1 Gdraw (DV.qa (DV.fCons (DV.fB DV.mSub (DV.fCB DV.mLen (DV.fCons (DV.fVar 3) DV.fNil)) (DV.fC (.int 1))) DV.fNil))))
  (DV.sSeq (DV.sAsg (DV.pTup 2 (DV.pCons (DV.pTup 2 (DV.pCons (DV.pName 5) (DV.pCons (DV.pName 6) DV.pNil))) (DV.pCons (DV.pTup 2 (DV.pCons (DV.pName 7) (DV.pCons (DV.pName 8) DV.pNil))) DV.pNil))) (DV.fTup (DV.fCons (DV.fB DV.mIx (DV.fVar 3) (DV.fVar 4)) (DV.fCons (DV.fB DV.mIx (DV.fVar 3) (DV.fB DV.mAdd (DV.fVar 4) (DV.fC (.int 1)))) DV.fNil))))
  (DV.sSeq (DV.sIfF (DV.gT (DV.gB DV.mEq (DV.gCallO 0 1 Gdraw (DV.qa (DV.fCons (DV.fC (.int 2)) DV.fNil))) (DV.qf (DV.fC (.int 0))))) (DV.sSet 10 (DV.fTup (DV.fCons (DV.fB DV.mAdd (DV.fVar 5) (DV.fCB DV.mTuple (DV.fCons (DV.fLC (DV.fSeq (DV.fVar 7)) ([9] : List Nat) (DV.pName 9) (fun _ => some true) (DV.fB DV.mAdd (DV.fVar 9) (DV.fCB DV.mLen (DV.fCons (DV.fVar 5) DV.fNil)))) DV.fNil))) (DV.fCons (DV.fTup (DV.fCons (DV.fC (.str "up")) (DV.fCons (DV.fTup (DV.fCons (DV.fVar 6) (DV.fCons (DV.fVar 8) DV.fNil))) DV.fNil))) DV.fNil)))) (DV.sSet 10 (DV.fTup (DV.fCons (DV.fB DV.mAdd (DV.fCB DV.mTuple (DV.fCons (DV.fLC (DV.fSeq (DV.fVar 5)) ([9] : List Nat) (DV.pName 9) (fun _ => some true) (DV.fB DV.mAdd (DV.fVar 9) (DV.fCB DV.mLen (DV.fCons (DV.fVar 7) DV.fNil)))) DV.fNil)) (DV.fVar 7)) (DV.fCons (DV.fTup (DV.fCons (DV.fC (.str "down")) (DV.fCons (DV.fTup (DV.fCons (DV.fVar 6) (DV.fCons (DV.fVar 8) DV.fNil))) DV.fNil))) DV.fNil)))))
  (DV.sSet 3 (DV.fB DV.mAdd (DV.fB DV.mAdd (DV.fSl (DV.fVar 3) DV.fONone (DV.fO (DV.fVar 4))) (DV.fLst (DV.fCons (DV.fVar 10) DV.fNil))) (DV.fSl (DV.fVar 3) (DV.fO (DV.fB DV.mAdd (DV.fVar 4) (DV.fC (.int 2)))) DV.fONone))))))
def l1 : AE → Option Fl := (DV.sSet 3 (DV.fLC (DV.fR1 (DV.fCons (DV.fVar 1) DV.fNil)) ([2] : List Nat) (DV.pName 2) (fun _ => some true) (DV.fTup (DV.fCons (DV.fTup (DV.fCons (DV.fC (.int 0)) DV.fNil)) (DV.fCons (DV.fTup (DV.fCons (DV.fC (.str "one")) DV.fNil)) DV.fNil)))))
def mLaid : AE → Option Fl := DV.sSeq l1 (DV.sSeq (DV.whGo lC lB 200) (DV.sRet (DV.fB DV.mIx (DV.fVar 3) (DV.fC (.int 0)))))
def Glaid : List D → List D → Option (D × List D) := runO 11 mLaid
def mHand (c1 c2 : Int) (ad : PySem.Addr) (ns : List Int) : AE → Option Fl := (DV.sSeq (DV.sSet 2 (DV.fLC (DV.fSeq (DV.fScr 0 ad ((ns.take 63).map L2.V.int))) ([1] : List Nat) (DV.pName 1) (fun _ => some true) (DV.fCB DV.mAbs (DV.fCons (DV.fCB DV.mInt (DV.fCons (DV.fVar 1) DV.fNil)) DV.fNil))))
  (DV.sRet (DV.fLst (DV.fCons (DV.fVar 2) (DV.fCons (DV.fC (.int 0)) (DV.fCons (DV.fC (.int 0)) (DV.fCons (DV.fB DV.mAdd (DV.fC (.int c1)) (DV.fB DV.mMul (DV.fC (.int c2)) (DV.fCB DV.mLen (DV.fCons (DV.fVar 2) DV.fNil)))) (DV.fCons (DV.fC (.int 0)) DV.fNil))))))))

/-! # the hand's draws -/
abbrev hnd (cells : List Int) (i : Nat) (b h3 h4 : Int) : List D := [.lst (cells.map D.int), .int (i : Nat), .int b, .int h3, .int h4]
def HandOk (xs : List D) : Prop := ∃ cells i b h3 h4, xs = hnd cells i b h3 h4
/-- a number that can be drawn below -/
def Many (m : Int) : Prop := 0 < m ∧ m.natAbs.log2 < 9000
theorem many_nat {n : Nat} (h1 : 1 ≤ n) (h2 : n ≤ 1000) : Many (n : Int) := ⟨by omega, by have := Nat.log2_le_self ((n : Int)).natAbs; omega⟩
section
variable {cells : List Int} {i : Nat} {b h3 h4 : Int}
theorem ix0 : mIx (.lst (hnd cells i b h3 h4)) (.v (.int 0)) = some (.lst (cells.map D.int)) := rfl
theorem ix1 : mIx (.lst (hnd cells i b h3 h4)) (.v (.int 1)) = some (.int (i : Nat)) := rfl
theorem ix2 : mIx (.lst (hnd cells i b h3 h4)) (.v (.int 2)) = some (.int b) := rfl
theorem ix3 : mIx (.lst (hnd cells i b h3 h4)) (.v (.int 3)) = some (.int h3) := rfl
theorem ix4 : mIx (.lst (hnd cells i b h3 h4)) (.v (.int 4)) = some (.int h4) := rfl
theorem set_at {q : AE → Option (D × AE)} {rest : AE} {d : D} {A1 : AE} {xs : List D} (k : Nat) (h1 : q A1 = some (d, some (.own true xs) :: rest)) (hk : k < xs.length) : sSetI 0 q (fC (.int (k : Nat))) A1 = some (.nx (some (.own true (xs.set k d)) :: rest)) := by
  unfold sSetI
  rw [h1, Option.bind_some]
  show (some (D.int (k : Nat))).bind _ = _
  rw [Option.bind_some, asI_int, Option.bind_some]
  simp only [List.getElem?_cons_zero]
  rw [if_pos (by rw [decide_eq_true_eq]; omega), Int.toNat_natCast]; rfl
end
theorem mInt_int (i : Int) : mInt [.v (.int i)] = some (.int i) := rfl
def n1 (h3 h4 : Int) : Int := ((h3 + 7919 * (h4 + 1)) * 48271) % 2147483647
def n2 (h3 h4 : Int) : Int := (n1 h3 h4 * (n1 h3 h4 / 1009 + 69621)) % 2147483647
def n3 (h3 h4 : Int) : Int := (n2 h3 h4 * (n2 h3 h4 / 2003 + 40692)) % 2147483399
def outO : Option Fl → Option (D × List D)
  | some (.rt d A) => (argOf A).map fun ys => (d, ys)
  | some (.nx A) => (argOf A).map fun ys => (.non, ys)
  | _ => none
theorem runO_eq (n : Nat) (m : AE → Option Fl) (xs ds : List D) : runO n m xs ds = outO (m (entryO n xs ds)) := by
  unfold runO
  cases m (entryO n xs ds) with
  | none => rfl
  | some fl => cases fl <;> rfl
theorem part3 (cells : List Int) (i : Nat) (b h3 h4 m : Int) (x y z : Option AV) (hm : Many m) :
    ∃ r z', dP3 [some (.own true (hnd cells i b h3 h4)), some (.dat (.int m)), x, y, z] = some (.rt (.int r) [some (.own true (hnd cells i b h3 (h4 + 1))), some (.dat (.int m)), x, y, z']) ∧ 0 ≤ r ∧ r < m := by
  have s4 : sSetI 0 (qf (fB mAdd (fB mIx (fOwn 0) (fC (.int 4))) (fC (.int 1)))) (fC (.int 4)) [some (.own true (hnd cells i b h3 h4)), some (.dat (.int m)), x, y, z] = some (.nx [some (.own true (hnd cells i b h3 (h4 + 1))), some (.dat (.int m)), x, y, z]) :=
    set_at (xs := hnd cells i b h3 h4) 4 (by simp only [DV.sSeq, DV.sRet, DV.sRetF, DV.sIf, DV.sIfF, DV.sSet, DV.sSetF, DV.sNil, DV.sExpr, DV.sExprX, DV.sRetX, DV.flX, DV.sRaise, DV.fVar, DV.fOwn, DV.fC, DV.fB, DV.gB, DV.fCB, DV.gCB, DV.fCons, DV.fNil, DV.gCons, DV.gNil, DV.fT, DV.gT, DV.asB_bl, DV.asI_int, DV.fAnd, DV.fOr, DV.fNot, DV.gAnd, DV.gOr, DV.gNot, DV.fAndV, DV.fOrV, DV.fNotV, DV.gAndV, DV.gOrV, DV.fCall, DV.fCallR, DV.gCall, DV.fX, DV.xq, DV.okOf, DV.fTup, DV.fLst, DV.gTupE, DV.gLst, DV.fIf, DV.gIf, DV.qf, DV.qtf, DV.qa, DV.qi, DV.fChain, DV.fSl, DV.fO, DV.fONone, DV.mSl, DV.fSeq, DV.gSeq, DV.seqOf_lst, DV.seqOf_tup, DV.fEnum, DV.nLst, DV.nList, DV.nMul, DV.sOwn, DV.sApp, DV.sPar, DV.sParF, DV.sParOO, DV.sParDO, DV.sAug, DV.mAddI, DV.sFor, DV.sAsg, DV.sAsgF, DV.pName, DV.pNil, DV.pCons, DV.pTup, DV.wipeA, DV.mLen_lst, DV.mLen_tup, DV.mTuple, DV.mList, DV.mInt, DV.mAbs, DV.add_int, DV.mSub, DV.mLt, DV.mLe, DV.mGt, DV.mGe, DV.mRev, DV.fRev, DV.eq_ii, DV.ne_ii, DV.eq_tt, DV.ne_tt, DV.eq_ll, DV.ne_ll, Option.bind_some, Option.map_some, Option.bind_none, Option.map_none, List.getElem?_cons_zero, List.getElem?_cons_succ, List.set_cons_zero, List.set_cons_succ, List.length_cons, List.length_nil, List.length_map, Nat.zero_add, Nat.reduceAdd, ↓reduceIte, Bool.false_eq_true, if_true, if_false, Bool.not_true, Bool.not_false, ix4]) (by show 4 < 5; decide)
  have a1 : ∀ j : Int, mMul (.int 7919) (.int j) = some (.int (7919 * j)) := fun j => mul_small' (by decide)
  have a2 : ∀ j : Int, mMul (.int j) (.int 48271) = some (.int (j * 48271)) := fun j => mul_small (by decide)
  have a3 : ∀ j : Int, mMod (.int j) (.int 2147483647) = some (.int (j % 2147483647)) := fun j => mod_pos (by decide)
  have a4 : ∀ j : Int, mDiv (.int j) (.int 1009) = some (.int (j / 1009)) := fun j => div_pos (by decide) (by decide)
  have a5 : ∀ j : Int, mDiv (.int j) (.int 2003) = some (.int (j / 2003)) := fun j => div_pos (by decide) (by decide)
  have a6 : ∀ j : Int, mDiv (.int j) (.int 16) = some (.int (j / 16)) := fun j => div_pos (by decide) (by decide)
  have a7 : ∀ j : Int, mMod (.int j) (.int 2147483399) = some (.int (j % 2147483399)) := fun j => mod_pos (by decide)
  have a8 : ∀ j k : Int, mMul (.int (j % 2147483647)) (.int k) = some (.int (j % 2147483647 * k)) := fun j k => mul_small' (by
    have h1 := Int.emod_nonneg j (show (2147483647 : Int) ≠ 0 by decide)
    have h2 := Int.emod_lt_of_pos j (show (0 : Int) < 2147483647 by decide)
    omega)
  have a9 : ∀ j : Int, mMod (.int j) (.int m) = some (.int (j % m)) := fun j => mod_pos hm.1
  have key : dP3 [some (.own true (hnd cells i b h3 h4)), some (.dat (.int m)), x, y, z] = some (.rt (.int (n3 h3 h4 / 16 % m)) [some (.own true (hnd cells i b h3 (h4 + 1))), some (.dat (.int m)), x, y, some (.dat (.int (n3 h3 h4)))]) := by
    unfold dP3
    simp only [DV.sSeq, DV.sRet, DV.sRetF, DV.sIf, DV.sIfF, DV.sSet, DV.sSetF, DV.sNil, DV.sExpr, DV.sExprX, DV.sRetX, DV.flX, DV.sRaise, DV.fVar, DV.fOwn, DV.fC, DV.fB, DV.gB, DV.fCB, DV.gCB, DV.fCons, DV.fNil, DV.gCons, DV.gNil, DV.fT, DV.gT, DV.asB_bl, DV.asI_int, DV.fAnd, DV.fOr, DV.fNot, DV.gAnd, DV.gOr, DV.gNot, DV.fAndV, DV.fOrV, DV.fNotV, DV.gAndV, DV.gOrV, DV.fCall, DV.fCallR, DV.gCall, DV.fX, DV.xq, DV.okOf, DV.fTup, DV.fLst, DV.gTupE, DV.gLst, DV.fIf, DV.gIf, DV.qf, DV.qtf, DV.qa, DV.qi, DV.fChain, DV.fSl, DV.fO, DV.fONone, DV.mSl, DV.fSeq, DV.gSeq, DV.seqOf_lst, DV.seqOf_tup, DV.fEnum, DV.nLst, DV.nList, DV.nMul, DV.sOwn, DV.sApp, DV.sPar, DV.sParF, DV.sParOO, DV.sParDO, DV.sAug, DV.mAddI, DV.sFor, DV.sAsg, DV.sAsgF, DV.pName, DV.pNil, DV.pCons, DV.pTup, DV.wipeA, DV.mLen_lst, DV.mLen_tup, DV.mTuple, DV.mList, DV.mInt, DV.mAbs, DV.add_int, DV.mSub, DV.mLt, DV.mLe, DV.mGt, DV.mGe, DV.mRev, DV.fRev, DV.eq_ii, DV.ne_ii, DV.eq_tt, DV.ne_tt, DV.eq_ll, DV.ne_ll, Option.bind_some, Option.map_some, Option.bind_none, Option.map_none, List.getElem?_cons_zero, List.getElem?_cons_succ, List.set_cons_zero, List.set_cons_succ, List.length_cons, List.length_nil, List.length_map, Nat.zero_add, Nat.reduceAdd, ↓reduceIte, Bool.false_eq_true, if_true, if_false, Bool.not_true, Bool.not_false, s4, ix3, ix4, a1, a2, a3, a4, a5, a6, a7, a8, a9, mInt_int, n1, n2, n3]
  refine ⟨_, _, key, Int.emod_nonneg _ (by have := hm.1; omega), Int.emod_lt_of_pos _ hm.1⟩
theorem part2 (cells : List Int) (i : Nat) (b h3 h4 m : Int) (x y z : Option AV) (hm : Many m) :
    ∃ r xs A', (sSeq dP2 dP3) [some (.own true (hnd cells i b h3 h4)), some (.dat (.int m)), x, y, z] = some (.rt (.int r) (some (.own true xs) :: A')) ∧ 0 ≤ r ∧ r < m ∧ HandOk xs := by
  have a1 : ∀ j : Int, mMod (.int j) (.int m) = some (.int (j % m)) := fun j => mod_pos hm.1
  have a2 : ∀ j : Int, mDiv (.int j) (.int m) = some (.int (j / m)) := fun j => div_pos hm.1 hm.2
  by_cases hb : 0 < b
  · have s2 : sSetI 0 (qf (fB mDiv (fB mIx (fOwn 0) (fC (.int 2))) (fVar 1))) (fC (.int 2)) [some (.own true (hnd cells i b h3 h4)), some (.dat (.int m)), x, some (.dat (.int (b % m))), z] = some (.nx [some (.own true (hnd cells i (b / m) h3 h4)), some (.dat (.int m)), x, some (.dat (.int (b % m))), z]) :=
      set_at (xs := hnd cells i b h3 h4) 2 (by simp only [DV.sSeq, DV.sRet, DV.sRetF, DV.sIf, DV.sIfF, DV.sSet, DV.sSetF, DV.sNil, DV.sExpr, DV.sExprX, DV.sRetX, DV.flX, DV.sRaise, DV.fVar, DV.fOwn, DV.fC, DV.fB, DV.gB, DV.fCB, DV.gCB, DV.fCons, DV.fNil, DV.gCons, DV.gNil, DV.fT, DV.gT, DV.asB_bl, DV.asI_int, DV.fAnd, DV.fOr, DV.fNot, DV.gAnd, DV.gOr, DV.gNot, DV.fAndV, DV.fOrV, DV.fNotV, DV.gAndV, DV.gOrV, DV.fCall, DV.fCallR, DV.gCall, DV.fX, DV.xq, DV.okOf, DV.fTup, DV.fLst, DV.gTupE, DV.gLst, DV.fIf, DV.gIf, DV.qf, DV.qtf, DV.qa, DV.qi, DV.fChain, DV.fSl, DV.fO, DV.fONone, DV.mSl, DV.fSeq, DV.gSeq, DV.seqOf_lst, DV.seqOf_tup, DV.fEnum, DV.nLst, DV.nList, DV.nMul, DV.sOwn, DV.sApp, DV.sPar, DV.sParF, DV.sParOO, DV.sParDO, DV.sAug, DV.mAddI, DV.sFor, DV.sAsg, DV.sAsgF, DV.pName, DV.pNil, DV.pCons, DV.pTup, DV.wipeA, DV.mLen_lst, DV.mLen_tup, DV.mTuple, DV.mList, DV.mInt, DV.mAbs, DV.add_int, DV.mSub, DV.mLt, DV.mLe, DV.mGt, DV.mGe, DV.mRev, DV.fRev, DV.eq_ii, DV.ne_ii, DV.eq_tt, DV.ne_tt, DV.eq_ll, DV.ne_ll, Option.bind_some, Option.map_some, Option.bind_none, Option.map_none, List.getElem?_cons_zero, List.getElem?_cons_succ, List.set_cons_zero, List.set_cons_succ, List.length_cons, List.length_nil, List.length_map, Nat.zero_add, Nat.reduceAdd, ↓reduceIte, Bool.false_eq_true, if_true, if_false, Bool.not_true, Bool.not_false, ix2, a2]) (by show 2 < 5; decide)
    have hb' : decide (0 < b) = true := decide_eq_true hb
    refine ⟨b % m, hnd cells i (b / m) h3 h4, [some (.dat (.int m)), x, some (.dat (.int (b % m))), z], ?_, Int.emod_nonneg _ (by have := hm.1; omega), Int.emod_lt_of_pos _ hm.1, _, _, _, _, _, rfl⟩
    unfold dP2
    simp only [DV.sSeq, DV.sRet, DV.sRetF, DV.sIf, DV.sIfF, DV.sSet, DV.sSetF, DV.sNil, DV.sExpr, DV.sExprX, DV.sRetX, DV.flX, DV.sRaise, DV.fVar, DV.fOwn, DV.fC, DV.fB, DV.gB, DV.fCB, DV.gCB, DV.fCons, DV.fNil, DV.gCons, DV.gNil, DV.fT, DV.gT, DV.asB_bl, DV.asI_int, DV.fAnd, DV.fOr, DV.fNot, DV.gAnd, DV.gOr, DV.gNot, DV.fAndV, DV.fOrV, DV.fNotV, DV.gAndV, DV.gOrV, DV.fCall, DV.fCallR, DV.gCall, DV.fX, DV.xq, DV.okOf, DV.fTup, DV.fLst, DV.gTupE, DV.gLst, DV.fIf, DV.gIf, DV.qf, DV.qtf, DV.qa, DV.qi, DV.fChain, DV.fSl, DV.fO, DV.fONone, DV.mSl, DV.fSeq, DV.gSeq, DV.seqOf_lst, DV.seqOf_tup, DV.fEnum, DV.nLst, DV.nList, DV.nMul, DV.sOwn, DV.sApp, DV.sPar, DV.sParF, DV.sParOO, DV.sParDO, DV.sAug, DV.mAddI, DV.sFor, DV.sAsg, DV.sAsgF, DV.pName, DV.pNil, DV.pCons, DV.pTup, DV.wipeA, DV.mLen_lst, DV.mLen_tup, DV.mTuple, DV.mList, DV.mInt, DV.mAbs, DV.add_int, DV.mSub, DV.mLt, DV.mLe, DV.mGt, DV.mGe, DV.mRev, DV.fRev, DV.eq_ii, DV.ne_ii, DV.eq_tt, DV.ne_tt, DV.eq_ll, DV.ne_ll, Option.bind_some, Option.map_some, Option.bind_none, Option.map_none, List.getElem?_cons_zero, List.getElem?_cons_succ, List.set_cons_zero, List.set_cons_succ, List.length_cons, List.length_nil, List.length_map, Nat.zero_add, Nat.reduceAdd, ↓reduceIte, Bool.false_eq_true, if_true, if_false, Bool.not_true, Bool.not_false, ix2, a1, mInt_int, hb', s2]
  · have hb' : decide (0 < b) = false := decide_eq_false hb
    obtain ⟨r, z', e, r0, r1⟩ := part3 cells i b h3 h4 m x y z hm
    refine ⟨r, hnd cells i b h3 (h4 + 1), [some (.dat (.int m)), x, y, z'], ?_, r0, r1, _, _, _, _, _, rfl⟩
    unfold dP2
    simp only [DV.sSeq, DV.sRet, DV.sRetF, DV.sIf, DV.sIfF, DV.sSet, DV.sSetF, DV.sNil, DV.sExpr, DV.sExprX, DV.sRetX, DV.flX, DV.sRaise, DV.fVar, DV.fOwn, DV.fC, DV.fB, DV.gB, DV.fCB, DV.gCB, DV.fCons, DV.fNil, DV.gCons, DV.gNil, DV.fT, DV.gT, DV.asB_bl, DV.asI_int, DV.fAnd, DV.fOr, DV.fNot, DV.gAnd, DV.gOr, DV.gNot, DV.fAndV, DV.fOrV, DV.fNotV, DV.gAndV, DV.gOrV, DV.fCall, DV.fCallR, DV.gCall, DV.fX, DV.xq, DV.okOf, DV.fTup, DV.fLst, DV.gTupE, DV.gLst, DV.fIf, DV.gIf, DV.qf, DV.qtf, DV.qa, DV.qi, DV.fChain, DV.fSl, DV.fO, DV.fONone, DV.mSl, DV.fSeq, DV.gSeq, DV.seqOf_lst, DV.seqOf_tup, DV.fEnum, DV.nLst, DV.nList, DV.nMul, DV.sOwn, DV.sApp, DV.sPar, DV.sParF, DV.sParOO, DV.sParDO, DV.sAug, DV.mAddI, DV.sFor, DV.sAsg, DV.sAsgF, DV.pName, DV.pNil, DV.pCons, DV.pTup, DV.wipeA, DV.mLen_lst, DV.mLen_tup, DV.mTuple, DV.mList, DV.mInt, DV.mAbs, DV.add_int, DV.mSub, DV.mLt, DV.mLe, DV.mGt, DV.mGe, DV.mRev, DV.fRev, DV.eq_ii, DV.ne_ii, DV.eq_tt, DV.ne_tt, DV.eq_ll, DV.ne_ll, Option.bind_some, Option.map_some, Option.bind_none, Option.map_none, List.getElem?_cons_zero, List.getElem?_cons_succ, List.set_cons_zero, List.set_cons_succ, List.length_cons, List.length_nil, List.length_map, Nat.zero_add, Nat.reduceAdd, ↓reduceIte, Bool.false_eq_true, if_true, if_false, Bool.not_true, Bool.not_false, ix2, hb', e]
theorem pow18 : mPow (.int 10) (.int 18) = some (.int 1000000000000000000) := rfl
theorem draw_ok {xs : List D} {m : Int} (h : HandOk xs) (hm : Many m) : ∃ r xs', Gdraw xs [.int m] = some (.int r, xs') ∧ 0 ≤ r ∧ r < m ∧ HandOk xs' := by
  obtain ⟨cells, i, b, h3, h4, rfl⟩ := h
  have fin : ∀ {o : Option Fl}, (∃ r xs A', o = some (.rt (.int r) (some (.own true xs) :: A')) ∧ 0 ≤ r ∧ r < m ∧ HandOk xs) → ∃ r xs', outO o = some (D.int r, xs') ∧ 0 ≤ r ∧ r < m ∧ HandOk xs' := fun {o} ⟨r, xs, A', e, q⟩ => ⟨r, xs, by rw [e]; rfl, q⟩
  unfold Gdraw
  rw [runO_eq]
  refine fin ?_
  show ∃ r xs A', mDraw [some (.own true (hnd cells i b h3 h4)), some (.dat (.int m)), none, none, none] = _ ∧ _
  unfold mDraw
  have nx : ∀ {A A2 : AE}, dP1 A = some (.nx A2) → sSeq dP1 (sSeq dP2 dP3) A = sSeq dP2 dP3 A2 := fun {A A2} e => by
    show (dP1 A).bind _ = _
    rw [e]; rfl
  by_cases c1 : b = 0 ∧ i < cells.length
  · obtain ⟨rfl, hi⟩ := c1
    have e0 : mIx (.lst (cells.map D.int)) (.v (.int (i : Nat))) = some (.int cells[i]) := by
      show L2.atI (cells.map D.int) (i : Nat) = _
      rw [atI_nat (by rw [List.length_map]; exact hi), List.getElem?_map, List.getElem?_eq_getElem hi]; rfl
    have a1 : ∀ j : Int, mMul (.int j) (.int 69621) = some (.int (j * 69621)) := fun j => mul_small (by decide)
    have a2 : ∀ j : Int, mMul (.int j) (.int 40692) = some (.int (j * 40692)) := fun j => mul_small (by decide)
    have a3 : ∀ j : Int, mMod (.int j) (.int 2147483629) = some (.int (j % 2147483629)) := fun j => mod_pos (by decide)
    have s1 : sSetI 0 (qf (fB mAdd (fB mIx (fOwn 0) (fC (.int 1))) (fC (.int 1)))) (fC (.int 1)) [some (.own true (hnd cells i 0 h3 h4)), some (.dat (.int m)), some (.dat (.int cells[i])), none, none] = some (.nx [some (.own true (hnd cells (i + 1) 0 h3 h4)), some (.dat (.int m)), some (.dat (.int cells[i])), none, none]) :=
      set_at (xs := hnd cells i 0 h3 h4) 1 (by simp only [DV.sSeq, DV.sRet, DV.sRetF, DV.sIf, DV.sIfF, DV.sSet, DV.sSetF, DV.sNil, DV.sExpr, DV.sExprX, DV.sRetX, DV.flX, DV.sRaise, DV.fVar, DV.fOwn, DV.fC, DV.fB, DV.gB, DV.fCB, DV.gCB, DV.fCons, DV.fNil, DV.gCons, DV.gNil, DV.fT, DV.gT, DV.asB_bl, DV.asI_int, DV.fAnd, DV.fOr, DV.fNot, DV.gAnd, DV.gOr, DV.gNot, DV.fAndV, DV.fOrV, DV.fNotV, DV.gAndV, DV.gOrV, DV.fCall, DV.fCallR, DV.gCall, DV.fX, DV.xq, DV.okOf, DV.fTup, DV.fLst, DV.gTupE, DV.gLst, DV.fIf, DV.gIf, DV.qf, DV.qtf, DV.qa, DV.qi, DV.fChain, DV.fSl, DV.fO, DV.fONone, DV.mSl, DV.fSeq, DV.gSeq, DV.seqOf_lst, DV.seqOf_tup, DV.fEnum, DV.nLst, DV.nList, DV.nMul, DV.sOwn, DV.sApp, DV.sPar, DV.sParF, DV.sParOO, DV.sParDO, DV.sAug, DV.mAddI, DV.sFor, DV.sAsg, DV.sAsgF, DV.pName, DV.pNil, DV.pCons, DV.pTup, DV.wipeA, DV.mLen_lst, DV.mLen_tup, DV.mTuple, DV.mList, DV.mInt, DV.mAbs, DV.add_int, DV.mSub, DV.mLt, DV.mLe, DV.mGt, DV.mGe, DV.mRev, DV.fRev, DV.eq_ii, DV.ne_ii, DV.eq_tt, DV.ne_tt, DV.eq_ll, DV.ne_ll, Option.bind_some, Option.map_some, Option.bind_none, Option.map_none, List.getElem?_cons_zero, List.getElem?_cons_succ, List.set_cons_zero, List.set_cons_succ, List.length_cons, List.length_nil, List.length_map, Nat.zero_add, Nat.reduceAdd, ↓reduceIte, Bool.false_eq_true, if_true, if_false, Bool.not_true, Bool.not_false, ix1]; rfl) (by show 1 < 5; decide)
    have s3 : ∀ q : Int, ∀ f : AE → Option (D × AE), f [some (.own true (hnd cells (i + 1) 0 h3 h4)), some (.dat (.int m)), some (.dat (.int cells[i])), none, none] = some (.int q, [some (.own true (hnd cells (i + 1) 0 h3 h4)), some (.dat (.int m)), some (.dat (.int cells[i])), none, none]) → sSetI 0 f (fC (.int 3)) [some (.own true (hnd cells (i + 1) 0 h3 h4)), some (.dat (.int m)), some (.dat (.int cells[i])), none, none] = some (.nx [some (.own true (hnd cells (i + 1) 0 q h4)), some (.dat (.int m)), some (.dat (.int cells[i])), none, none]) :=
      fun q f hf => set_at (xs := hnd cells (i + 1) 0 h3 h4) 3 hf (by show 3 < 5; decide)
    have s2 : ∀ q : Int, sSetI 0 (qf (fVar 2)) (fC (.int 2)) [some (.own true (hnd cells (i + 1) 0 q h4)), some (.dat (.int m)), some (.dat (.int cells[i])), none, none] = some (.nx [some (.own true (hnd cells (i + 1) cells[i] q h4)), some (.dat (.int m)), some (.dat (.int cells[i])), none, none]) :=
      fun q => set_at (xs := hnd cells (i + 1) 0 q h4) 2 rfl (by show 2 < 5; decide)
    have c2 : decide (((i : Nat) : Int) < (cells.length : Nat)) = true := by rw [decide_eq_true_eq]; omega
    have key : ∃ b' q, dP1 [some (.own true (hnd cells i 0 h3 h4)), some (.dat (.int m)), none, none, none] = some (.nx [some (.own true (hnd cells (i + 1) b' q h4)), some (.dat (.int m)), some (.dat (.int cells[i])), none, none]) := by
      unfold dP1
      simp only [DV.sSeq, DV.sRet, DV.sRetF, DV.sIf, DV.sIfF, DV.sSet, DV.sSetF, DV.sNil, DV.sExpr, DV.sExprX, DV.sRetX, DV.flX, DV.sRaise, DV.fVar, DV.fOwn, DV.fC, DV.fB, DV.gB, DV.fCB, DV.gCB, DV.fCons, DV.fNil, DV.gCons, DV.gNil, DV.fT, DV.gT, DV.asB_bl, DV.asI_int, DV.fAnd, DV.fOr, DV.fNot, DV.gAnd, DV.gOr, DV.gNot, DV.fAndV, DV.fOrV, DV.fNotV, DV.gAndV, DV.gOrV, DV.fCall, DV.fCallR, DV.gCall, DV.fX, DV.xq, DV.okOf, DV.fTup, DV.fLst, DV.gTupE, DV.gLst, DV.fIf, DV.gIf, DV.qf, DV.qtf, DV.qa, DV.qi, DV.fChain, DV.fSl, DV.fO, DV.fONone, DV.mSl, DV.fSeq, DV.gSeq, DV.seqOf_lst, DV.seqOf_tup, DV.fEnum, DV.nLst, DV.nList, DV.nMul, DV.sOwn, DV.sApp, DV.sPar, DV.sParF, DV.sParOO, DV.sParDO, DV.sAug, DV.mAddI, DV.sFor, DV.sAsg, DV.sAsgF, DV.pName, DV.pNil, DV.pCons, DV.pTup, DV.wipeA, DV.mLen_lst, DV.mLen_tup, DV.mTuple, DV.mList, DV.mInt, DV.mAbs, DV.add_int, DV.mSub, DV.mLt, DV.mLe, DV.mGt, DV.mGe, DV.mRev, DV.fRev, DV.eq_ii, DV.ne_ii, DV.eq_tt, DV.ne_tt, DV.eq_ll, DV.ne_ll, Option.bind_some, Option.map_some, Option.bind_none, Option.map_none, List.getElem?_cons_zero, List.getElem?_cons_succ, List.set_cons_zero, List.set_cons_succ, List.length_cons, List.length_nil, List.length_map, Nat.zero_add, Nat.reduceAdd, ↓reduceIte, Bool.false_eq_true, if_true, if_false, Bool.not_true, Bool.not_false, ix0, ix1, ix2, ix3, e0, c2, decide_true, s1]
      rw [s3 _ _ (by simp only [DV.sSeq, DV.sRet, DV.sRetF, DV.sIf, DV.sIfF, DV.sSet, DV.sSetF, DV.sNil, DV.sExpr, DV.sExprX, DV.sRetX, DV.flX, DV.sRaise, DV.fVar, DV.fOwn, DV.fC, DV.fB, DV.gB, DV.fCB, DV.gCB, DV.fCons, DV.fNil, DV.gCons, DV.gNil, DV.fT, DV.gT, DV.asB_bl, DV.asI_int, DV.fAnd, DV.fOr, DV.fNot, DV.gAnd, DV.gOr, DV.gNot, DV.fAndV, DV.fOrV, DV.fNotV, DV.gAndV, DV.gOrV, DV.fCall, DV.fCallR, DV.gCall, DV.fX, DV.xq, DV.okOf, DV.fTup, DV.fLst, DV.gTupE, DV.gLst, DV.fIf, DV.gIf, DV.qf, DV.qtf, DV.qa, DV.qi, DV.fChain, DV.fSl, DV.fO, DV.fONone, DV.mSl, DV.fSeq, DV.gSeq, DV.seqOf_lst, DV.seqOf_tup, DV.fEnum, DV.nLst, DV.nList, DV.nMul, DV.sOwn, DV.sApp, DV.sPar, DV.sParF, DV.sParOO, DV.sParDO, DV.sAug, DV.mAddI, DV.sFor, DV.sAsg, DV.sAsgF, DV.pName, DV.pNil, DV.pCons, DV.pTup, DV.wipeA, DV.mLen_lst, DV.mLen_tup, DV.mTuple, DV.mList, DV.mInt, DV.mAbs, DV.add_int, DV.mSub, DV.mLt, DV.mLe, DV.mGt, DV.mGe, DV.mRev, DV.fRev, DV.eq_ii, DV.ne_ii, DV.eq_tt, DV.ne_tt, DV.eq_ll, DV.ne_ll, Option.bind_some, Option.map_some, Option.bind_none, Option.map_none, List.getElem?_cons_zero, List.getElem?_cons_succ, List.set_cons_zero, List.set_cons_succ, List.length_cons, List.length_nil, List.length_map, Nat.zero_add, Nat.reduceAdd, ↓reduceIte, Bool.false_eq_true, if_true, if_false, Bool.not_true, Bool.not_false, ix3, a1, a2, a3, mInt_int]; rfl)]
      simp only [DV.sSeq, DV.sRet, DV.sRetF, DV.sIf, DV.sIfF, DV.sSet, DV.sSetF, DV.sNil, DV.sExpr, DV.sExprX, DV.sRetX, DV.flX, DV.sRaise, DV.fVar, DV.fOwn, DV.fC, DV.fB, DV.gB, DV.fCB, DV.gCB, DV.fCons, DV.fNil, DV.gCons, DV.gNil, DV.fT, DV.gT, DV.asB_bl, DV.asI_int, DV.fAnd, DV.fOr, DV.fNot, DV.gAnd, DV.gOr, DV.gNot, DV.fAndV, DV.fOrV, DV.fNotV, DV.gAndV, DV.gOrV, DV.fCall, DV.fCallR, DV.gCall, DV.fX, DV.xq, DV.okOf, DV.fTup, DV.fLst, DV.gTupE, DV.gLst, DV.fIf, DV.gIf, DV.qf, DV.qtf, DV.qa, DV.qi, DV.fChain, DV.fSl, DV.fO, DV.fONone, DV.mSl, DV.fSeq, DV.gSeq, DV.seqOf_lst, DV.seqOf_tup, DV.fEnum, DV.nLst, DV.nList, DV.nMul, DV.sOwn, DV.sApp, DV.sPar, DV.sParF, DV.sParOO, DV.sParDO, DV.sAug, DV.mAddI, DV.sFor, DV.sAsg, DV.sAsgF, DV.pName, DV.pNil, DV.pCons, DV.pTup, DV.wipeA, DV.mLen_lst, DV.mLen_tup, DV.mTuple, DV.mList, DV.mInt, DV.mAbs, DV.add_int, DV.mSub, DV.mLt, DV.mLe, DV.mGt, DV.mGe, DV.mRev, DV.fRev, DV.eq_ii, DV.ne_ii, DV.eq_tt, DV.ne_tt, DV.eq_ll, DV.ne_ll, Option.bind_some, Option.map_some, Option.bind_none, Option.map_none, List.getElem?_cons_zero, List.getElem?_cons_succ, List.set_cons_zero, List.set_cons_succ, List.length_cons, List.length_nil, List.length_map, Nat.zero_add, Nat.reduceAdd, ↓reduceIte, Bool.false_eq_true, if_true, if_false, Bool.not_true, Bool.not_false, pow18]
      by_cases c3 : (1000000000000000000 : Int) ≤ cells[i]
      · exact ⟨_, _, by simp only [DV.sSeq, DV.sRet, DV.sRetF, DV.sIf, DV.sIfF, DV.sSet, DV.sSetF, DV.sNil, DV.sExpr, DV.sExprX, DV.sRetX, DV.flX, DV.sRaise, DV.fVar, DV.fOwn, DV.fC, DV.fB, DV.gB, DV.fCB, DV.gCB, DV.fCons, DV.fNil, DV.gCons, DV.gNil, DV.fT, DV.gT, DV.asB_bl, DV.asI_int, DV.fAnd, DV.fOr, DV.fNot, DV.gAnd, DV.gOr, DV.gNot, DV.fAndV, DV.fOrV, DV.fNotV, DV.gAndV, DV.gOrV, DV.fCall, DV.fCallR, DV.gCall, DV.fX, DV.xq, DV.okOf, DV.fTup, DV.fLst, DV.gTupE, DV.gLst, DV.fIf, DV.gIf, DV.qf, DV.qtf, DV.qa, DV.qi, DV.fChain, DV.fSl, DV.fO, DV.fONone, DV.mSl, DV.fSeq, DV.gSeq, DV.seqOf_lst, DV.seqOf_tup, DV.fEnum, DV.nLst, DV.nList, DV.nMul, DV.sOwn, DV.sApp, DV.sPar, DV.sParF, DV.sParOO, DV.sParDO, DV.sAug, DV.mAddI, DV.sFor, DV.sAsg, DV.sAsgF, DV.pName, DV.pNil, DV.pCons, DV.pTup, DV.wipeA, DV.mLen_lst, DV.mLen_tup, DV.mTuple, DV.mList, DV.mInt, DV.mAbs, DV.add_int, DV.mSub, DV.mLt, DV.mLe, DV.mGt, DV.mGe, DV.mRev, DV.fRev, DV.eq_ii, DV.ne_ii, DV.eq_tt, DV.ne_tt, DV.eq_ll, DV.ne_ll, Option.bind_some, Option.map_some, Option.bind_none, Option.map_none, List.getElem?_cons_zero, List.getElem?_cons_succ, List.set_cons_zero, List.set_cons_succ, List.length_cons, List.length_nil, List.length_map, Nat.zero_add, Nat.reduceAdd, ↓reduceIte, Bool.false_eq_true, if_true, if_false, Bool.not_true, Bool.not_false, decide_eq_true c3, s2]; rfl⟩
      · exact ⟨_, _, by simp only [DV.sSeq, DV.sRet, DV.sRetF, DV.sIf, DV.sIfF, DV.sSet, DV.sSetF, DV.sNil, DV.sExpr, DV.sExprX, DV.sRetX, DV.flX, DV.sRaise, DV.fVar, DV.fOwn, DV.fC, DV.fB, DV.gB, DV.fCB, DV.gCB, DV.fCons, DV.fNil, DV.gCons, DV.gNil, DV.fT, DV.gT, DV.asB_bl, DV.asI_int, DV.fAnd, DV.fOr, DV.fNot, DV.gAnd, DV.gOr, DV.gNot, DV.fAndV, DV.fOrV, DV.fNotV, DV.gAndV, DV.gOrV, DV.fCall, DV.fCallR, DV.gCall, DV.fX, DV.xq, DV.okOf, DV.fTup, DV.fLst, DV.gTupE, DV.gLst, DV.fIf, DV.gIf, DV.qf, DV.qtf, DV.qa, DV.qi, DV.fChain, DV.fSl, DV.fO, DV.fONone, DV.mSl, DV.fSeq, DV.gSeq, DV.seqOf_lst, DV.seqOf_tup, DV.fEnum, DV.nLst, DV.nList, DV.nMul, DV.sOwn, DV.sApp, DV.sPar, DV.sParF, DV.sParOO, DV.sParDO, DV.sAug, DV.mAddI, DV.sFor, DV.sAsg, DV.sAsgF, DV.pName, DV.pNil, DV.pCons, DV.pTup, DV.wipeA, DV.mLen_lst, DV.mLen_tup, DV.mTuple, DV.mList, DV.mInt, DV.mAbs, DV.add_int, DV.mSub, DV.mLt, DV.mLe, DV.mGt, DV.mGe, DV.mRev, DV.fRev, DV.eq_ii, DV.ne_ii, DV.eq_tt, DV.ne_tt, DV.eq_ll, DV.ne_ll, Option.bind_some, Option.map_some, Option.bind_none, Option.map_none, List.getElem?_cons_zero, List.getElem?_cons_succ, List.set_cons_zero, List.set_cons_succ, List.length_cons, List.length_nil, List.length_map, Nat.zero_add, Nat.reduceAdd, ↓reduceIte, Bool.false_eq_true, if_true, if_false, Bool.not_true, Bool.not_false, decide_eq_false c3]; rfl⟩
    obtain ⟨b', q, e⟩ := key
    rw [nx e]
    exact part2 cells (i + 1) b' q h4 m _ _ _ hm
  · have key : dP1 [some (.own true (hnd cells i b h3 h4)), some (.dat (.int m)), none, none, none] = some (.nx [some (.own true (hnd cells i b h3 h4)), some (.dat (.int m)), none, none, none]) := by
      unfold dP1
      by_cases c2 : b = 0
      · have c3 : decide (((i : Nat) : Int) < (cells.length : Nat)) = false := by rw [decide_eq_false_iff_not]; intro z; exact c1 ⟨c2, by omega⟩
        subst c2
        simp only [DV.sSeq, DV.sRet, DV.sRetF, DV.sIf, DV.sIfF, DV.sSet, DV.sSetF, DV.sNil, DV.sExpr, DV.sExprX, DV.sRetX, DV.flX, DV.sRaise, DV.fVar, DV.fOwn, DV.fC, DV.fB, DV.gB, DV.fCB, DV.gCB, DV.fCons, DV.fNil, DV.gCons, DV.gNil, DV.fT, DV.gT, DV.asB_bl, DV.asI_int, DV.fAnd, DV.fOr, DV.fNot, DV.gAnd, DV.gOr, DV.gNot, DV.fAndV, DV.fOrV, DV.fNotV, DV.gAndV, DV.gOrV, DV.fCall, DV.fCallR, DV.gCall, DV.fX, DV.xq, DV.okOf, DV.fTup, DV.fLst, DV.gTupE, DV.gLst, DV.fIf, DV.gIf, DV.qf, DV.qtf, DV.qa, DV.qi, DV.fChain, DV.fSl, DV.fO, DV.fONone, DV.mSl, DV.fSeq, DV.gSeq, DV.seqOf_lst, DV.seqOf_tup, DV.fEnum, DV.nLst, DV.nList, DV.nMul, DV.sOwn, DV.sApp, DV.sPar, DV.sParF, DV.sParOO, DV.sParDO, DV.sAug, DV.mAddI, DV.sFor, DV.sAsg, DV.sAsgF, DV.pName, DV.pNil, DV.pCons, DV.pTup, DV.wipeA, DV.mLen_lst, DV.mLen_tup, DV.mTuple, DV.mList, DV.mInt, DV.mAbs, DV.add_int, DV.mSub, DV.mLt, DV.mLe, DV.mGt, DV.mGe, DV.mRev, DV.fRev, DV.eq_ii, DV.ne_ii, DV.eq_tt, DV.ne_tt, DV.eq_ll, DV.ne_ll, Option.bind_some, Option.map_some, Option.bind_none, Option.map_none, List.getElem?_cons_zero, List.getElem?_cons_succ, List.set_cons_zero, List.set_cons_succ, List.length_cons, List.length_nil, List.length_map, Nat.zero_add, Nat.reduceAdd, ↓reduceIte, Bool.false_eq_true, if_true, if_false, Bool.not_true, Bool.not_false, ix0, ix1, ix2, c3, decide_true]
      · simp only [DV.sSeq, DV.sRet, DV.sRetF, DV.sIf, DV.sIfF, DV.sSet, DV.sSetF, DV.sNil, DV.sExpr, DV.sExprX, DV.sRetX, DV.flX, DV.sRaise, DV.fVar, DV.fOwn, DV.fC, DV.fB, DV.gB, DV.fCB, DV.gCB, DV.fCons, DV.fNil, DV.gCons, DV.gNil, DV.fT, DV.gT, DV.asB_bl, DV.asI_int, DV.fAnd, DV.fOr, DV.fNot, DV.gAnd, DV.gOr, DV.gNot, DV.fAndV, DV.fOrV, DV.fNotV, DV.gAndV, DV.gOrV, DV.fCall, DV.fCallR, DV.gCall, DV.fX, DV.xq, DV.okOf, DV.fTup, DV.fLst, DV.gTupE, DV.gLst, DV.fIf, DV.gIf, DV.qf, DV.qtf, DV.qa, DV.qi, DV.fChain, DV.fSl, DV.fO, DV.fONone, DV.mSl, DV.fSeq, DV.gSeq, DV.seqOf_lst, DV.seqOf_tup, DV.fEnum, DV.nLst, DV.nList, DV.nMul, DV.sOwn, DV.sApp, DV.sPar, DV.sParF, DV.sParOO, DV.sParDO, DV.sAug, DV.mAddI, DV.sFor, DV.sAsg, DV.sAsgF, DV.pName, DV.pNil, DV.pCons, DV.pTup, DV.wipeA, DV.mLen_lst, DV.mLen_tup, DV.mTuple, DV.mList, DV.mInt, DV.mAbs, DV.add_int, DV.mSub, DV.mLt, DV.mLe, DV.mGt, DV.mGe, DV.mRev, DV.fRev, DV.eq_ii, DV.ne_ii, DV.eq_tt, DV.ne_tt, DV.eq_ll, DV.ne_ll, Option.bind_some, Option.map_some, Option.bind_none, Option.map_none, List.getElem?_cons_zero, List.getElem?_cons_succ, List.set_cons_zero, List.set_cons_succ, List.length_cons, List.length_nil, List.length_map, Nat.zero_add, Nat.reduceAdd, ↓reduceIte, Bool.false_eq_true, if_true, if_false, Bool.not_true, Bool.not_false, ix2, decide_eq_false c2]
    rw [nx key]
    exact part2 cells i b h3 h4 m _ _ _ hm
end DH

namespace DH
open DV
variable [DV.TabC]
theorem callO_eq {i n : Nat} {G : List D → List D → Option (D × List D)} {fs : AE → Option (List D × AE)} {A A1 : AE} {t t' : Bool} {xs xs' ys ds : List D} {d : D} (h1 : A[i]? = some (some (.own t xs))) (hf : fs A = some (ds, A1)) (h3 : A1[i]? = some (some (.own t' xs'))) (hn : ds.length = n) (hG : G xs' ds = some (d, ys)) :
    gCallO i n G fs A = some (d, A1.set i (some (.own t' ys))) := by
  unfold gCallO
  simp only [h1, hf, Option.bind_some, h3]
  rw [if_pos hn, hG]; rfl
theorem outO_rt {o : Option Fl} {d : D} {ys : List D} {A : AE} (h : o = some (.rt d (some (.own true ys) :: A))) : outO o = some (d, ys) := by rw [h]; rfl
/-- one of the items -/
theorem some_ok {xs items : List D} (h : HandOk xs) (h1 : 1 ≤ items.length) (h2 : items.length ≤ 1000) : ∃ (k : Nat) (hk : k < items.length) (xs' : List D), Gsome xs [.lst items] = some (items[k], xs') ∧ HandOk xs' := by
  obtain ⟨r, xs', e, r0, r1, h'⟩ := draw_ok h (many_nat h1 h2)
  have hk : r.toNat < items.length := by omega
  refine ⟨r.toNat, hk, xs', ?_, h'⟩
  unfold Gsome
  rw [runO_eq]
  refine outO_rt (A := [some (.dat (.lst items))]) ?_
  show mSome [some (.own true xs), some (.dat (.lst items))] = _
  have e1 : gCallO 0 1 Gdraw (qa (fCons (fCB mLen (fCons (fVar 1) fNil)) fNil)) [some (.own true xs), some (.dat (.lst items))] = some (.int r, [some (.own true xs'), some (.dat (.lst items))]) :=
    callO_eq (A1 := [some (.own true xs), some (.dat (.lst items))]) (t := true) (t' := true) (xs := xs) (xs' := xs) (ds := [.int (items.length : Nat)]) rfl rfl rfl rfl e
  have e2 : mIx (.lst items) (.v (.int r)) = some items[r.toNat] := by
    show L2.atI items r = _
    rw [atI_int r0 hk, List.getElem?_eq_getElem hk]
  unfold mSome
  simp only [DV.sSeq, DV.sRet, DV.sRetF, DV.sIf, DV.sIfF, DV.sSet, DV.sSetF, DV.sNil, DV.sExpr, DV.sExprX, DV.sRetX, DV.flX, DV.sRaise, DV.fVar, DV.fOwn, DV.fC, DV.fB, DV.gB, DV.fCB, DV.gCB, DV.fCons, DV.fNil, DV.gCons, DV.gNil, DV.fT, DV.gT, DV.asB_bl, DV.asI_int, DV.fAnd, DV.fOr, DV.fNot, DV.gAnd, DV.gOr, DV.gNot, DV.fAndV, DV.fOrV, DV.fNotV, DV.gAndV, DV.gOrV, DV.fCall, DV.fCallR, DV.gCall, DV.fX, DV.xq, DV.okOf, DV.fTup, DV.fLst, DV.gTupE, DV.gLst, DV.fIf, DV.gIf, DV.qf, DV.qtf, DV.qa, DV.qi, DV.fChain, DV.fSl, DV.fO, DV.fONone, DV.mSl, DV.fSeq, DV.gSeq, DV.seqOf_lst, DV.seqOf_tup, DV.fEnum, DV.nLst, DV.nList, DV.nMul, DV.sOwn, DV.sApp, DV.sPar, DV.sParF, DV.sParOO, DV.sParDO, DV.sAug, DV.mAddI, DV.sFor, DV.sAsg, DV.sAsgF, DV.pName, DV.pNil, DV.pCons, DV.pTup, DV.wipeA, DV.mLen_lst, DV.mLen_tup, DV.mTuple, DV.mList, DV.mInt, DV.mAbs, DV.add_int, DV.mSub, DV.mLt, DV.mLe, DV.mGt, DV.mGe, DV.mRev, DV.fRev, DV.eq_ii, DV.ne_ii, DV.eq_tt, DV.ne_tt, DV.eq_ll, DV.ne_ll, Option.bind_some, Option.map_some, Option.bind_none, Option.map_none, List.getElem?_cons_zero, List.getElem?_cons_succ, List.set_cons_zero, List.set_cons_succ, List.length_cons, List.length_nil, List.length_map, Nat.zero_add, Nat.reduceAdd, ↓reduceIte, Bool.false_eq_true, if_true, if_false, Bool.not_true, Bool.not_false, e1, e2]
/-! ## an order drawn -/
theorem ne_l0 (ns : List Int) : mNe (.lst (ns.map D.int)) (.lst []) = some (.bl (!decide (ns = []))) := ne_ll ns []
theorem sz0 : szOk 0 = true := rfl
theorem perm_erase {L : List Int} : ∀ (i : Nat) (x : Int), L[i]? = some x → (x :: L.eraseIdx i).Perm L := by
  induction L with
  | nil => intro i x e; simp at e
  | cons a L ih =>
    intro i x e
    cases i with
    | zero => simp at e; subst e; exact .refl _
    | succ i =>
      rw [List.eraseIdx_cons_succ]
      exact (List.Perm.swap a x _).trans ((ih i x (by simpa using e)).cons a)
theorem popAt_eq {i : Nat} {f : AE → Option (D × AE)} {A A1 : AE} {t t' : Bool} {xs xs' : List D} {r : Int} {d : D} (h1 : A[i]? = some (some (.own t xs))) (hf : f A = some (.int r, A1)) (h3 : A1[i]? = some (some (.own t' xs'))) (r0 : 0 ≤ r) (hk : xs'[r.toNat]? = some d) (hb : r < 1000000) :
    gPopAt i f A = some (d, A1.set i (some (.own t' (xs'.eraseIdx r.toNat)))) := by
  unfold gPopAt
  simp only [h1, hf, Option.bind_some, h3]
  rw [if_pos (by rw [decide_eq_true_eq]; omega), hk]; rfl
theorem erase_map (L : List Int) (k : Nat) : (L.map D.int).eraseIdx k = (L.eraseIdx k).map D.int := by rw [List.eraseIdx_eq_take_drop_succ, List.eraseIdx_eq_take_drop_succ, List.map_append, List.map_take, List.map_drop]
def mxC : AE → Option (Bool × AE) := (DV.qtf (DV.fT (DV.fB DV.mNe (DV.fOwn 2) (DV.fLst DV.fNil))))
def mxB : AE → Option Fl := (DV.sApp 3 (DV.gPopAt 2 (DV.gCallO 0 1 Gdraw (DV.qa (DV.fCons (DV.fCB DV.mLen (DV.fCons (DV.fOwn 2) DV.fNil)) DV.fNil)))))
theorem mixed_loop (x1 : Option AV) : ∀ (k fuel : Nat) (L found : List Int) (xs : List D), L.length = k → k < fuel → k ≤ 1000 → found.length + k ≤ 1000 → HandOk xs →
    ∃ (xs' : List D) (found' : List Int), whGo mxC mxB fuel [some (.own true xs), x1, some (.own false (L.map D.int)), some (.own false (found.map D.int))] = some (.nx [some (.own true xs'), x1, some (.own false []), some (.own false (found'.map D.int))]) ∧ HandOk xs' ∧ found'.Perm (found ++ L)
  | 0, fuel, L, found, xs, hl, hf, _, _, h => by
    have : L = [] := List.eq_nil_of_length_eq_zero hl
    subst this
    obtain ⟨fuel, rfl⟩ : ∃ f, fuel = f + 1 := ⟨fuel - 1, by omega⟩
    refine ⟨xs, found, ?_, h, by rw [List.append_nil]⟩
    unfold whGo mxC
    have e := ne_l0 []
    simp only [List.map_nil] at e
    simp only [DV.sSeq, DV.sRet, DV.sRetF, DV.sIf, DV.sIfF, DV.sSet, DV.sSetF, DV.sNil, DV.sExpr, DV.sExprX, DV.sRetX, DV.flX, DV.sRaise, DV.fVar, DV.fOwn, DV.fC, DV.fB, DV.gB, DV.fCB, DV.gCB, DV.fCons, DV.fNil, DV.gCons, DV.gNil, DV.fT, DV.gT, DV.asB_bl, DV.asI_int, DV.fAnd, DV.fOr, DV.fNot, DV.gAnd, DV.gOr, DV.gNot, DV.fAndV, DV.fOrV, DV.fNotV, DV.gAndV, DV.gOrV, DV.fCall, DV.fCallR, DV.gCall, DV.fX, DV.xq, DV.okOf, DV.fTup, DV.fLst, DV.gTupE, DV.gLst, DV.fIf, DV.gIf, DV.qf, DV.qtf, DV.qa, DV.qi, DV.fChain, DV.fSl, DV.fO, DV.fONone, DV.mSl, DV.fSeq, DV.gSeq, DV.seqOf_lst, DV.seqOf_tup, DV.fEnum, DV.nLst, DV.nList, DV.nMul, DV.sOwn, DV.sApp, DV.sPar, DV.sParF, DV.sParOO, DV.sParDO, DV.sAug, DV.mAddI, DV.sFor, DV.sAsg, DV.sAsgF, DV.pName, DV.pNil, DV.pCons, DV.pTup, DV.wipeA, DV.mLen_lst, DV.mLen_tup, DV.mTuple, DV.mList, DV.mInt, DV.mAbs, DV.add_int, DV.mSub, DV.mLt, DV.mLe, DV.mGt, DV.mGe, DV.mRev, DV.fRev, DV.eq_ii, DV.ne_ii, DV.eq_tt, DV.ne_tt, DV.eq_ll, DV.ne_ll, Option.bind_some, Option.map_some, Option.bind_none, Option.map_none, List.getElem?_cons_zero, List.getElem?_cons_succ, List.set_cons_zero, List.set_cons_succ, List.length_cons, List.length_nil, List.length_map, Nat.zero_add, Nat.reduceAdd, ↓reduceIte, Bool.false_eq_true, if_true, if_false, Bool.not_true, Bool.not_false, sz0, e, List.map_nil, decide_true]
  | k + 1, fuel, L, found, xs, hl, hf, hk, hz, h => by
    obtain ⟨fuel, rfl⟩ : ∃ f, fuel = f + 1 := ⟨fuel - 1, by omega⟩
    obtain ⟨r, xs1, e, r0, r1, h'⟩ := draw_ok h (many_nat (n := L.length) (by omega) (by omega))
    have hr : r.toNat < L.length := by omega
    obtain ⟨xs', found', i1, i2, i3⟩ := mixed_loop x1 k fuel (L.eraseIdx r.toNat) (found ++ [L[r.toNat]]) xs1 (by rw [List.length_eraseIdx_of_lt hr]; omega) (by omega) (by omega) (by rw [List.length_append, List.length_singleton]; omega) h'
    refine ⟨xs', found', ?_, i2, ?_⟩
    · unfold whGo
      have hne : decide (L = []) = false := decide_eq_false fun z => by rw [z] at hl; cases hl
      have e0 : mxC [some (.own true xs), x1, some (.own false (L.map D.int)), some (.own false (found.map D.int))] = some (true, [some (.own true xs), x1, some (.own false (L.map D.int)), some (.own false (found.map D.int))]) := by
        unfold mxC
        simp only [DV.sSeq, DV.sRet, DV.sRetF, DV.sIf, DV.sIfF, DV.sSet, DV.sSetF, DV.sNil, DV.sExpr, DV.sExprX, DV.sRetX, DV.flX, DV.sRaise, DV.fVar, DV.fOwn, DV.fC, DV.fB, DV.gB, DV.fCB, DV.gCB, DV.fCons, DV.fNil, DV.gCons, DV.gNil, DV.fT, DV.gT, DV.asB_bl, DV.asI_int, DV.fAnd, DV.fOr, DV.fNot, DV.gAnd, DV.gOr, DV.gNot, DV.fAndV, DV.fOrV, DV.fNotV, DV.gAndV, DV.gOrV, DV.fCall, DV.fCallR, DV.gCall, DV.fX, DV.xq, DV.okOf, DV.fTup, DV.fLst, DV.gTupE, DV.gLst, DV.fIf, DV.gIf, DV.qf, DV.qtf, DV.qa, DV.qi, DV.fChain, DV.fSl, DV.fO, DV.fONone, DV.mSl, DV.fSeq, DV.gSeq, DV.seqOf_lst, DV.seqOf_tup, DV.fEnum, DV.nLst, DV.nList, DV.nMul, DV.sOwn, DV.sApp, DV.sPar, DV.sParF, DV.sParOO, DV.sParDO, DV.sAug, DV.mAddI, DV.sFor, DV.sAsg, DV.sAsgF, DV.pName, DV.pNil, DV.pCons, DV.pTup, DV.wipeA, DV.mLen_lst, DV.mLen_tup, DV.mTuple, DV.mList, DV.mInt, DV.mAbs, DV.add_int, DV.mSub, DV.mLt, DV.mLe, DV.mGt, DV.mGe, DV.mRev, DV.fRev, DV.eq_ii, DV.ne_ii, DV.eq_tt, DV.ne_tt, DV.eq_ll, DV.ne_ll, Option.bind_some, Option.map_some, Option.bind_none, Option.map_none, List.getElem?_cons_zero, List.getElem?_cons_succ, List.set_cons_zero, List.set_cons_succ, List.length_cons, List.length_nil, List.length_map, Nat.zero_add, Nat.reduceAdd, ↓reduceIte, Bool.false_eq_true, if_true, if_false, Bool.not_true, Bool.not_false, sz0, ne_l0, hne]
      have e1 : gCallO 0 1 Gdraw (qa (fCons (fCB mLen (fCons (fOwn 2) fNil)) fNil)) [some (.own true xs), x1, some (.own false (L.map D.int)), some (.own false (found.map D.int))] = some (.int r, [some (.own true xs1), x1, some (.own false (L.map D.int)), some (.own false (found.map D.int))]) :=
        callO_eq (A1 := [some (.own true xs), x1, some (.own false (L.map D.int)), some (.own false (found.map D.int))]) (t := true) (t' := true) (xs := xs) (xs' := xs) (ds := [.int (L.length : Nat)]) rfl (by simp only [DV.sSeq, DV.sRet, DV.sRetF, DV.sIf, DV.sIfF, DV.sSet, DV.sSetF, DV.sNil, DV.sExpr, DV.sExprX, DV.sRetX, DV.flX, DV.sRaise, DV.fVar, DV.fOwn, DV.fC, DV.fB, DV.gB, DV.fCB, DV.gCB, DV.fCons, DV.fNil, DV.gCons, DV.gNil, DV.fT, DV.gT, DV.asB_bl, DV.asI_int, DV.fAnd, DV.fOr, DV.fNot, DV.gAnd, DV.gOr, DV.gNot, DV.fAndV, DV.fOrV, DV.fNotV, DV.gAndV, DV.gOrV, DV.fCall, DV.fCallR, DV.gCall, DV.fX, DV.xq, DV.okOf, DV.fTup, DV.fLst, DV.gTupE, DV.gLst, DV.fIf, DV.gIf, DV.qf, DV.qtf, DV.qa, DV.qi, DV.fChain, DV.fSl, DV.fO, DV.fONone, DV.mSl, DV.fSeq, DV.gSeq, DV.seqOf_lst, DV.seqOf_tup, DV.fEnum, DV.nLst, DV.nList, DV.nMul, DV.sOwn, DV.sApp, DV.sPar, DV.sParF, DV.sParOO, DV.sParDO, DV.sAug, DV.mAddI, DV.sFor, DV.sAsg, DV.sAsgF, DV.pName, DV.pNil, DV.pCons, DV.pTup, DV.wipeA, DV.mLen_lst, DV.mLen_tup, DV.mTuple, DV.mList, DV.mInt, DV.mAbs, DV.add_int, DV.mSub, DV.mLt, DV.mLe, DV.mGt, DV.mGe, DV.mRev, DV.fRev, DV.eq_ii, DV.ne_ii, DV.eq_tt, DV.ne_tt, DV.eq_ll, DV.ne_ll, Option.bind_some, Option.map_some, Option.bind_none, Option.map_none, List.getElem?_cons_zero, List.getElem?_cons_succ, List.set_cons_zero, List.set_cons_succ, List.length_cons, List.length_nil, List.length_map, Nat.zero_add, Nat.reduceAdd, ↓reduceIte, Bool.false_eq_true, if_true, if_false, Bool.not_true, Bool.not_false]) rfl rfl e
      have e2 := popAt_eq (i := 2) (t := false) (t' := false) (xs := L.map D.int) (xs' := L.map D.int) (d := .int L[r.toNat]) rfl e1 rfl r0 (by rw [List.getElem?_map, List.getElem?_eq_getElem hr]; rfl) (by omega)
      have e3 : szOk (found.length + 1) = true := szOk.of (by omega)
      have e4 : mxB [some (.own true xs), x1, some (.own false (L.map D.int)), some (.own false (found.map D.int))] = some (.nx [some (.own true xs1), x1, some (.own false ((L.eraseIdx r.toNat).map D.int)), some (.own false ((found ++ [L[r.toNat]]).map D.int))]) := by
        unfold mxB
        rw [List.map_append]
        simp only [DV.sSeq, DV.sRet, DV.sRetF, DV.sIf, DV.sIfF, DV.sSet, DV.sSetF, DV.sNil, DV.sExpr, DV.sExprX, DV.sRetX, DV.flX, DV.sRaise, DV.fVar, DV.fOwn, DV.fC, DV.fB, DV.gB, DV.fCB, DV.gCB, DV.fCons, DV.fNil, DV.gCons, DV.gNil, DV.fT, DV.gT, DV.asB_bl, DV.asI_int, DV.fAnd, DV.fOr, DV.fNot, DV.gAnd, DV.gOr, DV.gNot, DV.fAndV, DV.fOrV, DV.fNotV, DV.gAndV, DV.gOrV, DV.fCall, DV.fCallR, DV.gCall, DV.fX, DV.xq, DV.okOf, DV.fTup, DV.fLst, DV.gTupE, DV.gLst, DV.fIf, DV.gIf, DV.qf, DV.qtf, DV.qa, DV.qi, DV.fChain, DV.fSl, DV.fO, DV.fONone, DV.mSl, DV.fSeq, DV.gSeq, DV.seqOf_lst, DV.seqOf_tup, DV.fEnum, DV.nLst, DV.nList, DV.nMul, DV.sOwn, DV.sApp, DV.sPar, DV.sParF, DV.sParOO, DV.sParDO, DV.sAug, DV.mAddI, DV.sFor, DV.sAsg, DV.sAsgF, DV.pName, DV.pNil, DV.pCons, DV.pTup, DV.wipeA, DV.mLen_lst, DV.mLen_tup, DV.mTuple, DV.mList, DV.mInt, DV.mAbs, DV.add_int, DV.mSub, DV.mLt, DV.mLe, DV.mGt, DV.mGe, DV.mRev, DV.fRev, DV.eq_ii, DV.ne_ii, DV.eq_tt, DV.ne_tt, DV.eq_ll, DV.ne_ll, Option.bind_some, Option.map_some, Option.bind_none, Option.map_none, List.getElem?_cons_zero, List.getElem?_cons_succ, List.set_cons_zero, List.set_cons_succ, List.length_cons, List.length_nil, List.length_map, Nat.zero_add, Nat.reduceAdd, ↓reduceIte, Bool.false_eq_true, if_true, if_false, Bool.not_true, Bool.not_false, e2, e3, erase_map, List.map_cons, List.map_nil]
      simp only [DV.sSeq, DV.sRet, DV.sRetF, DV.sIf, DV.sIfF, DV.sSet, DV.sSetF, DV.sNil, DV.sExpr, DV.sExprX, DV.sRetX, DV.flX, DV.sRaise, DV.fVar, DV.fOwn, DV.fC, DV.fB, DV.gB, DV.fCB, DV.gCB, DV.fCons, DV.fNil, DV.gCons, DV.gNil, DV.fT, DV.gT, DV.asB_bl, DV.asI_int, DV.fAnd, DV.fOr, DV.fNot, DV.gAnd, DV.gOr, DV.gNot, DV.fAndV, DV.fOrV, DV.fNotV, DV.gAndV, DV.gOrV, DV.fCall, DV.fCallR, DV.gCall, DV.fX, DV.xq, DV.okOf, DV.fTup, DV.fLst, DV.gTupE, DV.gLst, DV.fIf, DV.gIf, DV.qf, DV.qtf, DV.qa, DV.qi, DV.fChain, DV.fSl, DV.fO, DV.fONone, DV.mSl, DV.fSeq, DV.gSeq, DV.seqOf_lst, DV.seqOf_tup, DV.fEnum, DV.nLst, DV.nList, DV.nMul, DV.sOwn, DV.sApp, DV.sPar, DV.sParF, DV.sParOO, DV.sParDO, DV.sAug, DV.mAddI, DV.sFor, DV.sAsg, DV.sAsgF, DV.pName, DV.pNil, DV.pCons, DV.pTup, DV.wipeA, DV.mLen_lst, DV.mLen_tup, DV.mTuple, DV.mList, DV.mInt, DV.mAbs, DV.add_int, DV.mSub, DV.mLt, DV.mLe, DV.mGt, DV.mGe, DV.mRev, DV.fRev, DV.eq_ii, DV.ne_ii, DV.eq_tt, DV.ne_tt, DV.eq_ll, DV.ne_ll, Option.bind_some, Option.map_some, Option.bind_none, Option.map_none, List.getElem?_cons_zero, List.getElem?_cons_succ, List.set_cons_zero, List.set_cons_succ, List.length_cons, List.length_nil, List.length_map, Nat.zero_add, Nat.reduceAdd, ↓reduceIte, Bool.false_eq_true, if_true, if_false, Bool.not_true, Bool.not_false, e0, e4]
      exact i1
    · refine i3.trans ?_
      rw [List.append_assoc]
      exact (perm_erase _ _ (List.getElem?_eq_getElem hr)).append_left found
theorem mixed_ok {xs : List D} {n : Nat} (h : HandOk xs) (hn : n ≤ 100) : ∃ (p : List Int) (xs' : List D), Gmixed xs [.int (n : Nat)] = some (DV.tI' p, xs') ∧ HandOk xs' ∧ p.Perm (DV.rng n) := by
  obtain ⟨xs', p, e, h', pe⟩ := mixed_loop (some (.dat (.int (n : Nat)))) n 200 (DV.rng n) [] xs (by simp) (by omega) (by omega) (by simp; omega) h
  refine ⟨p, xs', ?_, h', pe⟩
  unfold Gmixed
  rw [runO_eq]
  refine outO_rt (A := [some (.dat (.int (n : Nat))), some (.own false []), some (.own false (p.map D.int))]) ?_
  show mMixed [some (.own true xs), some (.dat (.int (n : Nat))), none, none] = _
  have e1 : nLR (fG1 (fVar 1)) [some (.own true xs), some (.dat (.int (n : Nat))), none, none] = some ((DV.rng n).map D.int, [some (.own true xs), some (.dat (.int (n : Nat))), none, none]) := nLR_n rfl (by omega)
  have e2 : whGo (DV.qtf (DV.fT (DV.fB DV.mNe (DV.fOwn 2) (DV.fLst DV.fNil)))) (DV.sApp 3 (DV.gPopAt 2 (DV.gCallO 0 1 Gdraw (DV.qa (DV.fCons (DV.fCB DV.mLen (DV.fCons (DV.fOwn 2) DV.fNil)) DV.fNil))))) 200 [some (.own true xs), some (.dat (.int (n : Nat))), some (.own false ((DV.rng n).map D.int)), some (.own false [])] = _ := e
  unfold mMixed
  simp only [DV.sSeq, DV.sParOO, e1, Option.bind_some, Option.map_some]
  simp only [DV.sSeq, DV.sRet, DV.sRetF, DV.sIf, DV.sIfF, DV.sSet, DV.sSetF, DV.sNil, DV.sExpr, DV.sExprX, DV.sRetX, DV.flX, DV.sRaise, DV.fVar, DV.fOwn, DV.fC, DV.fB, DV.gB, DV.fCB, DV.gCB, DV.fCons, DV.fNil, DV.gCons, DV.gNil, DV.fT, DV.gT, DV.asB_bl, DV.asI_int, DV.fAnd, DV.fOr, DV.fNot, DV.gAnd, DV.gOr, DV.gNot, DV.fAndV, DV.fOrV, DV.fNotV, DV.gAndV, DV.gOrV, DV.fCall, DV.fCallR, DV.gCall, DV.fX, DV.xq, DV.okOf, DV.fTup, DV.fLst, DV.gTupE, DV.gLst, DV.fIf, DV.gIf, DV.qf, DV.qtf, DV.qa, DV.qi, DV.fChain, DV.fSl, DV.fO, DV.fONone, DV.mSl, DV.fSeq, DV.gSeq, DV.seqOf_lst, DV.seqOf_tup, DV.fEnum, DV.nLst, DV.nList, DV.nMul, DV.sOwn, DV.sApp, DV.sPar, DV.sParF, DV.sParOO, DV.sParDO, DV.sAug, DV.mAddI, DV.sFor, DV.sAsg, DV.sAsgF, DV.pName, DV.pNil, DV.pCons, DV.pTup, DV.wipeA, DV.mLen_lst, DV.mLen_tup, DV.mTuple, DV.mList, DV.mInt, DV.mAbs, DV.add_int, DV.mSub, DV.mLt, DV.mLe, DV.mGt, DV.mGe, DV.mRev, DV.fRev, DV.eq_ii, DV.ne_ii, DV.eq_tt, DV.ne_tt, DV.eq_ll, DV.ne_ll, Option.bind_some, Option.map_some, Option.bind_none, Option.map_none, List.getElem?_cons_zero, List.getElem?_cons_succ, List.set_cons_zero, List.set_cons_succ, List.length_cons, List.length_nil, List.length_map, Nat.zero_add, Nat.reduceAdd, ↓reduceIte, Bool.false_eq_true, if_true, if_false, Bool.not_true, Bool.not_false, sz0, e2]
end DH

namespace DH
open DV
variable [DV.TabC]
/-! # an order laid together -/
inductive LaidD : List Int → D → Prop
  | one : LaidD [0] (.tup [.v (.str "one")])
  | up {a b p q} : LaidD a p → LaidD b q → LaidD (a ++ b.map (· + (a.length : Int))) (.tup [.v (.str "up"), .tup [p, q]])
  | down {a b p q} : LaidD a p → LaidD b q → LaidD (a.map (· + (b.length : Int)) ++ b) (.tup [.v (.str "down"), .tup [p, q]])
theorem rng_add (m n : Nat) : (DV.rng m ++ (DV.rng n).map (· + (m : Int))).Perm (DV.rng (m + n)) := by
  unfold DV.rng
  rw [List.range_add, List.map_append, List.map_map, List.map_map]
  refine List.Perm.of_eq ?_
  congr 1
  refine List.map_congr_left fun i _ => ?_
  show ((i : Nat) : Int) + (m : Int) = ((m + i : Nat) : Int)
  omega
theorem LaidD.perm {a : List Int} {p : D} (h : LaidD a p) : a.Perm (DV.rng a.length) := by
  induction h with
  | one => exact .refl _
  | @up a b p q h1 h2 i1 i2 =>
    rw [List.length_append, List.length_map]
    exact ((i1.append (i2.map _)).trans (rng_add _ _))
  | @down a b p q h1 h2 i1 i2 =>
    rw [List.length_append, List.length_map]
    refine (((i1.map _).append i2).trans ?_)
    rw [Nat.add_comm]
    exact List.perm_append_comm.trans (rng_add _ _)
theorem LaidD.pos {a : List Int} {p : D} (h : LaidD a p) : 1 ≤ a.length := by
  induction h with
  | one => exact Nat.le_refl 1
  | up _ _ i1 i2 => rw [List.length_append]; omega
  | down _ _ i1 i2 => rw [List.length_append, List.length_map]; omega
abbrev blk (z : List Int × D) : D := .tup [DV.tI' z.1, z.2]
def total (bs : List (List Int × D)) : Nat := (bs.map fun z => z.1.length).sum
theorem add_comp {A : AE} {k : Nat} (b : List Int) (m : Nat) {f : AE → Option D} (hz : b.length ≤ 1000) (hs : fSeq (fVar k) A = some (b.map D.int)) (hf : ∀ x : Int, fB mAdd (fVar 9) f ((wipeA A [9]).set 9 (some (.dat (.int x)))) = some (.int (x + (m : Int)))) :
    fLC (fSeq (fVar k)) ([9] : List Nat) (pName 9) (fun _ => some true) (fB mAdd (fVar 9) f) A = some (.lst ((b.map (· + (m : Int))).map D.int)) := by
  rw [fLC_map b D.int (fun x => .int (x + (m : Int))) hs (by omega) fun x _ => ⟨_, rfl, rfl, hf x⟩, List.map_map]
  rfl
theorem lB_ok {n : Nat} {xs : List D} (x1 x2 x4 x5 x6 x7 x8 x9 x10 : Option AV) (bs : List (List Int × D)) (hlen : 2 ≤ bs.length) (hz : bs.length ≤ 500) (ht : total bs ≤ 500) (hl : ∀ z ∈ bs, LaidD z.1 z.2) (h : HandOk xs) :
    ∃ (xs' : List D) (bs' : List (List Int × D)) (y4 y5 y6 y7 y8 y9 y10 : Option AV), lB [some (.own true xs), x1, x2, some (.dat (.lst (bs.map blk))), x4, x5, x6, x7, x8, x9, x10] = some (.nx [some (.own true xs'), x1, x2, some (.dat (.lst (bs'.map blk))), y4, y5, y6, y7, y8, y9, y10]) ∧ HandOk xs' ∧ (∀ z ∈ bs', LaidD z.1 z.2) ∧ bs'.length + 1 = bs.length ∧ total bs' = total bs := by
  obtain ⟨r, xs1, e, r0, r1, h1⟩ := draw_ok h (many_nat (n := bs.length - 1) (by omega) (by omega))
  obtain ⟨k, rfl⟩ : ∃ k : Nat, r = k := ⟨r.toNat, by omega⟩
  have hk : k + 1 < bs.length := by omega
  obtain ⟨r2, xs2, f, f0, f1, h2⟩ := draw_ok h1 (many_nat (n := 2) (by omega) (by omega))
  obtain ⟨pre, z1, z2, post, rfl, hp⟩ : ∃ pre z1 z2 post, bs = pre ++ z1 :: z2 :: post ∧ pre.length = k := by
    refine ⟨bs.take k, bs[k], bs[k + 1], bs.drop (k + 2), ?_, by rw [List.length_take]; omega⟩
    rw [← List.drop_eq_getElem_cons, ← List.drop_eq_getElem_cons, List.take_append_drop]
  obtain ⟨a, p⟩ := z1
  obtain ⟨b, q⟩ := z2
  have la : LaidD a p := hl (a, p) (by simp)
  have lb : LaidD b q := hl (b, q) (by simp)
  have ltot : total (pre ++ (a, p) :: (b, q) :: post) = total pre + (a.length + (b.length + total post)) := by simp [total]
  have ta : a.length ≤ 500 := by omega
  have tb : b.length ≤ 500 := by omega
  have lmap : (pre ++ (a, p) :: (b, q) :: post).map blk = pre.map blk ++ blk (a, p) :: blk (b, q) :: post.map blk := by rw [List.map_append]; rfl
  have i1 : mIx (.lst ((pre ++ (a, p) :: (b, q) :: post).map blk)) (.v (.int (k : Nat))) = some (blk (a, p)) := by
    show L2.atI _ (k : Nat) = _
    rw [atI_nat (by rw [List.length_map]; omega), lmap, List.getElem?_append_right (by rw [List.length_map]; omega), List.length_map, hp, Nat.sub_self]; rfl
  have i2 : mIx (.lst ((pre ++ (a, p) :: (b, q) :: post).map blk)) (.v (.int ((k : Int) + 1))) = some (blk (b, q)) := by
    show L2.atI _ ((k + 1 : Nat) : Int) = _
    rw [atI_nat (by rw [List.length_map]; omega), lmap, List.getElem?_append_right (by rw [List.length_map]; omega), List.length_map, hp, show k + 1 - k = 1 by omega]; rfl
  have mlen : (((pre ++ (a, p) :: (b, q) :: post).length : Nat) : Int) - 1 = (((pre ++ (a, p) :: (b, q) :: post).length - 1 : Nat) : Int) := by omega
  have d1 : gCallO 0 1 Gdraw (qa (fCons (fB mSub (fCB mLen (fCons (fVar 3) fNil)) (fC (.int 1))) fNil)) [some (.own true xs), x1, x2, some (.dat (.lst ((pre ++ (a, p) :: (b, q) :: post).map blk))), x4, x5, x6, x7, x8, x9, x10] = some (.int (k : Nat), [some (.own true xs1), x1, x2, some (.dat (.lst ((pre ++ (a, p) :: (b, q) :: post).map blk))), x4, x5, x6, x7, x8, x9, x10]) :=
    callO_eq (A1 := [some (.own true xs), x1, x2, some (.dat (.lst ((pre ++ (a, p) :: (b, q) :: post).map blk))), x4, x5, x6, x7, x8, x9, x10]) (t := true) (t' := true) (xs := xs) (xs' := xs) (ds := [.int (((pre ++ (a, p) :: (b, q) :: post).length - 1 : Nat) : Int)]) rfl (by simp only [DV.sSeq, DV.sRet, DV.sRetF, DV.sIf, DV.sIfF, DV.sSet, DV.sSetF, DV.sNil, DV.sExpr, DV.sExprX, DV.sRetX, DV.flX, DV.sRaise, DV.fVar, DV.fOwn, DV.fC, DV.fB, DV.gB, DV.fCB, DV.gCB, DV.fCons, DV.fNil, DV.gCons, DV.gNil, DV.fT, DV.gT, DV.asB_bl, DV.asI_int, DV.fAnd, DV.fOr, DV.fNot, DV.gAnd, DV.gOr, DV.gNot, DV.fAndV, DV.fOrV, DV.fNotV, DV.gAndV, DV.gOrV, DV.fCall, DV.fCallR, DV.gCall, DV.fX, DV.xq, DV.okOf, DV.fTup, DV.fLst, DV.gTupE, DV.gLst, DV.fIf, DV.gIf, DV.qf, DV.qtf, DV.qa, DV.qi, DV.fChain, DV.fSl, DV.fO, DV.fONone, DV.mSl, DV.fSeq, DV.gSeq, DV.seqOf_lst, DV.seqOf_tup, DV.fEnum, DV.nLst, DV.nList, DV.nMul, DV.sOwn, DV.sApp, DV.sPar, DV.sParF, DV.sParOO, DV.sParDO, DV.sAug, DV.mAddI, DV.sFor, DV.sAsg, DV.sAsgF, DV.pName, DV.pNil, DV.pCons, DV.pTup, DV.wipeA, DV.mLen_lst, DV.mLen_tup, DV.mTuple, DV.mList, DV.mInt, DV.mAbs, DV.add_int, DV.mSub, DV.mLt, DV.mLe, DV.mGt, DV.mGe, DV.mRev, DV.fRev, DV.eq_ii, DV.ne_ii, DV.eq_tt, DV.ne_tt, DV.eq_ll, DV.ne_ll, Option.bind_some, Option.map_some, Option.bind_none, Option.map_none, List.getElem?_cons_zero, List.getElem?_cons_succ, List.set_cons_zero, List.set_cons_succ, List.length_cons, List.length_nil, List.length_map, Nat.zero_add, Nat.reduceAdd, ↓reduceIte, Bool.false_eq_true, if_true, if_false, Bool.not_true, Bool.not_false, mlen]) rfl rfl e
  have d2 : gCallO 0 1 Gdraw (qa (fCons (fC (.int 2)) fNil)) [some (.own true xs1), x1, x2, some (.dat (.lst ((pre ++ (a, p) :: (b, q) :: post).map blk))), some (.dat (.int (k : Nat))), some (.dat (DV.tI' a)), some (.dat p), some (.dat (DV.tI' b)), some (.dat q), x9, x10] = some (.int r2, [some (.own true xs2), x1, x2, some (.dat (.lst ((pre ++ (a, p) :: (b, q) :: post).map blk))), some (.dat (.int (k : Nat))), some (.dat (DV.tI' a)), some (.dat p), some (.dat (DV.tI' b)), some (.dat q), x9, x10]) :=
    callO_eq (A1 := [some (.own true xs1), x1, x2, some (.dat (.lst ((pre ++ (a, p) :: (b, q) :: post).map blk))), some (.dat (.int (k : Nat))), some (.dat (DV.tI' a)), some (.dat p), some (.dat (DV.tI' b)), some (.dat q), x9, x10]) (t := true) (t' := true) (xs := xs1) (xs' := xs1) (ds := [.int 2]) rfl rfl rfl rfl f
  have tk : (pre.map blk ++ blk (a, p) :: blk (b, q) :: post.map blk).take k = pre.map blk := by rw [← hp, ← List.length_map (f := blk) (as := pre), List.take_left]
  have dk : (pre.map blk ++ blk (a, p) :: blk (b, q) :: post.map blk).drop (k + 2) = post.map blk := by
    rw [← hp, ← List.length_map (f := blk) (as := pre), List.drop_append]
    simp
  have cut2 : ∀ ys : List D, cutD ys (some ((k : Int) + 2)) none = ys.drop (k + 2) := fun ys => cut_from ys (k + 2)
  have fin : ∀ (c : List Int) (t : D), LaidD c t → c.length = a.length + b.length → ∀ (y9 y10 : Option AV),
      (sSet 3 (fB mAdd (fB mAdd (fSl (fVar 3) fONone (fO (fVar 4))) (fLst (fCons (fVar 10) fNil))) (fSl (fVar 3) (fO (fB mAdd (fVar 4) (fC (.int 2)))) fONone))) [some (.own true xs2), x1, x2, some (.dat (.lst ((pre ++ (a, p) :: (b, q) :: post).map blk))), some (.dat (.int (k : Nat))), some (.dat (DV.tI' a)), some (.dat p), some (.dat (DV.tI' b)), some (.dat q), y9, some (.dat (blk (c, t)))] =
        some (.nx [some (.own true xs2), x1, x2, some (.dat (.lst ((pre ++ (c, t) :: post).map blk))), some (.dat (.int (k : Nat))), some (.dat (DV.tI' a)), some (.dat p), some (.dat (DV.tI' b)), some (.dat q), y9, some (.dat (blk (c, t)))]) ∧ (∀ z ∈ pre ++ (c, t) :: post, LaidD z.1 z.2) ∧ (pre ++ (c, t) :: post).length + 1 = (pre ++ (a, p) :: (b, q) :: post).length ∧ total (pre ++ (c, t) :: post) = total (pre ++ (a, p) :: (b, q) :: post) := by
    intro c t lc hc y9 y10
    have lenb : (pre ++ (a, p) :: (b, q) :: post).length = pre.length + (post.length + 2) := by simp
    refine ⟨?_, fun z hz => ?_, by simp; omega, by rw [ltot]; simp [total]; omega⟩
    · have a1 : mAdd (.lst (pre.map blk)) (.lst [blk (c, t)]) = some (.lst (pre.map blk ++ [blk (c, t)])) := add_lst (by rw [List.length_map, List.length_singleton]; omega)
      have a2 : mAdd (.lst (pre.map blk ++ [blk (c, t)])) (.lst (post.map blk)) = some (.lst (pre.map blk ++ [blk (c, t)] ++ post.map blk)) := add_lst (by rw [List.length_append, List.length_map, List.length_map, List.length_singleton]; omega)
      have s1 : szOk 1 = true := rfl
      have a3 : (pre ++ (c, t) :: post).map blk = pre.map blk ++ [blk (c, t)] ++ post.map blk := by rw [List.map_append, List.append_assoc]; rfl
      rw [a3, lmap]
      simp only [DV.sSeq, DV.sRet, DV.sRetF, DV.sIf, DV.sIfF, DV.sSet, DV.sSetF, DV.sNil, DV.sExpr, DV.sExprX, DV.sRetX, DV.flX, DV.sRaise, DV.fVar, DV.fOwn, DV.fC, DV.fB, DV.gB, DV.fCB, DV.gCB, DV.fCons, DV.fNil, DV.gCons, DV.gNil, DV.fT, DV.gT, DV.asB_bl, DV.asI_int, DV.fAnd, DV.fOr, DV.fNot, DV.gAnd, DV.gOr, DV.gNot, DV.fAndV, DV.fOrV, DV.fNotV, DV.gAndV, DV.gOrV, DV.fCall, DV.fCallR, DV.gCall, DV.fX, DV.xq, DV.okOf, DV.fTup, DV.fLst, DV.gTupE, DV.gLst, DV.fIf, DV.gIf, DV.qf, DV.qtf, DV.qa, DV.qi, DV.fChain, DV.fSl, DV.fO, DV.fONone, DV.mSl, DV.fSeq, DV.gSeq, DV.seqOf_lst, DV.seqOf_tup, DV.fEnum, DV.nLst, DV.nList, DV.nMul, DV.sOwn, DV.sApp, DV.sPar, DV.sParF, DV.sParOO, DV.sParDO, DV.sAug, DV.mAddI, DV.sFor, DV.sAsg, DV.sAsgF, DV.pName, DV.pNil, DV.pCons, DV.pTup, DV.wipeA, DV.mLen_lst, DV.mLen_tup, DV.mTuple, DV.mList, DV.mInt, DV.mAbs, DV.add_int, DV.mSub, DV.mLt, DV.mLe, DV.mGt, DV.mGe, DV.mRev, DV.fRev, DV.eq_ii, DV.ne_ii, DV.eq_tt, DV.ne_tt, DV.eq_ll, DV.ne_ll, Option.bind_some, Option.map_some, Option.bind_none, Option.map_none, List.getElem?_cons_zero, List.getElem?_cons_succ, List.set_cons_zero, List.set_cons_succ, List.length_cons, List.length_nil, List.length_map, Nat.zero_add, Nat.reduceAdd, ↓reduceIte, Bool.false_eq_true, if_true, if_false, Bool.not_true, Bool.not_false, cut_to, cut2, tk, dk, s1, a1, a2]
    · rcases List.mem_append.mp hz with hz | hz
      · exact hl z (List.mem_append_left _ hz)
      · rcases List.mem_cons.mp hz with rfl | hz
        · exact lc
        · exact hl z (List.mem_append_right _ (List.mem_cons_of_mem _ (List.mem_cons_of_mem _ hz)))
  have s2 : szOk 2 = true := rfl
  unfold lB
  by_cases c0 : r2 = 0
  · obtain ⟨g1, g2, g3, g4⟩ := fin (a ++ b.map (· + (a.length : Int))) (.tup [.v (.str "up"), .tup [p, q]]) (.up la lb) (by rw [List.length_append, List.length_map]) x9 x10
    refine ⟨xs2, pre ++ (a ++ b.map (· + (a.length : Int)), .tup [.v (.str "up"), .tup [p, q]]) :: post, some (.dat (.int (k : Nat))), some (.dat (DV.tI' a)), some (.dat p), some (.dat (DV.tI' b)), some (.dat q), x9, some (.dat (blk (a ++ b.map (· + (a.length : Int)), .tup [.v (.str "up"), .tup [p, q]]))), ?_, h2, g2, g3, g4⟩
    have cmp : fLC (fSeq (fVar 7)) ([9] : List Nat) (pName 9) (fun _ => some true) (fB mAdd (fVar 9) (fCB mLen (fCons (fVar 5) fNil))) [some (.own true xs2), x1, x2, some (.dat (.lst ((pre ++ (a, p) :: (b, q) :: post).map blk))), some (.dat (.int (k : Nat))), some (.dat (DV.tI' a)), some (.dat p), some (.dat (DV.tI' b)), some (.dat q), x9, x10] = some (.lst ((b.map (· + (a.length : Int))).map D.int)) :=
      add_comp b a.length (by omega) rfl (fun x => by simp only [DV.sSeq, DV.sRet, DV.sRetF, DV.sIf, DV.sIfF, DV.sSet, DV.sSetF, DV.sNil, DV.sExpr, DV.sExprX, DV.sRetX, DV.flX, DV.sRaise, DV.fVar, DV.fOwn, DV.fC, DV.fB, DV.gB, DV.fCB, DV.gCB, DV.fCons, DV.fNil, DV.gCons, DV.gNil, DV.fT, DV.gT, DV.asB_bl, DV.asI_int, DV.fAnd, DV.fOr, DV.fNot, DV.gAnd, DV.gOr, DV.gNot, DV.fAndV, DV.fOrV, DV.fNotV, DV.gAndV, DV.gOrV, DV.fCall, DV.fCallR, DV.gCall, DV.fX, DV.xq, DV.okOf, DV.fTup, DV.fLst, DV.gTupE, DV.gLst, DV.fIf, DV.gIf, DV.qf, DV.qtf, DV.qa, DV.qi, DV.fChain, DV.fSl, DV.fO, DV.fONone, DV.mSl, DV.fSeq, DV.gSeq, DV.seqOf_lst, DV.seqOf_tup, DV.fEnum, DV.nLst, DV.nList, DV.nMul, DV.sOwn, DV.sApp, DV.sPar, DV.sParF, DV.sParOO, DV.sParDO, DV.sAug, DV.mAddI, DV.sFor, DV.sAsg, DV.sAsgF, DV.pName, DV.pNil, DV.pCons, DV.pTup, DV.wipeA, DV.mLen_lst, DV.mLen_tup, DV.mTuple, DV.mList, DV.mInt, DV.mAbs, DV.add_int, DV.mSub, DV.mLt, DV.mLe, DV.mGt, DV.mGe, DV.mRev, DV.fRev, DV.eq_ii, DV.ne_ii, DV.eq_tt, DV.ne_tt, DV.eq_ll, DV.ne_ll, Option.bind_some, Option.map_some, Option.bind_none, Option.map_none, List.getElem?_cons_zero, List.getElem?_cons_succ, List.set_cons_zero, List.set_cons_succ, List.length_cons, List.length_nil, List.length_map, Nat.zero_add, Nat.reduceAdd, ↓reduceIte, Bool.false_eq_true, if_true, if_false, Bool.not_true, Bool.not_false])
    have ad : mAdd (DV.tI' a) (.tup ((b.map (· + (a.length : Int))).map D.int)) = some (DV.tI' (a ++ b.map (· + (a.length : Int)))) := by
      rw [add_tup (by rw [List.length_map, List.length_map, List.length_map]; omega), ← List.map_append]
    have c1 : decide (r2 = 0) = true := decide_eq_true c0
    simp only [DV.sSeq, DV.sRet, DV.sRetF, DV.sIf, DV.sIfF, DV.sSet, DV.sSetF, DV.sNil, DV.sExpr, DV.sExprX, DV.sRetX, DV.flX, DV.sRaise, DV.fVar, DV.fOwn, DV.fC, DV.fB, DV.gB, DV.fCB, DV.gCB, DV.fCons, DV.fNil, DV.gCons, DV.gNil, DV.fT, DV.gT, DV.asB_bl, DV.asI_int, DV.fAnd, DV.fOr, DV.fNot, DV.gAnd, DV.gOr, DV.gNot, DV.fAndV, DV.fOrV, DV.fNotV, DV.gAndV, DV.gOrV, DV.fCall, DV.fCallR, DV.gCall, DV.fX, DV.xq, DV.okOf, DV.fTup, DV.fLst, DV.gTupE, DV.gLst, DV.fIf, DV.gIf, DV.qf, DV.qtf, DV.qa, DV.qi, DV.fChain, DV.fSl, DV.fO, DV.fONone, DV.mSl, DV.fSeq, DV.gSeq, DV.seqOf_lst, DV.seqOf_tup, DV.fEnum, DV.nLst, DV.nList, DV.nMul, DV.sOwn, DV.sApp, DV.sPar, DV.sParF, DV.sParOO, DV.sParDO, DV.sAug, DV.mAddI, DV.sFor, DV.sAsg, DV.sAsgF, DV.pName, DV.pNil, DV.pCons, DV.pTup, DV.wipeA, DV.mLen_lst, DV.mLen_tup, DV.mTuple, DV.mList, DV.mInt, DV.mAbs, DV.add_int, DV.mSub, DV.mLt, DV.mLe, DV.mGt, DV.mGe, DV.mRev, DV.fRev, DV.eq_ii, DV.ne_ii, DV.eq_tt, DV.ne_tt, DV.eq_ll, DV.ne_ll, Option.bind_some, Option.map_some, Option.bind_none, Option.map_none, List.getElem?_cons_zero, List.getElem?_cons_succ, List.set_cons_zero, List.set_cons_succ, List.length_cons, List.length_nil, List.length_map, Nat.zero_add, Nat.reduceAdd, ↓reduceIte, Bool.false_eq_true, if_true, if_false, Bool.not_true, Bool.not_false, d1, i1, i2, s2, d2, c1, cmp, ad]
    exact g1
  · obtain ⟨g1, g2, g3, g4⟩ := fin (a.map (· + (b.length : Int)) ++ b) (.tup [.v (.str "down"), .tup [p, q]]) (.down la lb) (by rw [List.length_append, List.length_map]) x9 x10
    refine ⟨xs2, pre ++ (a.map (· + (b.length : Int)) ++ b, .tup [.v (.str "down"), .tup [p, q]]) :: post, some (.dat (.int (k : Nat))), some (.dat (DV.tI' a)), some (.dat p), some (.dat (DV.tI' b)), some (.dat q), x9, some (.dat (blk (a.map (· + (b.length : Int)) ++ b, .tup [.v (.str "down"), .tup [p, q]]))), ?_, h2, g2, g3, g4⟩
    have cmp : fLC (fSeq (fVar 5)) ([9] : List Nat) (pName 9) (fun _ => some true) (fB mAdd (fVar 9) (fCB mLen (fCons (fVar 7) fNil))) [some (.own true xs2), x1, x2, some (.dat (.lst ((pre ++ (a, p) :: (b, q) :: post).map blk))), some (.dat (.int (k : Nat))), some (.dat (DV.tI' a)), some (.dat p), some (.dat (DV.tI' b)), some (.dat q), x9, x10] = some (.lst ((a.map (· + (b.length : Int))).map D.int)) :=
      add_comp a b.length (by omega) rfl (fun x => by simp only [DV.sSeq, DV.sRet, DV.sRetF, DV.sIf, DV.sIfF, DV.sSet, DV.sSetF, DV.sNil, DV.sExpr, DV.sExprX, DV.sRetX, DV.flX, DV.sRaise, DV.fVar, DV.fOwn, DV.fC, DV.fB, DV.gB, DV.fCB, DV.gCB, DV.fCons, DV.fNil, DV.gCons, DV.gNil, DV.fT, DV.gT, DV.asB_bl, DV.asI_int, DV.fAnd, DV.fOr, DV.fNot, DV.gAnd, DV.gOr, DV.gNot, DV.fAndV, DV.fOrV, DV.fNotV, DV.gAndV, DV.gOrV, DV.fCall, DV.fCallR, DV.gCall, DV.fX, DV.xq, DV.okOf, DV.fTup, DV.fLst, DV.gTupE, DV.gLst, DV.fIf, DV.gIf, DV.qf, DV.qtf, DV.qa, DV.qi, DV.fChain, DV.fSl, DV.fO, DV.fONone, DV.mSl, DV.fSeq, DV.gSeq, DV.seqOf_lst, DV.seqOf_tup, DV.fEnum, DV.nLst, DV.nList, DV.nMul, DV.sOwn, DV.sApp, DV.sPar, DV.sParF, DV.sParOO, DV.sParDO, DV.sAug, DV.mAddI, DV.sFor, DV.sAsg, DV.sAsgF, DV.pName, DV.pNil, DV.pCons, DV.pTup, DV.wipeA, DV.mLen_lst, DV.mLen_tup, DV.mTuple, DV.mList, DV.mInt, DV.mAbs, DV.add_int, DV.mSub, DV.mLt, DV.mLe, DV.mGt, DV.mGe, DV.mRev, DV.fRev, DV.eq_ii, DV.ne_ii, DV.eq_tt, DV.ne_tt, DV.eq_ll, DV.ne_ll, Option.bind_some, Option.map_some, Option.bind_none, Option.map_none, List.getElem?_cons_zero, List.getElem?_cons_succ, List.set_cons_zero, List.set_cons_succ, List.length_cons, List.length_nil, List.length_map, Nat.zero_add, Nat.reduceAdd, ↓reduceIte, Bool.false_eq_true, if_true, if_false, Bool.not_true, Bool.not_false])
    have ad : mAdd (.tup ((a.map (· + (b.length : Int))).map D.int)) (DV.tI' b) = some (DV.tI' (a.map (· + (b.length : Int)) ++ b)) := by
      rw [add_tup (by rw [List.length_map, List.length_map, List.length_map]; omega), ← List.map_append]
    have c1 : decide (r2 = 0) = false := decide_eq_false c0
    simp only [DV.sSeq, DV.sRet, DV.sRetF, DV.sIf, DV.sIfF, DV.sSet, DV.sSetF, DV.sNil, DV.sExpr, DV.sExprX, DV.sRetX, DV.flX, DV.sRaise, DV.fVar, DV.fOwn, DV.fC, DV.fB, DV.gB, DV.fCB, DV.gCB, DV.fCons, DV.fNil, DV.gCons, DV.gNil, DV.fT, DV.gT, DV.asB_bl, DV.asI_int, DV.fAnd, DV.fOr, DV.fNot, DV.gAnd, DV.gOr, DV.gNot, DV.fAndV, DV.fOrV, DV.fNotV, DV.gAndV, DV.gOrV, DV.fCall, DV.fCallR, DV.gCall, DV.fX, DV.xq, DV.okOf, DV.fTup, DV.fLst, DV.gTupE, DV.gLst, DV.fIf, DV.gIf, DV.qf, DV.qtf, DV.qa, DV.qi, DV.fChain, DV.fSl, DV.fO, DV.fONone, DV.mSl, DV.fSeq, DV.gSeq, DV.seqOf_lst, DV.seqOf_tup, DV.fEnum, DV.nLst, DV.nList, DV.nMul, DV.sOwn, DV.sApp, DV.sPar, DV.sParF, DV.sParOO, DV.sParDO, DV.sAug, DV.mAddI, DV.sFor, DV.sAsg, DV.sAsgF, DV.pName, DV.pNil, DV.pCons, DV.pTup, DV.wipeA, DV.mLen_lst, DV.mLen_tup, DV.mTuple, DV.mList, DV.mInt, DV.mAbs, DV.add_int, DV.mSub, DV.mLt, DV.mLe, DV.mGt, DV.mGe, DV.mRev, DV.fRev, DV.eq_ii, DV.ne_ii, DV.eq_tt, DV.ne_tt, DV.eq_ll, DV.ne_ll, Option.bind_some, Option.map_some, Option.bind_none, Option.map_none, List.getElem?_cons_zero, List.getElem?_cons_succ, List.set_cons_zero, List.set_cons_succ, List.length_cons, List.length_nil, List.length_map, Nat.zero_add, Nat.reduceAdd, ↓reduceIte, Bool.false_eq_true, if_true, if_false, Bool.not_true, Bool.not_false, d1, i1, i2, s2, d2, c1, cmp, ad]
    exact g1
theorem lC_ok (x0 x1 x2 x4 x5 x6 x7 x8 x9 x10 : Option AV) (bs : List (List Int × D)) : lC [x0, x1, x2, some (.dat (.lst (bs.map blk))), x4, x5, x6, x7, x8, x9, x10] = some (decide (1 < (bs.length : Int)), [x0, x1, x2, some (.dat (.lst (bs.map blk))), x4, x5, x6, x7, x8, x9, x10]) := by
  unfold lC
  simp only [DV.sSeq, DV.sRet, DV.sRetF, DV.sIf, DV.sIfF, DV.sSet, DV.sSetF, DV.sNil, DV.sExpr, DV.sExprX, DV.sRetX, DV.flX, DV.sRaise, DV.fVar, DV.fOwn, DV.fC, DV.fB, DV.gB, DV.fCB, DV.gCB, DV.fCons, DV.fNil, DV.gCons, DV.gNil, DV.fT, DV.gT, DV.asB_bl, DV.asI_int, DV.fAnd, DV.fOr, DV.fNot, DV.gAnd, DV.gOr, DV.gNot, DV.fAndV, DV.fOrV, DV.fNotV, DV.gAndV, DV.gOrV, DV.fCall, DV.fCallR, DV.gCall, DV.fX, DV.xq, DV.okOf, DV.fTup, DV.fLst, DV.gTupE, DV.gLst, DV.fIf, DV.gIf, DV.qf, DV.qtf, DV.qa, DV.qi, DV.fChain, DV.fSl, DV.fO, DV.fONone, DV.mSl, DV.fSeq, DV.gSeq, DV.seqOf_lst, DV.seqOf_tup, DV.fEnum, DV.nLst, DV.nList, DV.nMul, DV.sOwn, DV.sApp, DV.sPar, DV.sParF, DV.sParOO, DV.sParDO, DV.sAug, DV.mAddI, DV.sFor, DV.sAsg, DV.sAsgF, DV.pName, DV.pNil, DV.pCons, DV.pTup, DV.wipeA, DV.mLen_lst, DV.mLen_tup, DV.mTuple, DV.mList, DV.mInt, DV.mAbs, DV.add_int, DV.mSub, DV.mLt, DV.mLe, DV.mGt, DV.mGe, DV.mRev, DV.fRev, DV.eq_ii, DV.ne_ii, DV.eq_tt, DV.ne_tt, DV.eq_ll, DV.ne_ll, Option.bind_some, Option.map_some, Option.bind_none, Option.map_none, List.getElem?_cons_zero, List.getElem?_cons_succ, List.set_cons_zero, List.set_cons_succ, List.length_cons, List.length_nil, List.length_map, Nat.zero_add, Nat.reduceAdd, ↓reduceIte, Bool.false_eq_true, if_true, if_false, Bool.not_true, Bool.not_false]
theorem laid_loop : ∀ (k fuel : Nat) (x1 x2 x4 x5 x6 x7 x8 x9 x10 : Option AV) (xs : List D) (bs : List (List Int × D)), bs.length = k + 1 → k < fuel → k ≤ 400 → total bs ≤ 500 → (∀ z ∈ bs, LaidD z.1 z.2) → HandOk xs →
    ∃ (xs' : List D) (z : List Int × D) (y4 y5 y6 y7 y8 y9 y10 : Option AV), whGo lC lB fuel [some (.own true xs), x1, x2, some (.dat (.lst (bs.map blk))), x4, x5, x6, x7, x8, x9, x10] = some (.nx [some (.own true xs'), x1, x2, some (.dat (.lst [blk z])), y4, y5, y6, y7, y8, y9, y10]) ∧ HandOk xs' ∧ LaidD z.1 z.2 ∧ z.1.length = total bs
  | 0, fuel, x1, x2, x4, x5, x6, x7, x8, x9, x10, xs, bs, hk, hf, _, _, hl, h => by
    obtain ⟨fuel, rfl⟩ : ∃ f, fuel = f + 1 := ⟨fuel - 1, by omega⟩
    obtain ⟨z, rfl⟩ : ∃ z, bs = [z] := List.length_eq_one_iff.mp hk
    refine ⟨xs, z, x4, x5, x6, x7, x8, x9, x10, ?_, h, hl z List.mem_cons_self, by simp [total]⟩
    unfold whGo
    rw [lC_ok]
    rfl
  | k + 1, fuel, x1, x2, x4, x5, x6, x7, x8, x9, x10, xs, bs, hk, hf, hz, ht, hl, h => by
    obtain ⟨fuel, rfl⟩ : ∃ f, fuel = f + 1 := ⟨fuel - 1, by omega⟩
    obtain ⟨xs', bs', y4, y5, y6, y7, y8, y9, y10, e1, e2, e3, e4, e5⟩ := lB_ok (n := 0) x1 x2 x4 x5 x6 x7 x8 x9 x10 bs (by omega) (by omega) ht hl h
    obtain ⟨xs2, z, z4, z5, z6, z7, z8, z9, z10, i1, i2, i3, i4⟩ := laid_loop k fuel x1 x2 y4 y5 y6 y7 y8 y9 y10 xs' bs' (by omega) (by omega) (by omega) (by omega) e3 e2
    refine ⟨xs2, z, z4, z5, z6, z7, z8, z9, z10, ?_, i2, i3, by rw [i4, e5]⟩
    unfold whGo
    rw [lC_ok]
    have c : decide (1 < (bs.length : Int)) = true := decide_eq_true (by omega)
    rw [Option.bind_some, c]
    show ((lB _).bind _) = _
    rw [e1]
    exact i1
theorem laid_ok {xs : List D} {n : Nat} (h : HandOk xs) (h1 : 1 ≤ n) (hn : n ≤ 100) : ∃ (p : List Int) (t : D) (xs' : List D), Glaid xs [.int (n : Nat)] = some (.tup [DV.tI' p, t], xs') ∧ HandOk xs' ∧ LaidD p t ∧ p.length = n := by
  have hbs : total ((List.range n).map fun _ => (([0] : List Int), D.tup [.v (.str "one")])) = n := by
    unfold total
    rw [List.map_map]
    have : ((List.range n).map ((fun z : List Int × D => z.1.length) ∘ fun _ => (([0] : List Int), D.tup [.v (.str "one")]))) = List.replicate n 1 := by
      rw [show ((fun z : List Int × D => z.1.length) ∘ fun (_ : Nat) => (([0] : List Int), D.tup [.v (.str "one")])) = fun _ => 1 from rfl, List.map_const', List.length_range]
    rw [this, List.sum_replicate_nat]; omega
  obtain ⟨xs', z, y4, y5, y6, y7, y8, y9, y10, e1, e2, e3, e4⟩ := laid_loop (n - 1) 200 (some (.dat (.int (n : Nat)))) none none none none none none none none xs ((List.range n).map fun _ => (([0] : List Int), D.tup [.v (.str "one")])) (by rw [List.length_map, List.length_range]; omega) (by omega) (by omega) (by rw [hbs]; omega) (fun z hz => by
    obtain ⟨_, _, rfl⟩ := List.mem_map.mp hz
    exact .one) h
  rw [hbs] at e4
  refine ⟨z.1, z.2, xs', ?_, e2, e3, e4⟩
  unfold Glaid
  rw [runO_eq]
  refine outO_rt (A := [some (.dat (.int (n : Nat))), none, some (.dat (.lst [blk z])), y4, y5, y6, y7, y8, y9, y10]) ?_
  show mLaid [some (.own true xs), some (.dat (.int (n : Nat))), none, none, none, none, none, none, none, none, none] = _
  have e0 : l1 [some (.own true xs), some (.dat (.int (n : Nat))), none, none, none, none, none, none, none, none, none] = some (.nx [some (.own true xs), some (.dat (.int (n : Nat))), none, some (.dat (.lst (((List.range n).map fun _ => (([0] : List Int), D.tup [.v (.str "one")])).map blk))), none, none, none, none, none, none, none]) := by
    unfold l1 sSet
    rw [fLC_map (List.range n) (fun i => D.int ((i : Nat) : Int)) (fun _ => blk ([0], D.tup [.v (.str "one")])) (by rw [fR1_n (n := n) rfl (by omega), List.map_map]; rfl) (by rw [List.length_range]; omega) fun i _ => ⟨_, rfl, rfl, rfl⟩, List.map_map]
    rfl
  unfold mLaid
  simp only [DV.sSeq, e0, Option.bind_some, e1]
  rfl
end DH

namespace DH
open DV
variable [DV.TabC]
theorem hand_val (c1 c2 : Int) (hc : c2.natAbs < 2 ^ 64) (ad : PySem.Addr) (ns : List Int) : ∃ A', mHand c1 c2 ad ns [some (.dat (.v (.ref ad))), none, none] = some (.rt (.lst (hand0 c1 c2 ns)) A') := by
  refine ⟨[some (.dat (.v (.ref ad))), none, some (.dat (.lst ((cellsOf ns).map D.int)))], ?_⟩
  unfold mHand
  have e1 : fLC (fSeq (fScr 0 ad ((ns.take 63).map L2.V.int))) ([1] : List Nat) (pName 1) (fun _ => some true) (fCB mAbs (fCons (fCB mInt (fCons (fVar 1) fNil)) fNil)) [some (.dat (.v (.ref ad))), none, none] = some (.lst ((cellsOf ns).map D.int)) := by
    have es : fSeq (fScr 0 ad ((ns.take 63).map L2.V.int)) [some (.dat (.v (.ref ad))), none, none] = some ((ns.take 63).map D.int) := by
      unfold fSeq fScr
      simp only [List.getElem?_cons_zero, if_true]
      show some (((ns.take 63).map L2.V.int).map D.v) = _
      rw [List.map_map]; rfl
    rw [fLC_map (ns.take 63) D.int (fun n => .int (if n < 0 then -n else n)) es (by rw [List.length_take]; omega) fun n _ => ⟨_, rfl, rfl, rfl⟩]
    unfold cellsOf
    rw [List.map_map]
    congr 2
    refine List.map_congr_left fun n _ => ?_
    show D.int (if n < 0 then -n else n) = D.int ((n.natAbs : Nat) : Int)
    by_cases h : n < 0
    · rw [if_pos h, show ((n.natAbs : Nat) : Int) = -n by omega]
    · rw [if_neg h, show ((n.natAbs : Nat) : Int) = n by omega]
  have e2 : mMul (.int c2) (.int ((cellsOf ns).length : Nat)) = some (.int (c2 * ((cellsOf ns).length : Nat))) := mul_small' hc
  have s5 : szOk 5 = true := rfl
  simp only [DV.sSeq, DV.sRet, DV.sRetF, DV.sIf, DV.sIfF, DV.sSet, DV.sSetF, DV.sNil, DV.sExpr, DV.sExprX, DV.sRetX, DV.flX, DV.sRaise, DV.fVar, DV.fOwn, DV.fC, DV.fB, DV.gB, DV.fCB, DV.gCB, DV.fCons, DV.fNil, DV.gCons, DV.gNil, DV.fT, DV.gT, DV.asB_bl, DV.asI_int, DV.fAnd, DV.fOr, DV.fNot, DV.gAnd, DV.gOr, DV.gNot, DV.fAndV, DV.fOrV, DV.fNotV, DV.gAndV, DV.gOrV, DV.fCall, DV.fCallR, DV.gCall, DV.fX, DV.xq, DV.okOf, DV.fTup, DV.fLst, DV.gTupE, DV.gLst, DV.fIf, DV.gIf, DV.qf, DV.qtf, DV.qa, DV.qi, DV.fChain, DV.fSl, DV.fO, DV.fONone, DV.mSl, DV.fSeq, DV.gSeq, DV.seqOf_lst, DV.seqOf_tup, DV.fEnum, DV.nLst, DV.nList, DV.nMul, DV.sOwn, DV.sApp, DV.sPar, DV.sParF, DV.sParOO, DV.sParDO, DV.sAug, DV.mAddI, DV.sFor, DV.sAsg, DV.sAsgF, DV.pName, DV.pNil, DV.pCons, DV.pTup, DV.wipeA, DV.mLen_lst, DV.mLen_tup, DV.mTuple, DV.mList, DV.mInt, DV.mAbs, DV.add_int, DV.mSub, DV.mLt, DV.mLe, DV.mGt, DV.mGe, DV.mRev, DV.fRev, DV.eq_ii, DV.ne_ii, DV.eq_tt, DV.ne_tt, DV.eq_ll, DV.ne_ll, Option.bind_some, Option.map_some, Option.bind_none, Option.map_none, List.getElem?_cons_zero, List.getElem?_cons_succ, List.set_cons_zero, List.set_cons_succ, List.length_cons, List.length_nil, List.length_map, Nat.zero_add, Nat.reduceAdd, ↓reduceIte, Bool.false_eq_true, if_true, if_false, Bool.not_true, Bool.not_false, e1, e2, s5]
  rfl
theorem hand0_ok (c1 c2 : Int) (ns : List Int) : HandOk (hand0 c1 c2 ns) := ⟨cellsOf ns, 0, 0, _, 0, rfl⟩
end DH

namespace W74

def top (i : Nat) : PySem.Stmt := PySem.Challenge.pw_upsdowns_k74_whole_codes_and_numbers_of.main.body.getD i (.Pass ⟨0, 0, 0, 0⟩)
abbrev s_is_int : PySem.Stmt := top 6
abbrev s_is_within : PySem.Stmt := top 7
abbrev s_is_ints : PySem.Stmt := top 8
abbrev s_check_within : PySem.Stmt := top 9
abbrev s_is_order : PySem.Stmt := top 12
abbrev s_check_order : PySem.Stmt := top 13
abbrev s_code_of : PySem.Stmt := top 15
abbrev s_code : PySem.Stmt := top 16
abbrev s_is_code : PySem.Stmt := top 17
abbrev s_order_by_code : PySem.Stmt := top 18
abbrev s_from_code : PySem.Stmt := top 19
abbrev s_orders_many : PySem.Stmt := top 20
abbrev s_order_number : PySem.Stmt := top 21
abbrev s_numbered_order : PySem.Stmt := top 22
abbrev s_back_of : PySem.Stmt := top 24
abbrev s_check_two : PySem.Stmt := top 26
abbrev s_falling_pairs : PySem.Stmt := top 27
abbrev s_distance : PySem.Stmt := top 28
abbrev s__law_hand : PySem.Stmt := top 30
abbrev s__law_draw : PySem.Stmt := top 31
abbrev s__law_some : PySem.Stmt := top 32
abbrev s__law_mixed : PySem.Stmt := top 33
abbrev s__law_laid : PySem.Stmt := top 34
abbrev s__law_code : PySem.Stmt := top 35
abbrev s__law_from_code : PySem.Stmt := top 36
abbrev s__law_factorial : PySem.Stmt := top 37
abbrev s__law_number : PySem.Stmt := top 38
abbrev s__law_numbered : PySem.Stmt := top 39
abbrev s__law_word : PySem.Stmt := top 40
abbrev s__law_are_refused : PySem.Stmt := top 41
abbrev s__law_is_right : PySem.Stmt := top 42
abbrev s_law : PySem.Stmt := top 43
theorem bo_abs : PySem.bootBuiltins "abs" = some (.builtin "abs") := by decide +kernel
theorem bo_all : PySem.bootBuiltins "all" = some (.builtin "all") := by decide +kernel
theorem bo_bool : PySem.bootBuiltins "bool" = some (.type "bool") := by decide +kernel
theorem bo_enumerate : PySem.bootBuiltins "enumerate" = some (.type "enumerate") := by decide +kernel
theorem bo_int : PySem.bootBuiltins "int" = some (.type "int") := by decide +kernel
theorem bo_isinstance : PySem.bootBuiltins "isinstance" = some (.builtin "isinstance") := by decide +kernel
theorem bo_len : PySem.bootBuiltins "len" = some (.builtin "len") := by decide +kernel
theorem bo_list : PySem.bootBuiltins "list" = some (.type "list") := by decide +kernel
theorem bo_range : PySem.bootBuiltins "range" = some (.type "range") := by decide +kernel
theorem bo_sorted : PySem.bootBuiltins "sorted" = some (.builtin "sorted") := by decide +kernel
theorem bo_sum : PySem.bootBuiltins "sum" = some (.builtin "sum") := by decide +kernel
theorem bo_tuple : PySem.bootBuiltins "tuple" = some (.type "tuple") := by decide +kernel
def isB (c d : PySem.Str) : Bool := decide (c = d)
structure Ad where
  f_is_int : PySem.Addr
  d_is_int : PySem.FuncData
  f_is_within : PySem.Addr
  d_is_within : PySem.FuncData
  f_is_ints : PySem.Addr
  d_is_ints : PySem.FuncData
  f_check_within : PySem.Addr
  d_check_within : PySem.FuncData
  f_is_order : PySem.Addr
  d_is_order : PySem.FuncData
  f_check_order : PySem.Addr
  d_check_order : PySem.FuncData
  f_code_of : PySem.Addr
  d_code_of : PySem.FuncData
  f_code : PySem.Addr
  d_code : PySem.FuncData
  f_is_code : PySem.Addr
  d_is_code : PySem.FuncData
  f_order_by_code : PySem.Addr
  d_order_by_code : PySem.FuncData
  f_from_code : PySem.Addr
  d_from_code : PySem.FuncData
  f_orders_many : PySem.Addr
  d_orders_many : PySem.FuncData
  f_order_number : PySem.Addr
  d_order_number : PySem.FuncData
  f_numbered_order : PySem.Addr
  d_numbered_order : PySem.FuncData
  f_back_of : PySem.Addr
  d_back_of : PySem.FuncData
  f_check_two : PySem.Addr
  d_check_two : PySem.FuncData
  f_falling_pairs : PySem.Addr
  d_falling_pairs : PySem.FuncData
  f_distance : PySem.Addr
  d_distance : PySem.FuncData
  f__law_hand : PySem.Addr
  d__law_hand : PySem.FuncData
  f__law_draw : PySem.Addr
  d__law_draw : PySem.FuncData
  f__law_some : PySem.Addr
  d__law_some : PySem.FuncData
  f__law_mixed : PySem.Addr
  d__law_mixed : PySem.FuncData
  f__law_laid : PySem.Addr
  d__law_laid : PySem.FuncData
  f__law_code : PySem.Addr
  d__law_code : PySem.FuncData
  f__law_from_code : PySem.Addr
  d__law_from_code : PySem.FuncData
  f__law_factorial : PySem.Addr
  d__law_factorial : PySem.FuncData
  f__law_number : PySem.Addr
  d__law_number : PySem.FuncData
  f__law_numbered : PySem.Addr
  d__law_numbered : PySem.FuncData
  f__law_word : PySem.Addr
  d__law_word : PySem.FuncData
  f__law_are_refused : PySem.Addr
  d__law_are_refused : PySem.FuncData
  f__law_is_right : PySem.Addr
  d__law_is_right : PySem.FuncData
  f_law : PySem.Addr
  d_law : PySem.FuncData
  c_LayError : PySem.Addr
  c_BadCode : PySem.Addr
  c_BadOrder : PySem.Addr
  c_NoNumber : PySem.Addr
  lc : PySem.Addr
  lP : PySem.Addr
structure Fx [DV.TabC] (K : PySem.W.Frag) (mg : PySem.Str → Option PySem.Value) (cl : PySem.Str → PySem.Addr) (a : Ad) : Prop where
  z_abs : mg "abs" = none
  z_all : mg "all" = none
  z_bool : mg "bool" = none
  z_enumerate : mg "enumerate" = none
  z_int : mg "int" = none
  z_isinstance : mg "isinstance" = none
  z_len : mg "len" = none
  z_list : mg "list" = none
  z_range : mg "range" = none
  z_sorted : mg "sorted" = none
  z_sum : mg "sum" = none
  z_tuple : mg "tuple" = none
  c_MOST_ORDER : ∃ u, mg "MOST_ORDER" = some u ∧ L2.RelV (.int 60) u
  F_is_int : L2.Fun K "is_int" "is_int" s_is_int a.f_is_int a.d_is_int
  g_is_int : mg "is_int" = some (.ref a.f_is_int)
  b_is_int : L2.Binds K a.d_is_int (["thing"] : List PySem.Str) []
  F_is_within : L2.Fun K "is_within" "is_within" s_is_within a.f_is_within a.d_is_within
  g_is_within : mg "is_within" = some (.ref a.f_is_within)
  b_is_within : L2.Binds K a.d_is_within (["thing", "least", "greatest"] : List PySem.Str) []
  F_is_ints : L2.Fun K "is_ints" "is_ints" s_is_ints a.f_is_ints a.d_is_ints
  g_is_ints : mg "is_ints" = some (.ref a.f_is_ints)
  b_is_ints : L2.Binds K a.d_is_ints (["thing"] : List PySem.Str) []
  F_check_within : L2.Fun K "check_within" "check_within" s_check_within a.f_check_within a.d_check_within
  g_check_within : mg "check_within" = some (.ref a.f_check_within)
  b_check_within : L2.Binds K a.d_check_within (["thing", "least", "greatest"] : List PySem.Str) []
  F_is_order : L2.Fun K "is_order" "is_order" s_is_order a.f_is_order a.d_is_order
  g_is_order : mg "is_order" = some (.ref a.f_is_order)
  b_is_order : L2.Binds K a.d_is_order (["thing"] : List PySem.Str) []
  F_check_order : L2.Fun K "check_order" "check_order" s_check_order a.f_check_order a.d_check_order
  g_check_order : mg "check_order" = some (.ref a.f_check_order)
  b_check_order : L2.Binds K a.d_check_order (["order"] : List PySem.Str) []
  F_code_of : L2.Fun K "code_of" "code_of" s_code_of a.f_code_of a.d_code_of
  g_code_of : mg "code_of" = some (.ref a.f_code_of)
  b_code_of : L2.Binds K a.d_code_of (["order"] : List PySem.Str) []
  F_code : L2.Fun K "code" "code" s_code a.f_code a.d_code
  g_code : mg "code" = some (.ref a.f_code)
  b_code : L2.Binds K a.d_code (["order"] : List PySem.Str) []
  F_is_code : L2.Fun K "is_code" "is_code" s_is_code a.f_is_code a.d_is_code
  g_is_code : mg "is_code" = some (.ref a.f_is_code)
  b_is_code : L2.Binds K a.d_is_code (["thing"] : List PySem.Str) []
  F_order_by_code : L2.Fun K "order_by_code" "order_by_code" s_order_by_code a.f_order_by_code a.d_order_by_code
  g_order_by_code : mg "order_by_code" = some (.ref a.f_order_by_code)
  b_order_by_code : L2.Binds K a.d_order_by_code (["code"] : List PySem.Str) []
  F_from_code : L2.Fun K "from_code" "from_code" s_from_code a.f_from_code a.d_from_code
  g_from_code : mg "from_code" = some (.ref a.f_from_code)
  b_from_code : L2.Binds K a.d_from_code (["code"] : List PySem.Str) []
  F_orders_many : L2.Fun K "orders_many" "orders_many" s_orders_many a.f_orders_many a.d_orders_many
  g_orders_many : mg "orders_many" = some (.ref a.f_orders_many)
  b_orders_many : L2.Binds K a.d_orders_many (["many"] : List PySem.Str) []
  F_order_number : L2.Fun K "order_number" "order_number" s_order_number a.f_order_number a.d_order_number
  g_order_number : mg "order_number" = some (.ref a.f_order_number)
  b_order_number : L2.Binds K a.d_order_number (["order"] : List PySem.Str) []
  F_numbered_order : L2.Fun K "numbered_order" "numbered_order" s_numbered_order a.f_numbered_order a.d_numbered_order
  g_numbered_order : mg "numbered_order" = some (.ref a.f_numbered_order)
  b_numbered_order : L2.Binds K a.d_numbered_order (["many", "number"] : List PySem.Str) []
  F_back_of : L2.Fun K "back_of" "back_of" s_back_of a.f_back_of a.d_back_of
  g_back_of : mg "back_of" = some (.ref a.f_back_of)
  b_back_of : L2.Binds K a.d_back_of (["order"] : List PySem.Str) []
  F_check_two : L2.Fun K "check_two" "check_two" s_check_two a.f_check_two a.d_check_two
  g_check_two : mg "check_two" = some (.ref a.f_check_two)
  b_check_two : L2.Binds K a.d_check_two (["one", "other"] : List PySem.Str) []
  F_falling_pairs : L2.Fun K "falling_pairs" "falling_pairs" s_falling_pairs a.f_falling_pairs a.d_falling_pairs
  g_falling_pairs : mg "falling_pairs" = some (.ref a.f_falling_pairs)
  b_falling_pairs : L2.Binds K a.d_falling_pairs (["order"] : List PySem.Str) []
  F_distance : L2.Fun K "distance" "distance" s_distance a.f_distance a.d_distance
  g_distance : mg "distance" = some (.ref a.f_distance)
  b_distance : L2.Binds K a.d_distance (["one", "other"] : List PySem.Str) []
  F__law_hand : L2.Fun K "_law_hand" "_law_hand" s__law_hand a.f__law_hand a.d__law_hand
  g__law_hand : mg "_law_hand" = some (.ref a.f__law_hand)
  b__law_hand : L2.Binds K a.d__law_hand (["script"] : List PySem.Str) []
  F__law_draw : L2.Fun K "_law_draw" "_law_draw" s__law_draw a.f__law_draw a.d__law_draw
  g__law_draw : mg "_law_draw" = some (.ref a.f__law_draw)
  b__law_draw : L2.Binds K a.d__law_draw (["hand", "many"] : List PySem.Str) []
  F__law_some : L2.Fun K "_law_some" "_law_some" s__law_some a.f__law_some a.d__law_some
  g__law_some : mg "_law_some" = some (.ref a.f__law_some)
  b__law_some : L2.Binds K a.d__law_some (["hand", "items"] : List PySem.Str) []
  F__law_mixed : L2.Fun K "_law_mixed" "_law_mixed" s__law_mixed a.f__law_mixed a.d__law_mixed
  g__law_mixed : mg "_law_mixed" = some (.ref a.f__law_mixed)
  b__law_mixed : L2.Binds K a.d__law_mixed (["hand", "many"] : List PySem.Str) []
  F__law_laid : L2.Fun K "_law_laid" "_law_laid" s__law_laid a.f__law_laid a.d__law_laid
  g__law_laid : mg "_law_laid" = some (.ref a.f__law_laid)
  b__law_laid : L2.Binds K a.d__law_laid (["hand", "many"] : List PySem.Str) []
  F__law_code : L2.Fun K "_law_code" "_law_code" s__law_code a.f__law_code a.d__law_code
  g__law_code : mg "_law_code" = some (.ref a.f__law_code)
  b__law_code : L2.Binds K a.d__law_code (["order"] : List PySem.Str) []
  F__law_from_code : L2.Fun K "_law_from_code" "_law_from_code" s__law_from_code a.f__law_from_code a.d__law_from_code
  g__law_from_code : mg "_law_from_code" = some (.ref a.f__law_from_code)
  b__law_from_code : L2.Binds K a.d__law_from_code (["steps"] : List PySem.Str) []
  F__law_factorial : L2.Fun K "_law_factorial" "_law_factorial" s__law_factorial a.f__law_factorial a.d__law_factorial
  g__law_factorial : mg "_law_factorial" = some (.ref a.f__law_factorial)
  b__law_factorial : L2.Binds K a.d__law_factorial (["n"] : List PySem.Str) []
  F__law_number : L2.Fun K "_law_number" "_law_number" s__law_number a.f__law_number a.d__law_number
  g__law_number : mg "_law_number" = some (.ref a.f__law_number)
  b__law_number : L2.Binds K a.d__law_number (["order"] : List PySem.Str) []
  F__law_numbered : L2.Fun K "_law_numbered" "_law_numbered" s__law_numbered a.f__law_numbered a.d__law_numbered
  g__law_numbered : mg "_law_numbered" = some (.ref a.f__law_numbered)
  b__law_numbered : L2.Binds K a.d__law_numbered (["many", "number"] : List PySem.Str) []
  F__law_word : L2.Fun K "_law_word" "_law_word" s__law_word a.f__law_word a.d__law_word
  g__law_word : mg "_law_word" = some (.ref a.f__law_word)
  b__law_word : L2.Binds K a.d__law_word (["call"] : List PySem.Str) []
  F__law_are_refused : L2.Fun K "_law_are_refused" "_law_are_refused" s__law_are_refused a.f__law_are_refused a.d__law_are_refused
  g__law_are_refused : mg "_law_are_refused" = some (.ref a.f__law_are_refused)
  b__law_are_refused : L2.Binds K a.d__law_are_refused (["hand"] : List PySem.Str) []
  F__law_is_right : L2.Fun K "_law_is_right" "_law_is_right" s__law_is_right a.f__law_is_right a.d__law_is_right
  g__law_is_right : mg "_law_is_right" = some (.ref a.f__law_is_right)
  b__law_is_right : L2.Binds K a.d__law_is_right (["hand"] : List PySem.Str) []
  F_law : L2.Fun K "law" "law" s_law a.f_law a.d_law
  g_law : mg "law" = some (.ref a.f_law)
  b_law : L2.Binds K a.d_law (["script"] : List PySem.Str) []
  E_BadCode : DV.ErrC K mg "BadCode" (cl "BadCode")
  E_BadOrder : DV.ErrC K mg "BadOrder" (cl "BadOrder")
  E_NoNumber : DV.ErrC K mg "NoNumber" (cl "NoNumber")
  g_LayError : mg "LayError" = some (.ref a.c_LayError)
  excC : ∀ c, c ∈ (["BadCode", "BadOrder", "NoNumber"] : List PySem.Str) → L2.ExcC K (cl c)
  exm : ∀ c, c ∈ (["BadCode", "BadOrder", "NoNumber"] : List PySem.Str) → PySem.W.exmOne K (.ref (cl c)) (.ref a.c_LayError) = some true
  kit_BadCode : ∀ c, c ∈ (["BadCode", "BadOrder", "NoNumber"] : List PySem.Str) → PySem.W.kitOne K (.ref (cl c)) (.ref (cl "BadCode")) = some (isB c "BadCode")
  kit_BadOrder : ∀ c, c ∈ (["BadCode", "BadOrder", "NoNumber"] : List PySem.Str) → PySem.W.kitOne K (.ref (cl c)) (.ref (cl "BadOrder")) = some (isB c "BadOrder")
  kit_NoNumber : ∀ c, c ∈ (["BadCode", "BadOrder", "NoNumber"] : List PySem.Str) → PySem.W.kitOne K (.ref (cl c)) (.ref (cl "NoNumber")) = some (isB c "NoNumber")
  lc : a.d__law_are_refused.code = .ref a.lc
  lT : DV.TabC.T = [(a.lP, ("_law_are_refused.<locals>.<lambda>" : PySem.Str))]
variable [DV.TabC] {P : PySem.Program} {w : PySem.World} {K : PySem.W.Frag} {mg : PySem.Str → Option PySem.Value} {base : PySem.Heap} {cl : PySem.Str → PySem.Addr} {a : Ad}
abbrev N_is_int : List PySem.Str := (["thing"] : List PySem.Str)
theorem sc_is_int : L2.FnScope N_is_int (["thing"] : List PySem.Str) (L2.defScope s_is_int) := ⟨rfl, rfl, rfl, by decide +kernel, rfl, by decide +kernel, by decide +kernel⟩
def m_is_int : DV.AE → Option DV.Fl := (DV.sRet (DV.fAndV (DV.fCB DV.mIsi (DV.fCons (DV.fVar 0) (DV.fCons (DV.fC (.ty "int")) DV.fNil))) (DV.fNotV (DV.fCB DV.mIsi (DV.fCons (DV.fVar 0) (DV.fCons (DV.fC (.ty "bool")) DV.fNil))))))
def G_is_int : List DV.D → Option DV.Rs := DV.runP N_is_int.length (m_is_int)
theorem ok_is_int (X : Fx K mg cl a) : L2.FnOk P w K mg base (L2.CX P w) 1 a.f_is_int a.d_is_int (["thing"] : List PySem.Str) (DV.spP K cl 1 (G_is_int)) :=
  DV.fn_P X.F_is_int sc_is_int fun A outer s H E H0 B0 M hr => by exact ((DV.ss_one (DV.s_ret (DV.q_and (DV.q_callB DV.c_isi rfl X.z_isinstance bo_isinstance (DV.ra_cons (DV.rd (DV.q_var (L2.pv 0))) (DV.ra_cons (DV.rd (DV.q_c (L2.pe_bltn rfl X.z_int bo_int rfl))) DV.ra_nil))) (DV.q_one (DV.q_not (DV.q_callB DV.c_isi rfl X.z_isinstance bo_isinstance (DV.ra_cons (DV.rd (DV.q_var (L2.pv 0))) (DV.ra_cons (DV.rd (DV.q_c (L2.pe_bltn rfl X.z_bool bo_bool rfl))) DV.ra_nil)))))))))

abbrev N_is_within : List PySem.Str := (["thing", "least", "greatest"] : List PySem.Str)
theorem sc_is_within : L2.FnScope N_is_within (["thing", "least", "greatest"] : List PySem.Str) (L2.defScope s_is_within) := ⟨rfl, rfl, rfl, by decide +kernel, rfl, by decide +kernel, by decide +kernel⟩
def m_is_within : DV.AE → Option DV.Fl := (DV.sRet (DV.fAndV (DV.fCall 1 G_is_int (DV.fCons (DV.fVar 0) DV.fNil)) (DV.fChain DV.mLe DV.mLe (DV.fVar 1) (DV.fVar 0) (DV.fVar 2))))
def G_is_within : List DV.D → Option DV.Rs := DV.runP N_is_within.length (m_is_within)
theorem ok_is_within (X : Fx K mg cl a) : L2.FnOk P w K mg base (L2.CX P w) 2 a.f_is_within a.d_is_within (["thing", "least", "greatest"] : List PySem.Str) (DV.spP K cl 3 (G_is_within)) :=
  DV.fn_P X.F_is_within sc_is_within fun A outer s H E H0 B0 M hr => by exact ((DV.ss_one (DV.s_ret (DV.q_and (DV.q_call (ok_is_int X) (hr.mono (by decide)) rfl X.g_is_int X.F_is_int.kp X.b_is_int (DV.qa_cons (DV.q_var (L2.pv 0)) DV.qa_nil)) (DV.q_one (DV.q_chain DV.op_leD DV.op_leD (DV.rd (DV.q_var (L2.pv 1))) (DV.rd (DV.q_var (L2.pv 0))) (DV.rd (DV.q_var (L2.pv 2)))))))))

abbrev N_is_ints : List PySem.Str := (["thing", "part"] : List PySem.Str)
theorem sc_is_ints : L2.FnScope N_is_ints (["thing"] : List PySem.Str) (L2.defScope s_is_ints) := ⟨rfl, rfl, rfl, by decide +kernel, rfl, by decide +kernel, by decide +kernel⟩
def m_is_ints : DV.AE → Option DV.Fl := (DV.sRet (DV.fAndV (DV.fCB DV.mIsi (DV.fCons (DV.fVar 0) (DV.fCons (DV.fC (.ty "tuple")) DV.fNil))) (DV.fCB DV.mAll (DV.fCons (DV.fLC (DV.fSeq (DV.fVar 0)) ([1] : List Nat) (DV.pName 1) (fun _ => some true) (DV.fCall 1 G_is_int (DV.fCons (DV.fVar 1) DV.fNil))) DV.fNil))))
def G_is_ints : List DV.D → Option DV.Rs := DV.runP N_is_ints.length (m_is_ints)
theorem ok_is_ints (X : Fx K mg cl a) : L2.FnOk P w K mg base (L2.CX P w) 2 a.f_is_ints a.d_is_ints (["thing"] : List PySem.Str) (DV.spP K cl 1 (G_is_ints)) :=
  DV.fn_P X.F_is_ints sc_is_ints fun A outer s H E H0 B0 M hr => by exact ((DV.ss_one (DV.s_ret (DV.q_and (DV.q_callB DV.c_isi rfl X.z_isinstance bo_isinstance (DV.ra_cons (DV.rd (DV.q_var (L2.pv 0))) (DV.ra_cons (DV.rd (DV.q_c (L2.pe_bltn rfl X.z_tuple bo_tuple rfl))) DV.ra_nil))) (DV.q_one (DV.q_callB (DV.c_all rfl) rfl X.z_all bo_all (DV.ra_cons (DV.rd (DV.q_lc (own := [("part", 1)]) rfl sc_is_ints.nd (DV.iq (DV.i_seq (DV.q_var (L2.pv 0)))) (L2.blkOk_by (N := N_is_ints) (own := [("part", 1)]) (by kernel_rfl)) (fun _ _ _ _ _ => (DV.g_name (i := 1) sc_is_ints.nd rfl (by first | exact Or.inl rfl | exact Or.inr rfl))) (fun _ _ _ _ _ => DV.qts_nil) (fun _ _ _ _ _ => (DV.q_call (ok_is_int X) (hr.mono (by decide)) rfl X.g_is_int X.F_is_int.kp X.b_is_int (DV.qa_cons (DV.q_var (L2.pv 1)) DV.qa_nil))))) DV.ra_nil)))))))

abbrev N_check_within : List PySem.Str := (["thing", "least", "greatest"] : List PySem.Str)
theorem sc_check_within : L2.FnScope N_check_within (["thing", "least", "greatest"] : List PySem.Str) (L2.defScope s_check_within) := ⟨rfl, rfl, rfl, by decide +kernel, rfl, by decide +kernel, by decide +kernel⟩
def m_check_within : DV.AE → Option DV.Fl := (DV.sIf (DV.fNot (DV.fT (DV.fCall 3 G_is_within (DV.fCons (DV.fVar 0) (DV.fCons (DV.fVar 1) (DV.fCons (DV.fVar 2) DV.fNil)))))) (DV.sRaise "NoNumber") DV.sNil)
def G_check_within : List DV.D → Option DV.Rs := DV.runP N_check_within.length (m_check_within)
theorem ok_check_within (X : Fx K mg cl a) : L2.FnOk P w K mg base (L2.CX P w) 3 a.f_check_within a.d_check_within (["thing", "least", "greatest"] : List PySem.Str) (DV.spP K cl 3 (G_check_within)) :=
  DV.fn_P X.F_check_within sc_check_within fun A outer s H E H0 B0 M hr => by exact ((DV.ss_one (DV.s_if (DV.qt_not (DV.qt_val (DV.q_call (ok_is_within X) (hr.mono (by decide)) rfl X.g_is_within X.F_is_within.kp X.b_is_within (DV.qa_cons (DV.q_var (L2.pv 0)) (DV.qa_cons (DV.q_var (L2.pv 1)) (DV.qa_cons (DV.q_var (L2.pv 2)) DV.qa_nil)))))) (DV.ss_one (DV.s_raise rfl X.E_NoNumber rfl (L2.takes_of rfl rfl rfl rfl) rfl)) DV.ss_nil)))

abbrev N_is_order : List PySem.Str := (["thing"] : List PySem.Str)
theorem sc_is_order : L2.FnScope N_is_order (["thing"] : List PySem.Str) (L2.defScope s_is_order) := ⟨rfl, rfl, rfl, by decide +kernel, rfl, by decide +kernel, by decide +kernel⟩
def m_is_order : DV.AE → Option DV.Fl := (DV.sSeq (DV.sIf (DV.fOr (DV.fNot (DV.fT (DV.fCall 1 G_is_ints (DV.fCons (DV.fVar 0) DV.fNil)))) (DV.fNot (DV.fT (DV.fChain DV.mLe DV.mLe (DV.fC (.int 1)) (DV.fCB DV.mLen (DV.fCons (DV.fVar 0) DV.fNil)) (DV.fC (.int 60)))))) (DV.sRet (DV.fC (.bl false))) DV.sNil)
  (DV.sRet (DV.fB DV.mEq (DV.fCB DV.mSorted (DV.fCons (DV.fVar 0) DV.fNil)) (DV.fLR (DV.fG1 (DV.fCB DV.mLen (DV.fCons (DV.fVar 0) DV.fNil)))))))
def G_is_order : List DV.D → Option DV.Rs := DV.runP N_is_order.length (m_is_order)
theorem ok_is_order (X : Fx K mg cl a) : L2.FnOk P w K mg base (L2.CX P w) 3 a.f_is_order a.d_is_order (["thing"] : List PySem.Str) (DV.spP K cl 1 (G_is_order)) :=
  DV.fn_P X.F_is_order sc_is_order fun A outer s H E H0 B0 M hr => by exact ((DV.ss_cons (DV.s_if (L2.PW.pt (DV.qw_or (DV.qt_not (DV.qt_val (DV.q_call (ok_is_ints X) (hr.mono (by decide)) rfl X.g_is_ints X.F_is_ints.kp X.b_is_ints (DV.qa_cons (DV.q_var (L2.pv 0)) DV.qa_nil)))) (DV.qw_1 (DV.qt_not (DV.qt_chain DV.op_leD DV.op_leD (DV.rd (DV.q_c L2.pe_int)) (DV.rd (DV.q_callB DV.c_len rfl X.z_len bo_len (DV.ra_cons (DV.rd (DV.q_var (L2.pv 0))) DV.ra_nil))) (DV.rd (DV.q_c (C8.pe_gc rfl X.c_MOST_ORDER)))))))) (DV.ss_one (DV.s_ret (DV.q_c L2.pe_bl))) DV.ss_nil)
    (DV.ss_one (DV.s_ret (DV.q_cmp (DV.op_eqDD (DV.hu64 hr)) (DV.rd (DV.q_callB DV.c_sorted rfl X.z_sorted bo_sorted (DV.ra_cons (DV.rd (DV.q_var (L2.pv 0))) DV.ra_nil))) (DV.rd (DV.q_listR rfl rfl X.z_list (DV.qg_1 rfl X.z_range (DV.q_callB DV.c_len rfl X.z_len bo_len (DV.ra_cons (DV.rd (DV.q_var (L2.pv 0))) DV.ra_nil))))))))))

abbrev N_check_order : List PySem.Str := (["order"] : List PySem.Str)
theorem sc_check_order : L2.FnScope N_check_order (["order"] : List PySem.Str) (L2.defScope s_check_order) := ⟨rfl, rfl, rfl, by decide +kernel, rfl, by decide +kernel, by decide +kernel⟩
def m_check_order : DV.AE → Option DV.Fl := (DV.sIf (DV.fNot (DV.fT (DV.fCall 1 G_is_order (DV.fCons (DV.fVar 0) DV.fNil)))) (DV.sRaise "BadOrder") DV.sNil)
def G_check_order : List DV.D → Option DV.Rs := DV.runP N_check_order.length (m_check_order)
theorem ok_check_order (X : Fx K mg cl a) : L2.FnOk P w K mg base (L2.CX P w) 4 a.f_check_order a.d_check_order (["order"] : List PySem.Str) (DV.spP K cl 1 (G_check_order)) :=
  DV.fn_P X.F_check_order sc_check_order fun A outer s H E H0 B0 M hr => by exact ((DV.ss_one (DV.s_if (DV.qt_not (DV.qt_val (DV.q_call (ok_is_order X) (hr.mono (by decide)) rfl X.g_is_order X.F_is_order.kp X.b_is_order (DV.qa_cons (DV.q_var (L2.pv 0)) DV.qa_nil)))) (DV.ss_one (DV.s_raise rfl X.E_BadOrder rfl (L2.takes_of rfl rfl rfl rfl) rfl)) DV.ss_nil)))

abbrev N_code_of : List PySem.Str := (["order", "place", "value", "one"] : List PySem.Str)
theorem sc_code_of : L2.FnScope N_code_of (["order"] : List PySem.Str) (L2.defScope s_code_of) := ⟨rfl, rfl, rfl, by decide +kernel, rfl, by decide +kernel, by decide +kernel⟩
def m_code_of : DV.AE → Option DV.Fl := (DV.sRet (DV.fCB DV.mTuple (DV.fCons (DV.fLC (DV.fEnum (DV.fCons (DV.fVar 0) DV.fNil)) ([1, 2] : List Nat) (DV.pTup 2 (DV.pCons (DV.pName 1) (DV.pCons (DV.pName 2) DV.pNil))) (fun _ => some true) (DV.fCB DV.mLen (DV.fCons (DV.fLC (DV.fSeq (DV.fSl (DV.fVar 0) (DV.fO (DV.fVar 1)) DV.fONone)) ([3] : List Nat) (DV.pName 3) (DV.fT (DV.fB DV.mLt (DV.fVar 3) (DV.fVar 2))) (DV.fVar 3)) DV.fNil))) DV.fNil)))
def G_code_of : List DV.D → Option DV.Rs := DV.runP N_code_of.length (m_code_of)
theorem ok_code_of (X : Fx K mg cl a) : L2.FnOk P w K mg base (L2.CX P w) 1 a.f_code_of a.d_code_of (["order"] : List PySem.Str) (DV.spP K cl 1 (G_code_of)) :=
  DV.fn_P X.F_code_of sc_code_of fun A outer s H E H0 B0 M hr => by exact ((DV.ss_one (DV.s_ret (DV.q_callTy DV.c_tuple rfl X.z_tuple bo_tuple (DV.ra_cons (DV.rd (DV.q_lc (own := [("place", 1), ("value", 2)]) rfl sc_code_of.nd (DV.iq (DV.i_enum rfl X.z_enumerate (DV.qa_cons (DV.q_var (L2.pv 0)) DV.qa_nil))) (L2.blkOk_by (N := N_code_of) (own := [("place", 1), ("value", 2)]) (by kernel_rfl)) (fun _ _ _ _ _ => (DV.g_tup rfl (DV.gs_cons (DV.g_name (i := 1) sc_code_of.nd rfl (by first | exact Or.inl rfl | exact Or.inr rfl)) (DV.gs_cons (DV.g_name (i := 2) sc_code_of.nd rfl (by first | exact Or.inl rfl | exact Or.inr rfl)) DV.gs_nil)))) (fun _ _ _ _ _ => DV.qts_nil) (fun _ _ _ _ _ => (DV.q_callB DV.c_len rfl X.z_len bo_len (DV.ra_cons (DV.rd (DV.q_lc (own := [("one", 3)]) rfl sc_code_of.nd (DV.iq (DV.i_seq (DV.q_sl (DV.rd (DV.q_var (L2.pv 0))) (DV.qo_some (DV.q_var (L2.pv 1))) DV.qo_none))) (L2.blkOk_by (N := N_code_of) (own := [("one", 3)]) (by kernel_rfl)) (fun _ _ _ _ _ => (DV.g_name (i := 3) sc_code_of.nd rfl (by first | exact Or.inl rfl | exact Or.inr rfl))) (fun _ _ _ _ _ => (DV.qts_one (DV.qt_cmp (DV.op_ltD (DV.hu0 hr)) (DV.rd (DV.q_var (L2.pv 3))) (DV.rd (DV.q_var (L2.pv 2)))))) (fun _ _ _ _ _ => (DV.q_var (L2.pv 3))))) DV.ra_nil))))) DV.ra_nil)))))

abbrev N_code : List PySem.Str := (["order"] : List PySem.Str)
theorem sc_code : L2.FnScope N_code (["order"] : List PySem.Str) (L2.defScope s_code) := ⟨rfl, rfl, rfl, by decide +kernel, rfl, by decide +kernel, by decide +kernel⟩
def m_code : DV.AE → Option DV.Fl := (DV.sSeq (DV.sExprX (DV.fX 1 G_check_order (DV.fCons (DV.fVar 0) DV.fNil)))
  (DV.sRet (DV.fCall 1 G_code_of (DV.fCons (DV.fVar 0) DV.fNil))))
def G_code : List DV.D → Option DV.Rs := DV.runP N_code.length (m_code)
theorem ok_code (X : Fx K mg cl a) : L2.FnOk P w K mg base (L2.CX P w) 5 a.f_code a.d_code (["order"] : List PySem.Str) (DV.spP K cl 1 (G_code)) :=
  DV.fn_P X.F_code sc_code fun A outer s H E H0 B0 M hr => by exact ((DV.ss_cons (DV.s_exprX (DV.x_call (ok_check_order X) (hr.mono (by decide)) rfl X.g_check_order X.F_check_order.kp X.b_check_order (L2.passes_call (L2.takes_of rfl rfl rfl rfl) (fun _ _ _ _ h => h)) (DV.qa_cons (DV.q_var (L2.pv 0)) DV.qa_nil)))
    (DV.ss_one (DV.s_ret (DV.q_call (ok_code_of X) (hr.mono (by decide)) rfl X.g_code_of X.F_code_of.kp X.b_code_of (DV.qa_cons (DV.q_var (L2.pv 0)) DV.qa_nil))))))

abbrev N_is_code : List PySem.Str := (["thing", "place", "one"] : List PySem.Str)
theorem sc_is_code : L2.FnScope N_is_code (["thing"] : List PySem.Str) (L2.defScope s_is_code) := ⟨rfl, rfl, rfl, by decide +kernel, rfl, by decide +kernel, by decide +kernel⟩
def m_is_code : DV.AE → Option DV.Fl := (DV.sSeq (DV.sIf (DV.fOr (DV.fNot (DV.fT (DV.fCall 1 G_is_ints (DV.fCons (DV.fVar 0) DV.fNil)))) (DV.fNot (DV.fT (DV.fChain DV.mLe DV.mLe (DV.fC (.int 1)) (DV.fCB DV.mLen (DV.fCons (DV.fVar 0) DV.fNil)) (DV.fC (.int 60)))))) (DV.sRet (DV.fC (.bl false))) DV.sNil)
  (DV.sRet (DV.fCB DV.mAll (DV.fCons (DV.fLC (DV.fEnum (DV.fCons (DV.fVar 0) DV.fNil)) ([1, 2] : List Nat) (DV.pTup 2 (DV.pCons (DV.pName 1) (DV.pCons (DV.pName 2) DV.pNil))) (fun _ => some true) (DV.fChain DV.mLe DV.mLt (DV.fC (.int 0)) (DV.fVar 2) (DV.fB DV.mSub (DV.fCB DV.mLen (DV.fCons (DV.fVar 0) DV.fNil)) (DV.fVar 1)))) DV.fNil))))
def G_is_code : List DV.D → Option DV.Rs := DV.runP N_is_code.length (m_is_code)
theorem ok_is_code (X : Fx K mg cl a) : L2.FnOk P w K mg base (L2.CX P w) 3 a.f_is_code a.d_is_code (["thing"] : List PySem.Str) (DV.spP K cl 1 (G_is_code)) :=
  DV.fn_P X.F_is_code sc_is_code fun A outer s H E H0 B0 M hr => by exact ((DV.ss_cons (DV.s_if (L2.PW.pt (DV.qw_or (DV.qt_not (DV.qt_val (DV.q_call (ok_is_ints X) (hr.mono (by decide)) rfl X.g_is_ints X.F_is_ints.kp X.b_is_ints (DV.qa_cons (DV.q_var (L2.pv 0)) DV.qa_nil)))) (DV.qw_1 (DV.qt_not (DV.qt_chain DV.op_leD DV.op_leD (DV.rd (DV.q_c L2.pe_int)) (DV.rd (DV.q_callB DV.c_len rfl X.z_len bo_len (DV.ra_cons (DV.rd (DV.q_var (L2.pv 0))) DV.ra_nil))) (DV.rd (DV.q_c (C8.pe_gc rfl X.c_MOST_ORDER)))))))) (DV.ss_one (DV.s_ret (DV.q_c L2.pe_bl))) DV.ss_nil)
    (DV.ss_one (DV.s_ret (DV.q_callB (DV.c_all rfl) rfl X.z_all bo_all (DV.ra_cons (DV.rd (DV.q_lc (own := [("place", 1), ("one", 2)]) rfl sc_is_code.nd (DV.iq (DV.i_enum rfl X.z_enumerate (DV.qa_cons (DV.q_var (L2.pv 0)) DV.qa_nil))) (L2.blkOk_by (N := N_is_code) (own := [("place", 1), ("one", 2)]) (by kernel_rfl)) (fun _ _ _ _ _ => (DV.g_tup rfl (DV.gs_cons (DV.g_name (i := 1) sc_is_code.nd rfl (by first | exact Or.inl rfl | exact Or.inr rfl)) (DV.gs_cons (DV.g_name (i := 2) sc_is_code.nd rfl (by first | exact Or.inl rfl | exact Or.inr rfl)) DV.gs_nil)))) (fun _ _ _ _ _ => DV.qts_nil) (fun _ _ _ _ _ => (DV.q_chain DV.op_leD (DV.op_ltD (DV.hu0 hr)) (DV.rd (DV.q_c L2.pe_int)) (DV.rd (DV.q_var (L2.pv 2))) (DV.rd (DV.q_bin DV.op_subD (DV.rd (DV.q_callB DV.c_len rfl X.z_len bo_len (DV.ra_cons (DV.rd (DV.q_var (L2.pv 0))) DV.ra_nil))) (DV.rd (DV.q_var (L2.pv 1))))))))) DV.ra_nil))))))

abbrev N_order_by_code : List PySem.Str := (["code", "left", "found", "one"] : List PySem.Str)
theorem sc_order_by_code : L2.FnScope N_order_by_code (["code"] : List PySem.Str) (L2.defScope s_order_by_code) := ⟨rfl, rfl, rfl, by decide +kernel, rfl, by decide +kernel, by decide +kernel⟩
def m_order_by_code (a : Ad) : DV.AE → Option DV.Fl := (DV.sSeq (DV.sParDO 1 2 (DV.qf (DV.fLR (DV.fG1 (DV.fCB DV.mLen (DV.fCons (DV.fVar 0) DV.fNil))))) (DV.nLst (DV.qa DV.fNil)))
  (DV.sSeq (DV.sFor (DV.qi (DV.fSeq (DV.fVar 0))) (DV.pName 3) (DV.sSeq (DV.sApp 2 (DV.qf (DV.fB DV.mIx (DV.fVar 1) (DV.fVar 3))))
  (DV.sSet 1 (DV.fB DV.mAdd (DV.fSl (DV.fVar 1) DV.fONone (DV.fO (DV.fVar 3))) (DV.fSl (DV.fVar 1) (DV.fO (DV.fB DV.mAdd (DV.fVar 3) (DV.fC (.int 1)))) DV.fONone)))))
  (DV.sRet (DV.fCB DV.mTuple (DV.fCons (DV.fOwn 2) DV.fNil)))))
def G_order_by_code (a : Ad) : List DV.D → Option DV.Rs := DV.runP N_order_by_code.length (m_order_by_code a)
theorem ok_order_by_code (X : Fx K mg cl a) : L2.FnOk P w K mg base (L2.CX P w) 6 a.f_order_by_code a.d_order_by_code (["code"] : List PySem.Str) (DV.spP K cl 1 (G_order_by_code a)) :=
  DV.fn_P X.F_order_by_code sc_order_by_code fun A outer s H E H0 B0 M hr => by exact ((DV.ss_cons (DV.s_parDO (i := 1) (j := 2) rfl sc_order_by_code.nd rfl rfl (by decide) rfl rfl (DV.ef (DV.q_listR rfl rfl X.z_list (DV.qg_1 rfl X.z_range (DV.q_callB DV.c_len rfl X.z_len bo_len (DV.ra_cons (DV.rd (DV.q_var (L2.pv 0))) DV.ra_nil))))) (DV.n_lst (DV.efa DV.qa_nil)) rfl)
    (DV.ss_cons (DV.s_for (L2.passes_of rfl) rfl (DV.ei (DV.i_seq (DV.q_var (L2.pv 0)))) (DV.g_name (i := 3) sc_order_by_code.nd rfl (by first | exact Or.inl rfl | exact Or.inr rfl)) (DV.ss_cons (DV.s_append (i := 2) (L2.pe_bm PySem.F.plainAttrs_list PySem.F.slot_list_append PySem.F.type_list_append L2.mt_append (L2.pv 2) (L2.pa_cons (DV.ef (DV.q_ix (DV.rd (DV.q_var (L2.pv 1))) (DV.rd (DV.q_var (L2.pv 3))))) L2.pa_nil)))
    (DV.ss_one (DV.s_set (i := 1) sc_order_by_code.nd rfl (by first | exact Or.inl rfl | exact Or.inr rfl) (DV.q_bin DV.op_addD (DV.rd (DV.q_sl (DV.rd (DV.q_var (L2.pv 1))) DV.qo_none (DV.qo_some (DV.q_var (L2.pv 3))))) (DV.rd (DV.q_sl (DV.rd (DV.q_var (L2.pv 1))) (DV.qo_some (DV.q_bin DV.op_addD (DV.rd (DV.q_var (L2.pv 3))) (DV.rd (DV.q_c L2.pe_int)))) DV.qo_none)))))))
    (DV.ss_one (DV.s_ret (DV.q_callTy DV.c_tuple rfl X.z_tuple bo_tuple (DV.ra_cons (DV.r_var (L2.pv 2)) DV.ra_nil)))))))

abbrev N_from_code : List PySem.Str := (["code"] : List PySem.Str)
theorem sc_from_code : L2.FnScope N_from_code (["code"] : List PySem.Str) (L2.defScope s_from_code) := ⟨rfl, rfl, rfl, by decide +kernel, rfl, by decide +kernel, by decide +kernel⟩
def m_from_code (a : Ad) : DV.AE → Option DV.Fl := (DV.sSeq (DV.sIf (DV.fNot (DV.fT (DV.fCall 1 G_is_code (DV.fCons (DV.fVar 0) DV.fNil)))) (DV.sRaise "BadCode") DV.sNil)
  (DV.sRet (DV.fCall 1 (G_order_by_code a) (DV.fCons (DV.fVar 0) DV.fNil))))
def G_from_code (a : Ad) : List DV.D → Option DV.Rs := DV.runP N_from_code.length (m_from_code a)
theorem ok_from_code (X : Fx K mg cl a) : L2.FnOk P w K mg base (L2.CX P w) 7 a.f_from_code a.d_from_code (["code"] : List PySem.Str) (DV.spP K cl 1 (G_from_code a)) :=
  DV.fn_P X.F_from_code sc_from_code fun A outer s H E H0 B0 M hr => by exact ((DV.ss_cons (DV.s_if (DV.qt_not (DV.qt_val (DV.q_call (ok_is_code X) (hr.mono (by decide)) rfl X.g_is_code X.F_is_code.kp X.b_is_code (DV.qa_cons (DV.q_var (L2.pv 0)) DV.qa_nil)))) (DV.ss_one (DV.s_raise rfl X.E_BadCode rfl (L2.takes_of rfl rfl rfl rfl) rfl)) DV.ss_nil)
    (DV.ss_one (DV.s_ret (DV.q_call (ok_order_by_code X) (hr.mono (by decide)) rfl X.g_order_by_code X.F_order_by_code.kp X.b_order_by_code (DV.qa_cons (DV.q_var (L2.pv 0)) DV.qa_nil))))))

abbrev N_orders_many : List PySem.Str := (["many", "found", "number"] : List PySem.Str)
theorem sc_orders_many : L2.FnScope N_orders_many (["many"] : List PySem.Str) (L2.defScope s_orders_many) := ⟨rfl, rfl, rfl, by decide +kernel, rfl, by decide +kernel, by decide +kernel⟩
def m_orders_many : DV.AE → Option DV.Fl := (DV.sSeq (DV.sSet 1 (DV.fC (.int 1)))
  (DV.sSeq (DV.sFor (DV.qi (DV.fR2 (DV.fCons (DV.fC (.int 1)) (DV.fCons (DV.fB DV.mAdd (DV.fVar 0) (DV.fC (.int 1))) DV.fNil)))) (DV.pName 2) (DV.sSet 1 (DV.fB DV.mMul (DV.fVar 1) (DV.fVar 2))))
  (DV.sRet (DV.fVar 1))))
def G_orders_many : List DV.D → Option DV.Rs := DV.runP N_orders_many.length (m_orders_many)
theorem ok_orders_many (X : Fx K mg cl a) : L2.FnOk P w K mg base (L2.CX P w) 1 a.f_orders_many a.d_orders_many (["many"] : List PySem.Str) (DV.spP K cl 1 (G_orders_many)) :=
  DV.fn_P X.F_orders_many sc_orders_many fun A outer s H E H0 B0 M hr => by exact ((DV.ss_cons (DV.s_set (i := 1) sc_orders_many.nd rfl (by first | exact Or.inl rfl | exact Or.inr rfl) (DV.q_c L2.pe_int))
    (DV.ss_cons (DV.s_for (L2.passes_of rfl) rfl (DV.ei (DV.i_rng2 rfl X.z_range (DV.qa_cons (DV.q_c L2.pe_int) (DV.qa_cons (DV.q_bin DV.op_addD (DV.rd (DV.q_var (L2.pv 0))) (DV.rd (DV.q_c L2.pe_int))) DV.qa_nil)))) (DV.g_name (i := 2) sc_orders_many.nd rfl (by first | exact Or.inl rfl | exact Or.inr rfl)) (DV.ss_one (DV.s_set (i := 1) sc_orders_many.nd rfl (by first | exact Or.inl rfl | exact Or.inr rfl) (DV.q_bin DV.op_mulD (DV.rd (DV.q_var (L2.pv 1))) (DV.rd (DV.q_var (L2.pv 2)))))))
    (DV.ss_one (DV.s_ret (DV.q_var (L2.pv 1)))))))

abbrev N_order_number : List PySem.Str := (["order", "found", "place", "one"] : List PySem.Str)
theorem sc_order_number : L2.FnScope N_order_number (["order"] : List PySem.Str) (L2.defScope s_order_number) := ⟨rfl, rfl, rfl, by decide +kernel, rfl, by decide +kernel, by decide +kernel⟩
def m_order_number : DV.AE → Option DV.Fl := (DV.sSeq (DV.sExprX (DV.fX 1 G_check_order (DV.fCons (DV.fVar 0) DV.fNil)))
  (DV.sSeq (DV.sSet 1 (DV.fC (.int 0)))
  (DV.sSeq (DV.sFor (DV.qi (DV.fEnum (DV.fCons (DV.fCall 1 G_code_of (DV.fCons (DV.fVar 0) DV.fNil)) DV.fNil))) (DV.pTup 2 (DV.pCons (DV.pName 2) (DV.pCons (DV.pName 3) DV.pNil))) (DV.sSet 1 (DV.fB DV.mAdd (DV.fB DV.mMul (DV.fVar 1) (DV.fB DV.mSub (DV.fCB DV.mLen (DV.fCons (DV.fVar 0) DV.fNil)) (DV.fVar 2))) (DV.fVar 3))))
  (DV.sRet (DV.fVar 1)))))
def G_order_number : List DV.D → Option DV.Rs := DV.runP N_order_number.length (m_order_number)
theorem ok_order_number (X : Fx K mg cl a) : L2.FnOk P w K mg base (L2.CX P w) 5 a.f_order_number a.d_order_number (["order"] : List PySem.Str) (DV.spP K cl 1 (G_order_number)) :=
  DV.fn_P X.F_order_number sc_order_number fun A outer s H E H0 B0 M hr => by exact ((DV.ss_cons (DV.s_exprX (DV.x_call (ok_check_order X) (hr.mono (by decide)) rfl X.g_check_order X.F_check_order.kp X.b_check_order (L2.passes_call (L2.takes_of rfl rfl rfl rfl) (fun _ _ _ _ h => h)) (DV.qa_cons (DV.q_var (L2.pv 0)) DV.qa_nil)))
    (DV.ss_cons (DV.s_set (i := 1) sc_order_number.nd rfl (by first | exact Or.inl rfl | exact Or.inr rfl) (DV.q_c L2.pe_int))
    (DV.ss_cons (DV.s_for (L2.passes_of rfl) rfl (DV.ei (DV.i_enum rfl X.z_enumerate (DV.qa_cons (DV.q_call (ok_code_of X) (hr.mono (by decide)) rfl X.g_code_of X.F_code_of.kp X.b_code_of (DV.qa_cons (DV.q_var (L2.pv 0)) DV.qa_nil)) DV.qa_nil))) (DV.g_tup rfl (DV.gs_cons (DV.g_name (i := 2) sc_order_number.nd rfl (by first | exact Or.inl rfl | exact Or.inr rfl)) (DV.gs_cons (DV.g_name (i := 3) sc_order_number.nd rfl (by first | exact Or.inl rfl | exact Or.inr rfl)) DV.gs_nil))) (DV.ss_one (DV.s_set (i := 1) sc_order_number.nd rfl (by first | exact Or.inl rfl | exact Or.inr rfl) (DV.q_bin DV.op_addD (DV.rd (DV.q_bin DV.op_mulD (DV.rd (DV.q_var (L2.pv 1))) (DV.rd (DV.q_bin DV.op_subD (DV.rd (DV.q_callB DV.c_len rfl X.z_len bo_len (DV.ra_cons (DV.rd (DV.q_var (L2.pv 0))) DV.ra_nil))) (DV.rd (DV.q_var (L2.pv 2))))))) (DV.rd (DV.q_var (L2.pv 3)))))))
    (DV.ss_one (DV.s_ret (DV.q_var (L2.pv 1))))))))

abbrev N_numbered_order : List PySem.Str := (["many", "number", "found", "radix"] : List PySem.Str)
theorem sc_numbered_order : L2.FnScope N_numbered_order (["many", "number"] : List PySem.Str) (L2.defScope s_numbered_order) := ⟨rfl, rfl, rfl, by decide +kernel, rfl, by decide +kernel, by decide +kernel⟩
def m_numbered_order (a : Ad) : DV.AE → Option DV.Fl := (DV.sSeq (DV.sExprX (DV.fX 3 G_check_within (DV.fCons (DV.fVar 0) (DV.fCons (DV.fC (.int 1)) (DV.fCons (DV.fC (.int 60)) DV.fNil)))))
  (DV.sSeq (DV.sExprX (DV.fX 3 G_check_within (DV.fCons (DV.fVar 1) (DV.fCons (DV.fC (.int 0)) (DV.fCons (DV.fB DV.mSub (DV.fCall 1 G_orders_many (DV.fCons (DV.fVar 0) DV.fNil)) (DV.fC (.int 1))) DV.fNil)))))
  (DV.sSeq (DV.sOwn 2 (DV.nLst (DV.qa DV.fNil)))
  (DV.sSeq (DV.sFor (DV.qi (DV.fR2 (DV.fCons (DV.fC (.int 1)) (DV.fCons (DV.fB DV.mAdd (DV.fVar 0) (DV.fC (.int 1))) DV.fNil)))) (DV.pName 3) (DV.sSeq (DV.sApp 2 (DV.qf (DV.fB DV.mMod (DV.fVar 1) (DV.fVar 3))))
  (DV.sSet 1 (DV.fB DV.mDiv (DV.fVar 1) (DV.fVar 3)))))
  (DV.sRet (DV.fCall 1 (G_order_by_code a) (DV.fCons (DV.fCB DV.mTuple (DV.fCons (DV.fRev (DV.fOwn 2)) DV.fNil)) DV.fNil)))))))
def G_numbered_order (a : Ad) : List DV.D → Option DV.Rs := DV.runP N_numbered_order.length (m_numbered_order a)
theorem ok_numbered_order (X : Fx K mg cl a) : L2.FnOk P w K mg base (L2.CX P w) 7 a.f_numbered_order a.d_numbered_order (["many", "number"] : List PySem.Str) (DV.spP K cl 2 (G_numbered_order a)) :=
  DV.fn_P X.F_numbered_order sc_numbered_order fun A outer s H E H0 B0 M hr => by exact ((DV.ss_cons (DV.s_exprX (DV.x_call (ok_check_within X) (hr.mono (by decide)) rfl X.g_check_within X.F_check_within.kp X.b_check_within (L2.passes_call (L2.takes_of rfl rfl rfl rfl) (fun _ _ _ _ h => h)) (DV.qa_cons (DV.q_var (L2.pv 0)) (DV.qa_cons (DV.q_c L2.pe_int) (DV.qa_cons (DV.q_c (C8.pe_gc rfl X.c_MOST_ORDER)) DV.qa_nil)))))
    (DV.ss_cons (DV.s_exprX (DV.x_call (ok_check_within X) (hr.mono (by decide)) rfl X.g_check_within X.F_check_within.kp X.b_check_within (L2.passes_call (L2.takes_of rfl rfl rfl rfl) (fun _ _ _ _ h => h)) (DV.qa_cons (DV.q_var (L2.pv 1)) (DV.qa_cons (DV.q_c L2.pe_int) (DV.qa_cons (DV.q_bin DV.op_subD (DV.rd (DV.q_call (ok_orders_many X) (hr.mono (by decide)) rfl X.g_orders_many X.F_orders_many.kp X.b_orders_many (DV.qa_cons (DV.q_var (L2.pv 0)) DV.qa_nil))) (DV.rd (DV.q_c L2.pe_int))) DV.qa_nil)))))
    (DV.ss_cons (DV.s_own (i := 2) sc_numbered_order.nd rfl (by first | exact Or.inl rfl | exact Or.inr rfl) (DV.n_lst (DV.efa DV.qa_nil)))
    (DV.ss_cons (DV.s_for (L2.passes_of rfl) rfl (DV.ei (DV.i_rng2 rfl X.z_range (DV.qa_cons (DV.q_c L2.pe_int) (DV.qa_cons (DV.q_bin DV.op_addD (DV.rd (DV.q_var (L2.pv 0))) (DV.rd (DV.q_c L2.pe_int))) DV.qa_nil)))) (DV.g_name (i := 3) sc_numbered_order.nd rfl (by first | exact Or.inl rfl | exact Or.inr rfl)) (DV.ss_cons (DV.s_append (i := 2) (L2.pe_bm PySem.F.plainAttrs_list PySem.F.slot_list_append PySem.F.type_list_append L2.mt_append (L2.pv 2) (L2.pa_cons (DV.ef (DV.q_bin DV.op_modD (DV.rd (DV.q_var (L2.pv 1))) (DV.rd (DV.q_var (L2.pv 3))))) L2.pa_nil)))
    (DV.ss_one (DV.s_set (i := 1) sc_numbered_order.nd rfl (by first | exact Or.inl rfl | exact Or.inr rfl) (DV.q_bin DV.op_divD (DV.rd (DV.q_var (L2.pv 1))) (DV.rd (DV.q_var (L2.pv 3))))))))
    (DV.ss_one (DV.s_ret (DV.q_call (ok_order_by_code X) (hr.mono (by decide)) rfl X.g_order_by_code X.F_order_by_code.kp X.b_order_by_code (DV.qa_cons (DV.q_callTy DV.c_tuple rfl X.z_tuple bo_tuple (DV.ra_cons (DV.rd (DV.q_rev (DV.r_var (L2.pv 2)))) DV.ra_nil)) DV.qa_nil)))))))))

abbrev N_back_of : List PySem.Str := (["order", "found", "place", "value"] : List PySem.Str)
theorem sc_back_of : L2.FnScope N_back_of (["order"] : List PySem.Str) (L2.defScope s_back_of) := ⟨rfl, rfl, rfl, by decide +kernel, rfl, by decide +kernel, by decide +kernel⟩
def m_back_of : DV.AE → Option DV.Fl := (DV.sSeq (DV.sOwn 1 (DV.nMul (DV.fLst (DV.fCons (DV.fC (.int 0)) DV.fNil)) (DV.fCB DV.mLen (DV.fCons (DV.fVar 0) DV.fNil))))
  (DV.sSeq (DV.sFor (DV.qi (DV.fEnum (DV.fCons (DV.fVar 0) DV.fNil))) (DV.pTup 2 (DV.pCons (DV.pName 2) (DV.pCons (DV.pName 3) DV.pNil))) (DV.sSetI 1 (DV.qf (DV.fVar 2)) (DV.fVar 3)))
  (DV.sRet (DV.fCB DV.mTuple (DV.fCons (DV.fOwn 1) DV.fNil)))))
def G_back_of : List DV.D → Option DV.Rs := DV.runP N_back_of.length (m_back_of)
theorem ok_back_of (X : Fx K mg cl a) : L2.FnOk P w K mg base (L2.CX P w) 1 a.f_back_of a.d_back_of (["order"] : List PySem.Str) (DV.spP K cl 1 (G_back_of)) :=
  DV.fn_P X.F_back_of sc_back_of fun A outer s H E H0 B0 M hr => by exact ((DV.ss_cons (DV.s_own (i := 1) sc_back_of.nd rfl (by first | exact Or.inl rfl | exact Or.inr rfl) (DV.n_mul (DV.rd (DV.q_lst (DV.qa_cons (DV.q_c L2.pe_int) DV.qa_nil))) (DV.q_callB DV.c_len rfl X.z_len bo_len (DV.ra_cons (DV.rd (DV.q_var (L2.pv 0))) DV.ra_nil))))
    (DV.ss_cons (DV.s_for (L2.passes_of rfl) rfl (DV.ei (DV.i_enum rfl X.z_enumerate (DV.qa_cons (DV.q_var (L2.pv 0)) DV.qa_nil))) (DV.g_tup rfl (DV.gs_cons (DV.g_name (i := 2) sc_back_of.nd rfl (by first | exact Or.inl rfl | exact Or.inr rfl)) (DV.gs_cons (DV.g_name (i := 3) sc_back_of.nd rfl (by first | exact Or.inl rfl | exact Or.inr rfl)) DV.gs_nil))) (DV.ss_one (DV.s_setItem (i := 1) (L2.ps_asg (DV.ef (DV.q_var (L2.pv 2))) (L2.pg_sub (L2.pv 1) (DV.q_var (L2.pv 3)) L2.set_list)))))
    (DV.ss_one (DV.s_ret (DV.q_callTy DV.c_tuple rfl X.z_tuple bo_tuple (DV.ra_cons (DV.r_var (L2.pv 1)) DV.ra_nil)))))))

abbrev N_check_two : List PySem.Str := (["one", "other"] : List PySem.Str)
theorem sc_check_two : L2.FnScope N_check_two (["one", "other"] : List PySem.Str) (L2.defScope s_check_two) := ⟨rfl, rfl, rfl, by decide +kernel, rfl, by decide +kernel, by decide +kernel⟩
def m_check_two : DV.AE → Option DV.Fl := (DV.sSeq (DV.sExprX (DV.fX 1 G_check_order (DV.fCons (DV.fVar 0) DV.fNil)))
  (DV.sSeq (DV.sExprX (DV.fX 1 G_check_order (DV.fCons (DV.fVar 1) DV.fNil)))
  (DV.sIf (DV.fT (DV.fB DV.mNe (DV.fCB DV.mLen (DV.fCons (DV.fVar 0) DV.fNil)) (DV.fCB DV.mLen (DV.fCons (DV.fVar 1) DV.fNil)))) (DV.sRaise "BadOrder") DV.sNil)))
def G_check_two : List DV.D → Option DV.Rs := DV.runP N_check_two.length (m_check_two)
theorem ok_check_two (X : Fx K mg cl a) : L2.FnOk P w K mg base (L2.CX P w) 5 a.f_check_two a.d_check_two (["one", "other"] : List PySem.Str) (DV.spP K cl 2 (G_check_two)) :=
  DV.fn_P X.F_check_two sc_check_two fun A outer s H E H0 B0 M hr => by exact ((DV.ss_cons (DV.s_exprX (DV.x_call (ok_check_order X) (hr.mono (by decide)) rfl X.g_check_order X.F_check_order.kp X.b_check_order (L2.passes_call (L2.takes_of rfl rfl rfl rfl) (fun _ _ _ _ h => h)) (DV.qa_cons (DV.q_var (L2.pv 0)) DV.qa_nil)))
    (DV.ss_cons (DV.s_exprX (DV.x_call (ok_check_order X) (hr.mono (by decide)) rfl X.g_check_order X.F_check_order.kp X.b_check_order (L2.passes_call (L2.takes_of rfl rfl rfl rfl) (fun _ _ _ _ h => h)) (DV.qa_cons (DV.q_var (L2.pv 1)) DV.qa_nil)))
    (DV.ss_one (DV.s_if (DV.qt_cmp (DV.op_neDD (DV.hu64 hr)) (DV.rd (DV.q_callB DV.c_len rfl X.z_len bo_len (DV.ra_cons (DV.rd (DV.q_var (L2.pv 0))) DV.ra_nil))) (DV.rd (DV.q_callB DV.c_len rfl X.z_len bo_len (DV.ra_cons (DV.rd (DV.q_var (L2.pv 1))) DV.ra_nil)))) (DV.ss_one (DV.s_raise rfl X.E_BadOrder rfl (L2.takes_of rfl rfl rfl rfl) rfl)) DV.ss_nil)))))

abbrev N_falling_pairs : List PySem.Str := (["order", "found", "place", "value", "other"] : List PySem.Str)
theorem sc_falling_pairs : L2.FnScope N_falling_pairs (["order"] : List PySem.Str) (L2.defScope s_falling_pairs) := ⟨rfl, rfl, rfl, by decide +kernel, rfl, by decide +kernel, by decide +kernel⟩
def m_falling_pairs : DV.AE → Option DV.Fl := (DV.sSeq (DV.sSet 1 (DV.fC (.int 0)))
  (DV.sSeq (DV.sFor (DV.qi (DV.fEnum (DV.fCons (DV.fVar 0) DV.fNil))) (DV.pTup 2 (DV.pCons (DV.pName 2) (DV.pCons (DV.pName 3) DV.pNil))) (DV.sAug 1 DV.mAddI (DV.fCB DV.mLen (DV.fCons (DV.fLC (DV.fSeq (DV.fSl (DV.fVar 0) (DV.fO (DV.fB DV.mAdd (DV.fVar 2) (DV.fC (.int 1)))) DV.fONone)) ([4] : List Nat) (DV.pName 4) (DV.fT (DV.fB DV.mLt (DV.fVar 4) (DV.fVar 3))) (DV.fVar 4)) DV.fNil))))
  (DV.sRet (DV.fVar 1))))
def G_falling_pairs : List DV.D → Option DV.Rs := DV.runP N_falling_pairs.length (m_falling_pairs)
theorem ok_falling_pairs (X : Fx K mg cl a) : L2.FnOk P w K mg base (L2.CX P w) 1 a.f_falling_pairs a.d_falling_pairs (["order"] : List PySem.Str) (DV.spP K cl 1 (G_falling_pairs)) :=
  DV.fn_P X.F_falling_pairs sc_falling_pairs fun A outer s H E H0 B0 M hr => by exact ((DV.ss_cons (DV.s_set (i := 1) sc_falling_pairs.nd rfl (by first | exact Or.inl rfl | exact Or.inr rfl) (DV.q_c L2.pe_int))
    (DV.ss_cons (DV.s_for (L2.passes_of rfl) rfl (DV.ei (DV.i_enum rfl X.z_enumerate (DV.qa_cons (DV.q_var (L2.pv 0)) DV.qa_nil))) (DV.g_tup rfl (DV.gs_cons (DV.g_name (i := 2) sc_falling_pairs.nd rfl (by first | exact Or.inl rfl | exact Or.inr rfl)) (DV.gs_cons (DV.g_name (i := 3) sc_falling_pairs.nd rfl (by first | exact Or.inl rfl | exact Or.inr rfl)) DV.gs_nil))) (DV.ss_one (DV.s_augI (i := 1) sc_falling_pairs.nd rfl (by first | exact Or.inl rfl | exact Or.inr rfl) (by exact (DV.q_callB DV.c_len rfl X.z_len bo_len (DV.ra_cons (DV.rd (DV.q_lc (own := [("other", 4)]) rfl sc_falling_pairs.nd (DV.iq (DV.i_seq (DV.q_sl (DV.rd (DV.q_var (L2.pv 0))) (DV.qo_some (DV.q_bin DV.op_addD (DV.rd (DV.q_var (L2.pv 2))) (DV.rd (DV.q_c L2.pe_int)))) DV.qo_none))) (L2.blkOk_by (N := N_falling_pairs) (own := [("other", 4)]) (by kernel_rfl)) (fun _ _ _ _ _ => (DV.g_name (i := 4) sc_falling_pairs.nd rfl (by first | exact Or.inl rfl | exact Or.inr rfl))) (fun _ _ _ _ _ => (DV.qts_one (DV.qt_cmp (DV.op_ltD (DV.hu0 hr)) (DV.rd (DV.q_var (L2.pv 4))) (DV.rd (DV.q_var (L2.pv 3)))))) (fun _ _ _ _ _ => (DV.q_var (L2.pv 4))))) DV.ra_nil))) L2.ip_add DV.mAddI_inv)))
    (DV.ss_one (DV.s_ret (DV.q_var (L2.pv 1)))))))

abbrev N_distance : List PySem.Str := (["one", "other", "places", "value"] : List PySem.Str)
theorem sc_distance : L2.FnScope N_distance (["one", "other"] : List PySem.Str) (L2.defScope s_distance) := ⟨rfl, rfl, rfl, by decide +kernel, rfl, by decide +kernel, by decide +kernel⟩
def m_distance : DV.AE → Option DV.Fl := (DV.sSeq (DV.sExprX (DV.fX 2 G_check_two (DV.fCons (DV.fVar 0) (DV.fCons (DV.fVar 1) DV.fNil))))
  (DV.sSeq (DV.sSet 2 (DV.fCall 1 G_back_of (DV.fCons (DV.fVar 1) DV.fNil)))
  (DV.sRet (DV.fCall 1 G_falling_pairs (DV.fCons (DV.fCB DV.mTuple (DV.fCons (DV.fLC (DV.fSeq (DV.fVar 0)) ([3] : List Nat) (DV.pName 3) (fun _ => some true) (DV.fB DV.mIx (DV.fVar 2) (DV.fVar 3))) DV.fNil)) DV.fNil)))))
def G_distance : List DV.D → Option DV.Rs := DV.runP N_distance.length (m_distance)
theorem ok_distance (X : Fx K mg cl a) : L2.FnOk P w K mg base (L2.CX P w) 6 a.f_distance a.d_distance (["one", "other"] : List PySem.Str) (DV.spP K cl 2 (G_distance)) :=
  DV.fn_P X.F_distance sc_distance fun A outer s H E H0 B0 M hr => by exact ((DV.ss_cons (DV.s_exprX (DV.x_call (ok_check_two X) (hr.mono (by decide)) rfl X.g_check_two X.F_check_two.kp X.b_check_two (L2.passes_call (L2.takes_of rfl rfl rfl rfl) (fun _ _ _ _ h => h)) (DV.qa_cons (DV.q_var (L2.pv 0)) (DV.qa_cons (DV.q_var (L2.pv 1)) DV.qa_nil))))
    (DV.ss_cons (DV.s_set (i := 2) sc_distance.nd rfl (by first | exact Or.inl rfl | exact Or.inr rfl) (DV.q_call (ok_back_of X) (hr.mono (by decide)) rfl X.g_back_of X.F_back_of.kp X.b_back_of (DV.qa_cons (DV.q_var (L2.pv 1)) DV.qa_nil)))
    (DV.ss_one (DV.s_ret (DV.q_call (ok_falling_pairs X) (hr.mono (by decide)) rfl X.g_falling_pairs X.F_falling_pairs.kp X.b_falling_pairs (DV.qa_cons (DV.q_callTy DV.c_tuple rfl X.z_tuple bo_tuple (DV.ra_cons (DV.rd (DV.q_lc (own := [("value", 3)]) rfl sc_distance.nd (DV.iq (DV.i_seq (DV.q_var (L2.pv 0)))) (L2.blkOk_by (N := N_distance) (own := [("value", 3)]) (by kernel_rfl)) (fun _ _ _ _ _ => (DV.g_name (i := 3) sc_distance.nd rfl (by first | exact Or.inl rfl | exact Or.inr rfl))) (fun _ _ _ _ _ => DV.qts_nil) (fun _ _ _ _ _ => (DV.q_ix (DV.rd (DV.q_var (L2.pv 2))) (DV.rd (DV.q_var (L2.pv 3))))))) DV.ra_nil)) DV.qa_nil)))))))

abbrev N__law_hand : List PySem.Str := (["script", "cell", "cells"] : List PySem.Str)
theorem sc__law_hand : L2.FnScope N__law_hand (["script"] : List PySem.Str) (L2.defScope s__law_hand) := ⟨rfl, rfl, rfl, by decide +kernel, rfl, by decide +kernel, by decide +kernel⟩
def m__law_hand (ad : PySem.Addr) (ns : List Int) : DV.AE → Option DV.Fl := (DV.sSeq (DV.sSet 2 (DV.fLC (DV.fSeq (DV.fScr 0 ad ((ns.take 63).map L2.V.int))) ([1] : List Nat) (DV.pName 1) (fun _ => some true) (DV.fCB DV.mAbs (DV.fCons (DV.fCB DV.mInt (DV.fCons (DV.fVar 1) DV.fNil)) DV.fNil))))
  (DV.sRet (DV.fLst (DV.fCons (DV.fVar 2) (DV.fCons (DV.fC (.int 0)) (DV.fCons (DV.fC (.int 0)) (DV.fCons (DV.fB DV.mAdd (DV.fC (.int 74419)) (DV.fB DV.mMul (DV.fC (.int 62)) (DV.fCB DV.mLen (DV.fCons (DV.fVar 2) DV.fNil)))) (DV.fCons (DV.fC (.int 0)) DV.fNil))))))))
theorem ok__law_hand (X : Fx K mg cl a) : L2.FnOk P w K mg base (L2.CX P w) 1 a.f__law_hand a.d__law_hand (["script"] : List PySem.Str) (DV.spH K 74419 62) :=
  DV.fn_H (cl := cl) (m := m__law_hand) X.F__law_hand sc__law_hand (fun A outer s H E H0 B0 ad ns hr hS => by exact ((DV.ss_cons (DV.s_setLc (i := 2) (own := [("cell", 1)]) rfl sc__law_hand.nd rfl rfl (L2.sw_true rfl rfl rfl (by kernel_rfl)) (DV.iq (DV.i_seq (DV.q_scr hS (fun _ z => z) (L2.pv 0)))) (L2.blkOk_by (N := N__law_hand) (own := [("cell", 1)]) (by kernel_rfl)) (fun _ _ _ _ _ => (DV.g_name (i := 1) sc__law_hand.nd rfl (by first | exact Or.inl rfl | exact Or.inr rfl))) (fun _ _ _ _ _ => DV.qts_nil) (fun _ _ _ _ _ => (DV.q_callB DV.c_abs rfl X.z_abs bo_abs (DV.ra_cons (DV.rd (DV.q_callTy DV.c_int rfl X.z_int bo_int (DV.ra_cons (DV.rd (DV.q_var (L2.pv 1))) DV.ra_nil))) DV.ra_nil))))
    (DV.ss_one (DV.s_ret (DV.q_lst (DV.qa_cons (DV.q_var (L2.pv 2)) (DV.qa_cons (DV.q_c L2.pe_int) (DV.qa_cons (DV.q_c L2.pe_int) (DV.qa_cons (DV.q_bin DV.op_addD (DV.rd (DV.q_c L2.pe_int)) (DV.rd (DV.q_bin DV.op_mulD (DV.rd (DV.q_c L2.pe_int)) (DV.rd (DV.q_callB DV.c_len rfl X.z_len bo_len (DV.ra_cons (DV.rd (DV.q_var (L2.pv 2))) DV.ra_nil)))))) (DV.qa_cons (DV.q_c L2.pe_int) DV.qa_nil))))))))))) (fun ad ns => DH.hand_val 74419 62 (by decide) ad ns)

abbrev N__law_draw : List PySem.Str := (["hand", "many", "cell", "digit", "number"] : List PySem.Str)
theorem sc__law_draw : L2.FnScope N__law_draw (["hand", "many"] : List PySem.Str) (L2.defScope s__law_draw) := ⟨rfl, rfl, rfl, by decide +kernel, rfl, by decide +kernel, by decide +kernel⟩
def m__law_draw : DV.AE → Option DV.Fl := (DV.sSeq (DV.sIf (DV.fAnd (DV.fT (DV.fB DV.mEq (DV.fB DV.mIx (DV.fOwn 0) (DV.fC (.int 2))) (DV.fC (.int 0)))) (DV.fT (DV.fB DV.mLt (DV.fB DV.mIx (DV.fOwn 0) (DV.fC (.int 1))) (DV.fCB DV.mLen (DV.fCons (DV.fB DV.mIx (DV.fOwn 0) (DV.fC (.int 0))) DV.fNil))))) (DV.sSeq (DV.sSet 2 (DV.fB DV.mIx (DV.fB DV.mIx (DV.fOwn 0) (DV.fC (.int 0))) (DV.fB DV.mIx (DV.fOwn 0) (DV.fC (.int 1)))))
  (DV.sSeq (DV.sSetI 0 (DV.qf (DV.fB DV.mAdd (DV.fB DV.mIx (DV.fOwn 0) (DV.fC (.int 1))) (DV.fC (.int 1)))) (DV.fC (.int 1)))
  (DV.sSeq (DV.sSetI 0 (DV.qf (DV.fB DV.mMod (DV.fCB DV.mInt (DV.fCons (DV.fB DV.mAdd (DV.fB DV.mAdd (DV.fB DV.mMul (DV.fB DV.mIx (DV.fOwn 0) (DV.fC (.int 3))) (DV.fC (.int 69621))) (DV.fB DV.mMul (DV.fVar 2) (DV.fC (.int 40692)))) (DV.fC (.int 79))) DV.fNil)) (DV.fC (.int 2147483629)))) (DV.fC (.int 3)))
  (DV.sIf (DV.fT (DV.fB DV.mGe (DV.fVar 2) (DV.fB DV.mPow (DV.fC (.int 10)) (DV.fC (.int 18))))) (DV.sSetI 0 (DV.qf (DV.fVar 2)) (DV.fC (.int 2))) DV.sNil)))) DV.sNil)
  (DV.sSeq (DV.sIf (DV.fT (DV.fB DV.mGt (DV.fB DV.mIx (DV.fOwn 0) (DV.fC (.int 2))) (DV.fC (.int 0)))) (DV.sSeq (DV.sSet 3 (DV.fB DV.mMod (DV.fCB DV.mInt (DV.fCons (DV.fB DV.mIx (DV.fOwn 0) (DV.fC (.int 2))) DV.fNil)) (DV.fVar 1)))
  (DV.sSeq (DV.sSetI 0 (DV.qf (DV.fB DV.mDiv (DV.fB DV.mIx (DV.fOwn 0) (DV.fC (.int 2))) (DV.fVar 1))) (DV.fC (.int 2)))
  (DV.sRet (DV.fVar 3)))) DV.sNil)
  (DV.sSeq (DV.sSetI 0 (DV.qf (DV.fB DV.mAdd (DV.fB DV.mIx (DV.fOwn 0) (DV.fC (.int 4))) (DV.fC (.int 1)))) (DV.fC (.int 4)))
  (DV.sSeq (DV.sSet 4 (DV.fB DV.mMod (DV.fCB DV.mInt (DV.fCons (DV.fB DV.mMul (DV.fCB DV.mInt (DV.fCons (DV.fB DV.mAdd (DV.fB DV.mIx (DV.fOwn 0) (DV.fC (.int 3))) (DV.fB DV.mMul (DV.fC (.int 7919)) (DV.fB DV.mIx (DV.fOwn 0) (DV.fC (.int 4))))) DV.fNil)) (DV.fC (.int 48271))) DV.fNil)) (DV.fC (.int 2147483647))))
  (DV.sSeq (DV.sSet 4 (DV.fB DV.mMod (DV.fCB DV.mInt (DV.fCons (DV.fB DV.mMul (DV.fVar 4) (DV.fB DV.mAdd (DV.fB DV.mDiv (DV.fVar 4) (DV.fC (.int 1009))) (DV.fC (.int 69621)))) DV.fNil)) (DV.fC (.int 2147483647))))
  (DV.sSeq (DV.sSet 4 (DV.fB DV.mMod (DV.fCB DV.mInt (DV.fCons (DV.fB DV.mMul (DV.fVar 4) (DV.fB DV.mAdd (DV.fB DV.mDiv (DV.fVar 4) (DV.fC (.int 2003))) (DV.fC (.int 40692)))) DV.fNil)) (DV.fC (.int 2147483399))))
  (DV.sRet (DV.fB DV.mMod (DV.fCB DV.mInt (DV.fCons (DV.fB DV.mDiv (DV.fVar 4) (DV.fC (.int 16))) DV.fNil)) (DV.fVar 1)))))))))
def G__law_draw : List DV.D → List DV.D → Option (DV.D × List DV.D) := DV.runO N__law_draw.length (m__law_draw)
theorem ok__law_draw (X : Fx K mg cl a) : L2.FnOk P w K mg base (L2.CX P w) 1 a.f__law_draw a.d__law_draw (["hand", "many"] : List PySem.Str) (DV.spO K 1 (G__law_draw)) :=
  DV.fn_O (cl := cl) X.F__law_draw sc__law_draw (by decide) fun A outer s H E H0 B0 M hr => by exact ((DV.ss_cons (DV.s_if (L2.PW.pt (DV.qw_and (DV.qt_cmp (DV.op_eqDD (DV.hu64 hr)) (DV.rd (DV.q_ix (DV.r_var (L2.pv 0)) (DV.rd (DV.q_c L2.pe_int)))) (DV.rd (DV.q_c L2.pe_int))) (DV.qw_1 (DV.qt_cmp (DV.op_ltD (DV.hu0 hr)) (DV.rd (DV.q_ix (DV.r_var (L2.pv 0)) (DV.rd (DV.q_c L2.pe_int)))) (DV.rd (DV.q_callB DV.c_len rfl X.z_len bo_len (DV.ra_cons (DV.rd (DV.q_ix (DV.r_var (L2.pv 0)) (DV.rd (DV.q_c L2.pe_int)))) DV.ra_nil))))))) (DV.ss_cons (DV.s_set (i := 2) sc__law_draw.nd rfl (by first | exact Or.inl rfl | exact Or.inr rfl) (DV.q_ix (DV.rd (DV.q_ix (DV.r_var (L2.pv 0)) (DV.rd (DV.q_c L2.pe_int)))) (DV.rd (DV.q_ix (DV.r_var (L2.pv 0)) (DV.rd (DV.q_c L2.pe_int))))))
    (DV.ss_cons (DV.s_setItem (i := 0) (L2.ps_asg (DV.ef (DV.q_bin DV.op_addD (DV.rd (DV.q_ix (DV.r_var (L2.pv 0)) (DV.rd (DV.q_c L2.pe_int)))) (DV.rd (DV.q_c L2.pe_int)))) (L2.pg_sub (L2.pv 0) (DV.q_c L2.pe_int) L2.set_list)))
    (DV.ss_cons (DV.s_setItem (i := 0) (L2.ps_asg (DV.ef (DV.q_bin DV.op_modD (DV.rd (DV.q_callTy DV.c_int rfl X.z_int bo_int (DV.ra_cons (DV.rd (DV.q_bin DV.op_addD (DV.rd (DV.q_bin DV.op_addD (DV.rd (DV.q_bin DV.op_mulD (DV.rd (DV.q_ix (DV.r_var (L2.pv 0)) (DV.rd (DV.q_c L2.pe_int)))) (DV.rd (DV.q_c L2.pe_int)))) (DV.rd (DV.q_bin DV.op_mulD (DV.rd (DV.q_var (L2.pv 2))) (DV.rd (DV.q_c L2.pe_int)))))) (DV.rd (DV.q_c L2.pe_int)))) DV.ra_nil))) (DV.rd (DV.q_c L2.pe_int)))) (L2.pg_sub (L2.pv 0) (DV.q_c L2.pe_int) L2.set_list)))
    (DV.ss_one (DV.s_if (DV.qt_cmp DV.op_geD (DV.rd (DV.q_var (L2.pv 2))) (DV.rd (DV.q_bin DV.op_powD (DV.rd (DV.q_c L2.pe_int)) (DV.rd (DV.q_c L2.pe_int))))) (DV.ss_one (DV.s_setItem (i := 0) (L2.ps_asg (DV.ef (DV.q_var (L2.pv 2))) (L2.pg_sub (L2.pv 0) (DV.q_c L2.pe_int) L2.set_list)))) DV.ss_nil))))) DV.ss_nil)
    (DV.ss_cons (DV.s_if (DV.qt_cmp DV.op_gtD (DV.rd (DV.q_ix (DV.r_var (L2.pv 0)) (DV.rd (DV.q_c L2.pe_int)))) (DV.rd (DV.q_c L2.pe_int))) (DV.ss_cons (DV.s_set (i := 3) sc__law_draw.nd rfl (by first | exact Or.inl rfl | exact Or.inr rfl) (DV.q_bin DV.op_modD (DV.rd (DV.q_callTy DV.c_int rfl X.z_int bo_int (DV.ra_cons (DV.rd (DV.q_ix (DV.r_var (L2.pv 0)) (DV.rd (DV.q_c L2.pe_int)))) DV.ra_nil))) (DV.rd (DV.q_var (L2.pv 1)))))
    (DV.ss_cons (DV.s_setItem (i := 0) (L2.ps_asg (DV.ef (DV.q_bin DV.op_divD (DV.rd (DV.q_ix (DV.r_var (L2.pv 0)) (DV.rd (DV.q_c L2.pe_int)))) (DV.rd (DV.q_var (L2.pv 1))))) (L2.pg_sub (L2.pv 0) (DV.q_c L2.pe_int) L2.set_list)))
    (DV.ss_one (DV.s_ret (DV.q_var (L2.pv 3)))))) DV.ss_nil)
    (DV.ss_cons (DV.s_setItem (i := 0) (L2.ps_asg (DV.ef (DV.q_bin DV.op_addD (DV.rd (DV.q_ix (DV.r_var (L2.pv 0)) (DV.rd (DV.q_c L2.pe_int)))) (DV.rd (DV.q_c L2.pe_int)))) (L2.pg_sub (L2.pv 0) (DV.q_c L2.pe_int) L2.set_list)))
    (DV.ss_cons (DV.s_set (i := 4) sc__law_draw.nd rfl (by first | exact Or.inl rfl | exact Or.inr rfl) (DV.q_bin DV.op_modD (DV.rd (DV.q_callTy DV.c_int rfl X.z_int bo_int (DV.ra_cons (DV.rd (DV.q_bin DV.op_mulD (DV.rd (DV.q_callTy DV.c_int rfl X.z_int bo_int (DV.ra_cons (DV.rd (DV.q_bin DV.op_addD (DV.rd (DV.q_ix (DV.r_var (L2.pv 0)) (DV.rd (DV.q_c L2.pe_int)))) (DV.rd (DV.q_bin DV.op_mulD (DV.rd (DV.q_c L2.pe_int)) (DV.rd (DV.q_ix (DV.r_var (L2.pv 0)) (DV.rd (DV.q_c L2.pe_int)))))))) DV.ra_nil))) (DV.rd (DV.q_c L2.pe_int)))) DV.ra_nil))) (DV.rd (DV.q_c L2.pe_int))))
    (DV.ss_cons (DV.s_set (i := 4) sc__law_draw.nd rfl (by first | exact Or.inl rfl | exact Or.inr rfl) (DV.q_bin DV.op_modD (DV.rd (DV.q_callTy DV.c_int rfl X.z_int bo_int (DV.ra_cons (DV.rd (DV.q_bin DV.op_mulD (DV.rd (DV.q_var (L2.pv 4))) (DV.rd (DV.q_bin DV.op_addD (DV.rd (DV.q_bin DV.op_divD (DV.rd (DV.q_var (L2.pv 4))) (DV.rd (DV.q_c L2.pe_int)))) (DV.rd (DV.q_c L2.pe_int)))))) DV.ra_nil))) (DV.rd (DV.q_c L2.pe_int))))
    (DV.ss_cons (DV.s_set (i := 4) sc__law_draw.nd rfl (by first | exact Or.inl rfl | exact Or.inr rfl) (DV.q_bin DV.op_modD (DV.rd (DV.q_callTy DV.c_int rfl X.z_int bo_int (DV.ra_cons (DV.rd (DV.q_bin DV.op_mulD (DV.rd (DV.q_var (L2.pv 4))) (DV.rd (DV.q_bin DV.op_addD (DV.rd (DV.q_bin DV.op_divD (DV.rd (DV.q_var (L2.pv 4))) (DV.rd (DV.q_c L2.pe_int)))) (DV.rd (DV.q_c L2.pe_int)))))) DV.ra_nil))) (DV.rd (DV.q_c L2.pe_int))))
    (DV.ss_one (DV.s_ret (DV.q_bin DV.op_modD (DV.rd (DV.q_callTy DV.c_int rfl X.z_int bo_int (DV.ra_cons (DV.rd (DV.q_bin DV.op_divD (DV.rd (DV.q_var (L2.pv 4))) (DV.rd (DV.q_c L2.pe_int)))) DV.ra_nil))) (DV.rd (DV.q_var (L2.pv 1)))))))))))))

abbrev N__law_some : List PySem.Str := (["hand", "items"] : List PySem.Str)
theorem sc__law_some : L2.FnScope N__law_some (["hand", "items"] : List PySem.Str) (L2.defScope s__law_some) := ⟨rfl, rfl, rfl, by decide +kernel, rfl, by decide +kernel, by decide +kernel⟩
def m__law_some : DV.AE → Option DV.Fl := (DV.sRetF (DV.gB DV.mIx (DV.qf (DV.fVar 1)) (DV.gCallO 0 1 G__law_draw (DV.qa (DV.fCons (DV.fCB DV.mLen (DV.fCons (DV.fVar 1) DV.fNil)) DV.fNil)))))
def G__law_some : List DV.D → List DV.D → Option (DV.D × List DV.D) := DV.runO N__law_some.length (m__law_some)
theorem ok__law_some (X : Fx K mg cl a) : L2.FnOk P w K mg base (L2.CX P w) 2 a.f__law_some a.d__law_some (["hand", "items"] : List PySem.Str) (DV.spO K 1 (G__law_some)) :=
  DV.fn_O (cl := cl) X.F__law_some sc__law_some (by decide) fun A outer s H E H0 B0 M hr => by exact ((DV.ss_one (DV.s_retF (DV.f_ix (DV.ef (DV.q_var (L2.pv 1))) (DV.f_callO (i := 0) (ok__law_draw X) (hr.mono (by decide)) rfl X.g__law_draw X.F__law_draw.kp X.b__law_draw (L2.pv 0) (DV.efa (DV.qa_cons (DV.q_callB DV.c_len rfl X.z_len bo_len (DV.ra_cons (DV.rd (DV.q_var (L2.pv 1))) DV.ra_nil)) DV.qa_nil)))))))

abbrev N__law_mixed : List PySem.Str := (["hand", "many", "left", "found"] : List PySem.Str)
theorem sc__law_mixed : L2.FnScope N__law_mixed (["hand", "many"] : List PySem.Str) (L2.defScope s__law_mixed) := ⟨rfl, rfl, rfl, by decide +kernel, rfl, by decide +kernel, by decide +kernel⟩
def m__law_mixed : DV.AE → Option DV.Fl := (DV.sSeq (DV.sParOO 2 3 (DV.nLR (DV.fG1 (DV.fVar 1))) (DV.nLst (DV.qa DV.fNil)))
  (DV.sSeq (DV.whGo (DV.qtf (DV.fT (DV.fB DV.mNe (DV.fOwn 2) (DV.fLst DV.fNil)))) (DV.sApp 3 (DV.gPopAt 2 (DV.gCallO 0 1 G__law_draw (DV.qa (DV.fCons (DV.fCB DV.mLen (DV.fCons (DV.fOwn 2) DV.fNil)) DV.fNil))))) 200)
  (DV.sRet (DV.fCB DV.mTuple (DV.fCons (DV.fOwn 3) DV.fNil)))))
def G__law_mixed : List DV.D → List DV.D → Option (DV.D × List DV.D) := DV.runO N__law_mixed.length (m__law_mixed)
theorem ok__law_mixed (X : Fx K mg cl a) : L2.FnOk P w K mg base (L2.CX P w) 2 a.f__law_mixed a.d__law_mixed (["hand", "many"] : List PySem.Str) (DV.spO K 1 (G__law_mixed)) :=
  DV.fn_O (cl := cl) X.F__law_mixed sc__law_mixed (by decide) fun A outer s H E H0 B0 M hr => by exact ((DV.ss_cons (DV.s_parOO (i := 2) (j := 3) rfl sc__law_mixed.nd rfl rfl (by decide) rfl rfl (DV.n_listR rfl rfl X.z_list (DV.qg_1 rfl X.z_range (DV.q_var (L2.pv 1)))) (DV.n_lst (DV.efa DV.qa_nil)) rfl)
    (DV.ss_cons (DV.s_while 200 (L2.passes_of rfl) (DV.eft (DV.qt_cmp (DV.op_neDD (DV.hu64 hr)) (DV.r_var (L2.pv 2)) (DV.rd (DV.q_lst DV.qa_nil)))) (DV.ss_one (DV.s_append (i := 3) (L2.pe_bm PySem.F.plainAttrs_list PySem.F.slot_list_append PySem.F.type_list_append L2.mt_append (L2.pv 3) (L2.pa_cons (DV.f_popAt (i := 2) (L2.pe_bm PySem.F.plainAttrs_list PySem.F.slot_list_pop PySem.F.type_list_pop L2.mt_popAt (L2.pv 2) (L2.pa_cons (DV.f_callO (i := 0) (ok__law_draw X) (hr.mono (by decide)) rfl X.g__law_draw X.F__law_draw.kp X.b__law_draw (L2.pv 0) (DV.efa (DV.qa_cons (DV.q_callB DV.c_len rfl X.z_len bo_len (DV.ra_cons (DV.r_var (L2.pv 2)) DV.ra_nil)) DV.qa_nil))) L2.pa_nil))) L2.pa_nil)))))
    (DV.ss_one (DV.s_ret (DV.q_callTy DV.c_tuple rfl X.z_tuple bo_tuple (DV.ra_cons (DV.r_var (L2.pv 3)) DV.ra_nil)))))))

abbrev N__law_laid : List PySem.Str := (["hand", "many", "number", "blocks", "at", "one", "first", "other", "last", "x", "made"] : List PySem.Str)
theorem sc__law_laid : L2.FnScope N__law_laid (["hand", "many"] : List PySem.Str) (L2.defScope s__law_laid) := ⟨rfl, rfl, rfl, by decide +kernel, rfl, by decide +kernel, by decide +kernel⟩
def m__law_laid : DV.AE → Option DV.Fl := (DV.sSeq (DV.sSet 3 (DV.fLC (DV.fR1 (DV.fCons (DV.fVar 1) DV.fNil)) ([2] : List Nat) (DV.pName 2) (fun _ => some true) (DV.fTup (DV.fCons (DV.fTup (DV.fCons (DV.fC (.int 0)) DV.fNil)) (DV.fCons (DV.fTup (DV.fCons (DV.fC (.str "one")) DV.fNil)) DV.fNil)))))
  (DV.sSeq (DV.whGo (DV.qtf (DV.fT (DV.fB DV.mGt (DV.fCB DV.mLen (DV.fCons (DV.fVar 3) DV.fNil)) (DV.fC (.int 1))))) (DV.sSeq (DV.sSetF 4 (DV.gCallO 0 1 G__law_draw (DV.qa (DV.fCons (DV.fB DV.mSub (DV.fCB DV.mLen (DV.fCons (DV.fVar 3) DV.fNil)) (DV.fC (.int 1))) DV.fNil))))
  (DV.sSeq (DV.sAsg (DV.pTup 2 (DV.pCons (DV.pTup 2 (DV.pCons (DV.pName 5) (DV.pCons (DV.pName 6) DV.pNil))) (DV.pCons (DV.pTup 2 (DV.pCons (DV.pName 7) (DV.pCons (DV.pName 8) DV.pNil))) DV.pNil))) (DV.fTup (DV.fCons (DV.fB DV.mIx (DV.fVar 3) (DV.fVar 4)) (DV.fCons (DV.fB DV.mIx (DV.fVar 3) (DV.fB DV.mAdd (DV.fVar 4) (DV.fC (.int 1)))) DV.fNil))))
  (DV.sSeq (DV.sIfF (DV.gT (DV.gB DV.mEq (DV.gCallO 0 1 G__law_draw (DV.qa (DV.fCons (DV.fC (.int 2)) DV.fNil))) (DV.qf (DV.fC (.int 0))))) (DV.sSet 10 (DV.fTup (DV.fCons (DV.fB DV.mAdd (DV.fVar 5) (DV.fCB DV.mTuple (DV.fCons (DV.fLC (DV.fSeq (DV.fVar 7)) ([9] : List Nat) (DV.pName 9) (fun _ => some true) (DV.fB DV.mAdd (DV.fVar 9) (DV.fCB DV.mLen (DV.fCons (DV.fVar 5) DV.fNil)))) DV.fNil))) (DV.fCons (DV.fTup (DV.fCons (DV.fC (.str "up")) (DV.fCons (DV.fTup (DV.fCons (DV.fVar 6) (DV.fCons (DV.fVar 8) DV.fNil))) DV.fNil))) DV.fNil)))) (DV.sSet 10 (DV.fTup (DV.fCons (DV.fB DV.mAdd (DV.fCB DV.mTuple (DV.fCons (DV.fLC (DV.fSeq (DV.fVar 5)) ([9] : List Nat) (DV.pName 9) (fun _ => some true) (DV.fB DV.mAdd (DV.fVar 9) (DV.fCB DV.mLen (DV.fCons (DV.fVar 7) DV.fNil)))) DV.fNil)) (DV.fVar 7)) (DV.fCons (DV.fTup (DV.fCons (DV.fC (.str "down")) (DV.fCons (DV.fTup (DV.fCons (DV.fVar 6) (DV.fCons (DV.fVar 8) DV.fNil))) DV.fNil))) DV.fNil)))))
  (DV.sSet 3 (DV.fB DV.mAdd (DV.fB DV.mAdd (DV.fSl (DV.fVar 3) DV.fONone (DV.fO (DV.fVar 4))) (DV.fLst (DV.fCons (DV.fVar 10) DV.fNil))) (DV.fSl (DV.fVar 3) (DV.fO (DV.fB DV.mAdd (DV.fVar 4) (DV.fC (.int 2)))) DV.fONone)))))) 200)
  (DV.sRet (DV.fB DV.mIx (DV.fVar 3) (DV.fC (.int 0))))))
def G__law_laid : List DV.D → List DV.D → Option (DV.D × List DV.D) := DV.runO N__law_laid.length (m__law_laid)
theorem ok__law_laid (X : Fx K mg cl a) : L2.FnOk P w K mg base (L2.CX P w) 2 a.f__law_laid a.d__law_laid (["hand", "many"] : List PySem.Str) (DV.spO K 1 (G__law_laid)) :=
  DV.fn_O (cl := cl) X.F__law_laid sc__law_laid (by decide) fun A outer s H E H0 B0 M hr => by exact ((DV.ss_cons (DV.s_setLc (i := 3) (own := [("number", 2)]) rfl sc__law_laid.nd rfl rfl (L2.sw_true rfl rfl rfl (by kernel_rfl)) (DV.iq (DV.i_rng1 rfl X.z_range (DV.qa_cons (DV.q_var (L2.pv 1)) DV.qa_nil))) (L2.blkOk_by (N := N__law_laid) (own := [("number", 2)]) (by kernel_rfl)) (fun _ _ _ _ _ => (DV.g_name (i := 2) sc__law_laid.nd rfl (by first | exact Or.inl rfl | exact Or.inr rfl))) (fun _ _ _ _ _ => DV.qts_nil) (fun _ _ _ _ _ => (DV.q_tup (DV.qa_cons (DV.q_tup (DV.qa_cons (DV.q_c L2.pe_int) DV.qa_nil)) (DV.qa_cons (DV.q_tup (DV.qa_cons (DV.q_c L2.pe_str) DV.qa_nil)) DV.qa_nil)))))
    (DV.ss_cons (DV.s_while 200 (L2.passes_of rfl) (DV.eft (DV.qt_cmp DV.op_gtD (DV.rd (DV.q_callB DV.c_len rfl X.z_len bo_len (DV.ra_cons (DV.rd (DV.q_var (L2.pv 3))) DV.ra_nil))) (DV.rd (DV.q_c L2.pe_int)))) (DV.ss_cons (DV.s_setF (i := 4) sc__law_laid.nd rfl (by first | exact Or.inl rfl | exact Or.inr rfl) (DV.f_callO (i := 0) (ok__law_draw X) (hr.mono (by decide)) rfl X.g__law_draw X.F__law_draw.kp X.b__law_draw (L2.pv 0) (DV.efa (DV.qa_cons (DV.q_bin DV.op_subD (DV.rd (DV.q_callB DV.c_len rfl X.z_len bo_len (DV.ra_cons (DV.rd (DV.q_var (L2.pv 3))) DV.ra_nil))) (DV.rd (DV.q_c L2.pe_int))) DV.qa_nil))))
    (DV.ss_cons (DV.s_asg (DV.q_tup (DV.qa_cons (DV.q_ix (DV.rd (DV.q_var (L2.pv 3))) (DV.rd (DV.q_var (L2.pv 4)))) (DV.qa_cons (DV.q_ix (DV.rd (DV.q_var (L2.pv 3))) (DV.rd (DV.q_bin DV.op_addD (DV.rd (DV.q_var (L2.pv 4))) (DV.rd (DV.q_c L2.pe_int))))) DV.qa_nil))) (DV.g_tup rfl (DV.gs_cons (DV.g_tup rfl (DV.gs_cons (DV.g_name (i := 5) sc__law_laid.nd rfl (by first | exact Or.inl rfl | exact Or.inr rfl)) (DV.gs_cons (DV.g_name (i := 6) sc__law_laid.nd rfl (by first | exact Or.inl rfl | exact Or.inr rfl)) DV.gs_nil))) (DV.gs_cons (DV.g_tup rfl (DV.gs_cons (DV.g_name (i := 7) sc__law_laid.nd rfl (by first | exact Or.inl rfl | exact Or.inr rfl)) (DV.gs_cons (DV.g_name (i := 8) sc__law_laid.nd rfl (by first | exact Or.inl rfl | exact Or.inr rfl)) DV.gs_nil))) DV.gs_nil))))
    (DV.ss_cons (DV.s_ifF (DV.ft_cmp (DV.op_eqDD (DV.hu64 hr)) (DV.f_callO (i := 0) (ok__law_draw X) (hr.mono (by decide)) rfl X.g__law_draw X.F__law_draw.kp X.b__law_draw (L2.pv 0) (DV.efa (DV.qa_cons (DV.q_c L2.pe_int) DV.qa_nil))) (DV.ef (DV.q_c L2.pe_int))) (DV.ss_one (DV.s_set (i := 10) sc__law_laid.nd rfl (by first | exact Or.inl rfl | exact Or.inr rfl) (DV.q_tup (DV.qa_cons (DV.q_bin DV.op_addD (DV.rd (DV.q_var (L2.pv 5))) (DV.rd (DV.q_callTy DV.c_tuple rfl X.z_tuple bo_tuple (DV.ra_cons (DV.rd (DV.q_lc (own := [("x", 9)]) rfl sc__law_laid.nd (DV.iq (DV.i_seq (DV.q_var (L2.pv 7)))) (L2.blkOk_by (N := N__law_laid) (own := [("x", 9)]) (by kernel_rfl)) (fun _ _ _ _ _ => (DV.g_name (i := 9) sc__law_laid.nd rfl (by first | exact Or.inl rfl | exact Or.inr rfl))) (fun _ _ _ _ _ => DV.qts_nil) (fun _ _ _ _ _ => (DV.q_bin DV.op_addD (DV.rd (DV.q_var (L2.pv 9))) (DV.rd (DV.q_callB DV.c_len rfl X.z_len bo_len (DV.ra_cons (DV.rd (DV.q_var (L2.pv 5))) DV.ra_nil))))))) DV.ra_nil)))) (DV.qa_cons (DV.q_tup (DV.qa_cons (DV.q_c L2.pe_str) (DV.qa_cons (DV.q_tup (DV.qa_cons (DV.q_var (L2.pv 6)) (DV.qa_cons (DV.q_var (L2.pv 8)) DV.qa_nil))) DV.qa_nil))) DV.qa_nil))))) (DV.ss_one (DV.s_set (i := 10) sc__law_laid.nd rfl (by first | exact Or.inl rfl | exact Or.inr rfl) (DV.q_tup (DV.qa_cons (DV.q_bin DV.op_addD (DV.rd (DV.q_callTy DV.c_tuple rfl X.z_tuple bo_tuple (DV.ra_cons (DV.rd (DV.q_lc (own := [("x", 9)]) rfl sc__law_laid.nd (DV.iq (DV.i_seq (DV.q_var (L2.pv 5)))) (L2.blkOk_by (N := N__law_laid) (own := [("x", 9)]) (by kernel_rfl)) (fun _ _ _ _ _ => (DV.g_name (i := 9) sc__law_laid.nd rfl (by first | exact Or.inl rfl | exact Or.inr rfl))) (fun _ _ _ _ _ => DV.qts_nil) (fun _ _ _ _ _ => (DV.q_bin DV.op_addD (DV.rd (DV.q_var (L2.pv 9))) (DV.rd (DV.q_callB DV.c_len rfl X.z_len bo_len (DV.ra_cons (DV.rd (DV.q_var (L2.pv 7))) DV.ra_nil))))))) DV.ra_nil))) (DV.rd (DV.q_var (L2.pv 7)))) (DV.qa_cons (DV.q_tup (DV.qa_cons (DV.q_c L2.pe_str) (DV.qa_cons (DV.q_tup (DV.qa_cons (DV.q_var (L2.pv 6)) (DV.qa_cons (DV.q_var (L2.pv 8)) DV.qa_nil))) DV.qa_nil))) DV.qa_nil))))))
    (DV.ss_one (DV.s_set (i := 3) sc__law_laid.nd rfl (by first | exact Or.inl rfl | exact Or.inr rfl) (DV.q_bin DV.op_addD (DV.rd (DV.q_bin DV.op_addD (DV.rd (DV.q_sl (DV.rd (DV.q_var (L2.pv 3))) DV.qo_none (DV.qo_some (DV.q_var (L2.pv 4))))) (DV.rd (DV.q_lst (DV.qa_cons (DV.q_var (L2.pv 10)) DV.qa_nil))))) (DV.rd (DV.q_sl (DV.rd (DV.q_var (L2.pv 3))) (DV.qo_some (DV.q_bin DV.op_addD (DV.rd (DV.q_var (L2.pv 4))) (DV.rd (DV.q_c L2.pe_int)))) DV.qo_none)))))))))
    (DV.ss_one (DV.s_ret (DV.q_ix (DV.rd (DV.q_var (L2.pv 3))) (DV.rd (DV.q_c L2.pe_int))))))))

abbrev N__law_code : List PySem.Str := (["order", "place", "value", "x"] : List PySem.Str)
theorem sc__law_code : L2.FnScope N__law_code (["order"] : List PySem.Str) (L2.defScope s__law_code) := ⟨rfl, rfl, rfl, by decide +kernel, rfl, by decide +kernel, by decide +kernel⟩
def m__law_code : DV.AE → Option DV.Fl := (DV.sRet (DV.fCB DV.mTuple (DV.fCons (DV.fLC (DV.fEnum (DV.fCons (DV.fVar 0) DV.fNil)) ([1, 2] : List Nat) (DV.pTup 2 (DV.pCons (DV.pName 1) (DV.pCons (DV.pName 2) DV.pNil))) (fun _ => some true) (DV.fCB DV.mLen (DV.fCons (DV.fLC (DV.fSeq (DV.fSl (DV.fVar 0) (DV.fO (DV.fVar 1)) DV.fONone)) ([3] : List Nat) (DV.pName 3) (DV.fT (DV.fB DV.mLt (DV.fVar 3) (DV.fVar 2))) (DV.fVar 3)) DV.fNil))) DV.fNil)))
def G__law_code : List DV.D → Option DV.Rs := DV.runP N__law_code.length (m__law_code)
theorem ok__law_code (X : Fx K mg cl a) : L2.FnOk P w K mg base (L2.CX P w) 1 a.f__law_code a.d__law_code (["order"] : List PySem.Str) (DV.spP K cl 1 (G__law_code)) :=
  DV.fn_P X.F__law_code sc__law_code fun A outer s H E H0 B0 M hr => by exact ((DV.ss_one (DV.s_ret (DV.q_callTy DV.c_tuple rfl X.z_tuple bo_tuple (DV.ra_cons (DV.rd (DV.q_lc (own := [("place", 1), ("value", 2)]) rfl sc__law_code.nd (DV.iq (DV.i_enum rfl X.z_enumerate (DV.qa_cons (DV.q_var (L2.pv 0)) DV.qa_nil))) (L2.blkOk_by (N := N__law_code) (own := [("place", 1), ("value", 2)]) (by kernel_rfl)) (fun _ _ _ _ _ => (DV.g_tup rfl (DV.gs_cons (DV.g_name (i := 1) sc__law_code.nd rfl (by first | exact Or.inl rfl | exact Or.inr rfl)) (DV.gs_cons (DV.g_name (i := 2) sc__law_code.nd rfl (by first | exact Or.inl rfl | exact Or.inr rfl)) DV.gs_nil)))) (fun _ _ _ _ _ => DV.qts_nil) (fun _ _ _ _ _ => (DV.q_callB DV.c_len rfl X.z_len bo_len (DV.ra_cons (DV.rd (DV.q_lc (own := [("x", 3)]) rfl sc__law_code.nd (DV.iq (DV.i_seq (DV.q_sl (DV.rd (DV.q_var (L2.pv 0))) (DV.qo_some (DV.q_var (L2.pv 1))) DV.qo_none))) (L2.blkOk_by (N := N__law_code) (own := [("x", 3)]) (by kernel_rfl)) (fun _ _ _ _ _ => (DV.g_name (i := 3) sc__law_code.nd rfl (by first | exact Or.inl rfl | exact Or.inr rfl))) (fun _ _ _ _ _ => (DV.qts_one (DV.qt_cmp (DV.op_ltD (DV.hu0 hr)) (DV.rd (DV.q_var (L2.pv 3))) (DV.rd (DV.q_var (L2.pv 2)))))) (fun _ _ _ _ _ => (DV.q_var (L2.pv 3))))) DV.ra_nil))))) DV.ra_nil)))))

abbrev N__law_from_code : List PySem.Str := (["steps", "left", "found", "step"] : List PySem.Str)
theorem sc__law_from_code : L2.FnScope N__law_from_code (["steps"] : List PySem.Str) (L2.defScope s__law_from_code) := ⟨rfl, rfl, rfl, by decide +kernel, rfl, by decide +kernel, by decide +kernel⟩
def m__law_from_code : DV.AE → Option DV.Fl := (DV.sSeq (DV.sParOO 1 2 (DV.nLR (DV.fG1 (DV.fCB DV.mLen (DV.fCons (DV.fVar 0) DV.fNil)))) (DV.nLst (DV.qa DV.fNil)))
  (DV.sSeq (DV.sFor (DV.qi (DV.fSeq (DV.fVar 0))) (DV.pName 3) (DV.sApp 2 (DV.gPopAt 1 (DV.qf (DV.fVar 3)))))
  (DV.sRet (DV.fCB DV.mTuple (DV.fCons (DV.fOwn 2) DV.fNil)))))
def G__law_from_code : List DV.D → Option DV.Rs := DV.runP N__law_from_code.length (m__law_from_code)
theorem ok__law_from_code (X : Fx K mg cl a) : L2.FnOk P w K mg base (L2.CX P w) 1 a.f__law_from_code a.d__law_from_code (["steps"] : List PySem.Str) (DV.spP K cl 1 (G__law_from_code)) :=
  DV.fn_P X.F__law_from_code sc__law_from_code fun A outer s H E H0 B0 M hr => by exact ((DV.ss_cons (DV.s_parOO (i := 1) (j := 2) rfl sc__law_from_code.nd rfl rfl (by decide) rfl rfl (DV.n_listR rfl rfl X.z_list (DV.qg_1 rfl X.z_range (DV.q_callB DV.c_len rfl X.z_len bo_len (DV.ra_cons (DV.rd (DV.q_var (L2.pv 0))) DV.ra_nil)))) (DV.n_lst (DV.efa DV.qa_nil)) rfl)
    (DV.ss_cons (DV.s_for (L2.passes_of rfl) rfl (DV.ei (DV.i_seq (DV.q_var (L2.pv 0)))) (DV.g_name (i := 3) sc__law_from_code.nd rfl (by first | exact Or.inl rfl | exact Or.inr rfl)) (DV.ss_one (DV.s_append (i := 2) (L2.pe_bm PySem.F.plainAttrs_list PySem.F.slot_list_append PySem.F.type_list_append L2.mt_append (L2.pv 2) (L2.pa_cons (DV.f_popAt (i := 1) (L2.pe_bm PySem.F.plainAttrs_list PySem.F.slot_list_pop PySem.F.type_list_pop L2.mt_popAt (L2.pv 1) (L2.pa_cons (DV.ef (DV.q_var (L2.pv 3))) L2.pa_nil))) L2.pa_nil)))))
    (DV.ss_one (DV.s_ret (DV.q_callTy DV.c_tuple rfl X.z_tuple bo_tuple (DV.ra_cons (DV.r_var (L2.pv 2)) DV.ra_nil)))))))

abbrev N__law_factorial : List PySem.Str := (["n", "found", "k"] : List PySem.Str)
theorem sc__law_factorial : L2.FnScope N__law_factorial (["n"] : List PySem.Str) (L2.defScope s__law_factorial) := ⟨rfl, rfl, rfl, by decide +kernel, rfl, by decide +kernel, by decide +kernel⟩
def m__law_factorial : DV.AE → Option DV.Fl := (DV.sSeq (DV.sSet 1 (DV.fC (.int 1)))
  (DV.sSeq (DV.sFor (DV.qi (DV.fR2 (DV.fCons (DV.fC (.int 2)) (DV.fCons (DV.fB DV.mAdd (DV.fVar 0) (DV.fC (.int 1))) DV.fNil)))) (DV.pName 2) (DV.sSet 1 (DV.fB DV.mMul (DV.fVar 1) (DV.fVar 2))))
  (DV.sRet (DV.fVar 1))))
def G__law_factorial : List DV.D → Option DV.Rs := DV.runP N__law_factorial.length (m__law_factorial)
theorem ok__law_factorial (X : Fx K mg cl a) : L2.FnOk P w K mg base (L2.CX P w) 1 a.f__law_factorial a.d__law_factorial (["n"] : List PySem.Str) (DV.spP K cl 1 (G__law_factorial)) :=
  DV.fn_P X.F__law_factorial sc__law_factorial fun A outer s H E H0 B0 M hr => by exact ((DV.ss_cons (DV.s_set (i := 1) sc__law_factorial.nd rfl (by first | exact Or.inl rfl | exact Or.inr rfl) (DV.q_c L2.pe_int))
    (DV.ss_cons (DV.s_for (L2.passes_of rfl) rfl (DV.ei (DV.i_rng2 rfl X.z_range (DV.qa_cons (DV.q_c L2.pe_int) (DV.qa_cons (DV.q_bin DV.op_addD (DV.rd (DV.q_var (L2.pv 0))) (DV.rd (DV.q_c L2.pe_int))) DV.qa_nil)))) (DV.g_name (i := 2) sc__law_factorial.nd rfl (by first | exact Or.inl rfl | exact Or.inr rfl)) (DV.ss_one (DV.s_set (i := 1) sc__law_factorial.nd rfl (by first | exact Or.inl rfl | exact Or.inr rfl) (DV.q_bin DV.op_mulD (DV.rd (DV.q_var (L2.pv 1))) (DV.rd (DV.q_var (L2.pv 2)))))))
    (DV.ss_one (DV.s_ret (DV.q_var (L2.pv 1)))))))

abbrev N__law_number : List PySem.Str := (["order", "place", "step"] : List PySem.Str)
theorem sc__law_number : L2.FnScope N__law_number (["order"] : List PySem.Str) (L2.defScope s__law_number) := ⟨rfl, rfl, rfl, by decide +kernel, rfl, by decide +kernel, by decide +kernel⟩
def m__law_number : DV.AE → Option DV.Fl := (DV.sRet (DV.fCB DV.mSumA (DV.fCons (DV.fLC (DV.fEnum (DV.fCons (DV.fCall 1 G__law_code (DV.fCons (DV.fVar 0) DV.fNil)) DV.fNil)) ([1, 2] : List Nat) (DV.pTup 2 (DV.pCons (DV.pName 1) (DV.pCons (DV.pName 2) DV.pNil))) (fun _ => some true) (DV.fB DV.mMul (DV.fVar 2) (DV.fCall 1 G__law_factorial (DV.fCons (DV.fB DV.mSub (DV.fB DV.mSub (DV.fCB DV.mLen (DV.fCons (DV.fVar 0) DV.fNil)) (DV.fC (.int 1))) (DV.fVar 1)) DV.fNil)))) DV.fNil)))
def G__law_number : List DV.D → Option DV.Rs := DV.runP N__law_number.length (m__law_number)
theorem ok__law_number (X : Fx K mg cl a) : L2.FnOk P w K mg base (L2.CX P w) 2 a.f__law_number a.d__law_number (["order"] : List PySem.Str) (DV.spP K cl 1 (G__law_number)) :=
  DV.fn_P X.F__law_number sc__law_number fun A outer s H E H0 B0 M hr => by exact ((DV.ss_one (DV.s_ret (DV.q_callB (DV.c_sumA rfl) rfl X.z_sum bo_sum (DV.ra_cons (DV.rd (DV.q_lc (own := [("place", 1), ("step", 2)]) rfl sc__law_number.nd (DV.iq (DV.i_enum rfl X.z_enumerate (DV.qa_cons (DV.q_call (ok__law_code X) (hr.mono (by decide)) rfl X.g__law_code X.F__law_code.kp X.b__law_code (DV.qa_cons (DV.q_var (L2.pv 0)) DV.qa_nil)) DV.qa_nil))) (L2.blkOk_by (N := N__law_number) (own := [("place", 1), ("step", 2)]) (by kernel_rfl)) (fun _ _ _ _ _ => (DV.g_tup rfl (DV.gs_cons (DV.g_name (i := 1) sc__law_number.nd rfl (by first | exact Or.inl rfl | exact Or.inr rfl)) (DV.gs_cons (DV.g_name (i := 2) sc__law_number.nd rfl (by first | exact Or.inl rfl | exact Or.inr rfl)) DV.gs_nil)))) (fun _ _ _ _ _ => DV.qts_nil) (fun _ _ _ _ _ => (DV.q_bin DV.op_mulD (DV.rd (DV.q_var (L2.pv 2))) (DV.rd (DV.q_call (ok__law_factorial X) (hr.mono (by decide)) rfl X.g__law_factorial X.F__law_factorial.kp X.b__law_factorial (DV.qa_cons (DV.q_bin DV.op_subD (DV.rd (DV.q_bin DV.op_subD (DV.rd (DV.q_callB DV.c_len rfl X.z_len bo_len (DV.ra_cons (DV.rd (DV.q_var (L2.pv 0))) DV.ra_nil))) (DV.rd (DV.q_c L2.pe_int)))) (DV.rd (DV.q_var (L2.pv 1)))) DV.qa_nil))))))) DV.ra_nil)))))

abbrev N__law_numbered : List PySem.Str := (["many", "number", "steps", "place", "size"] : List PySem.Str)
theorem sc__law_numbered : L2.FnScope N__law_numbered (["many", "number"] : List PySem.Str) (L2.defScope s__law_numbered) := ⟨rfl, rfl, rfl, by decide +kernel, rfl, by decide +kernel, by decide +kernel⟩
def m__law_numbered : DV.AE → Option DV.Fl := (DV.sSeq (DV.sOwn 2 (DV.nLst (DV.qa DV.fNil)))
  (DV.sSeq (DV.sFor (DV.qi (DV.fR1 (DV.fCons (DV.fVar 0) DV.fNil))) (DV.pName 3) (DV.sSeq (DV.sSet 4 (DV.fCall 1 G__law_factorial (DV.fCons (DV.fB DV.mSub (DV.fB DV.mSub (DV.fVar 0) (DV.fC (.int 1))) (DV.fVar 3)) DV.fNil)))
  (DV.sSeq (DV.sApp 2 (DV.qf (DV.fB DV.mDiv (DV.fVar 1) (DV.fVar 4))))
  (DV.sSet 1 (DV.fB DV.mMod (DV.fCB DV.mInt (DV.fCons (DV.fVar 1) DV.fNil)) (DV.fVar 4))))))
  (DV.sRet (DV.fCallR 1 G__law_from_code (DV.fCons (DV.fOwn 2) DV.fNil)))))
def G__law_numbered : List DV.D → Option DV.Rs := DV.runP N__law_numbered.length (m__law_numbered)
theorem ok__law_numbered (X : Fx K mg cl a) : L2.FnOk P w K mg base (L2.CX P w) 2 a.f__law_numbered a.d__law_numbered (["many", "number"] : List PySem.Str) (DV.spP K cl 2 (G__law_numbered)) :=
  DV.fn_P X.F__law_numbered sc__law_numbered fun A outer s H E H0 B0 M hr => by exact ((DV.ss_cons (DV.s_own (i := 2) sc__law_numbered.nd rfl (by first | exact Or.inl rfl | exact Or.inr rfl) (DV.n_lst (DV.efa DV.qa_nil)))
    (DV.ss_cons (DV.s_for (L2.passes_of rfl) rfl (DV.ei (DV.i_rng1 rfl X.z_range (DV.qa_cons (DV.q_var (L2.pv 0)) DV.qa_nil))) (DV.g_name (i := 3) sc__law_numbered.nd rfl (by first | exact Or.inl rfl | exact Or.inr rfl)) (DV.ss_cons (DV.s_set (i := 4) sc__law_numbered.nd rfl (by first | exact Or.inl rfl | exact Or.inr rfl) (DV.q_call (ok__law_factorial X) (hr.mono (by decide)) rfl X.g__law_factorial X.F__law_factorial.kp X.b__law_factorial (DV.qa_cons (DV.q_bin DV.op_subD (DV.rd (DV.q_bin DV.op_subD (DV.rd (DV.q_var (L2.pv 0))) (DV.rd (DV.q_c L2.pe_int)))) (DV.rd (DV.q_var (L2.pv 3)))) DV.qa_nil)))
    (DV.ss_cons (DV.s_append (i := 2) (L2.pe_bm PySem.F.plainAttrs_list PySem.F.slot_list_append PySem.F.type_list_append L2.mt_append (L2.pv 2) (L2.pa_cons (DV.ef (DV.q_bin DV.op_divD (DV.rd (DV.q_var (L2.pv 1))) (DV.rd (DV.q_var (L2.pv 4))))) L2.pa_nil)))
    (DV.ss_one (DV.s_set (i := 1) sc__law_numbered.nd rfl (by first | exact Or.inl rfl | exact Or.inr rfl) (DV.q_bin DV.op_modD (DV.rd (DV.q_callTy DV.c_int rfl X.z_int bo_int (DV.ra_cons (DV.rd (DV.q_var (L2.pv 1))) DV.ra_nil))) (DV.rd (DV.q_var (L2.pv 4)))))))))
    (DV.ss_one (DV.s_ret (DV.q_callR (ok__law_from_code X) (hr.mono (by decide)) rfl X.g__law_from_code X.F__law_from_code.kp X.b__law_from_code (DV.ra_cons (DV.r_var (L2.pv 2)) DV.ra_nil)))))))

abbrev N__law_word : List PySem.Str := (["call", "error", "flags"] : List PySem.Str)
theorem sc__law_word : L2.FnScope N__law_word (["call"] : List PySem.Str) (L2.defScope s__law_word) := ⟨rfl, rfl, rfl, by decide +kernel, rfl, by decide +kernel, by decide +kernel⟩
def mS_word (c : PySem.Str) (fs : List (PySem.Str × DV.D)) (aa : PySem.Addr) : DV.AE → Option DV.Fl := (DV.sSeq (DV.sSet 2 (DV.fLst (DV.fCons (DV.fIsE 1 aa (isB c "BadCode")) (DV.fCons (DV.fIsE 1 aa (isB c "BadOrder")) (DV.fCons (DV.fIsE 1 aa (isB c "NoNumber")) DV.fNil)))))
  (DV.sRet (DV.fIf (DV.fT (DV.fB DV.mEq (DV.fB DV.mCount (DV.fVar 2) (DV.fC (.bl true))) (DV.fC (.int 1)))) (DV.fB DV.mIx (DV.fLst (DV.fCons (DV.fC (.str "code")) (DV.fCons (DV.fC (.str "order")) (DV.fCons (DV.fC (.str "number")) DV.fNil)))) (DV.fB DV.mIndex (DV.fVar 2) (DV.fC (.bl true)))) (DV.fC (.str "other")))))
def mR_word : DV.AE → Option DV.Fl := (DV.sRet (DV.fC (.str "let")))
def W_exc (c : PySem.Str) : Option DV.D := if c = "BadCode" then some (.str "code") else if c = "BadOrder" then some (.str "order") else if c = "NoNumber" then some (.str "number") else none
def W_word : DV.Rs → Option DV.D
  | .ok _ => some (.str "let")
  | .exc c [] => W_exc c
  | .exc _ (_ :: _) => none
theorem W_word_inv {c : PySem.Str} {fs : List (PySem.Str × DV.D)} {d : DV.D} (h : W_word (.exc c fs) = some d) : c ∈ (["BadCode", "BadOrder", "NoNumber"] : List PySem.Str) ∧ fs = [] ∧ W_word (.exc c []) = some d := by
  cases fs with
  | cons x xs => cases h
  | nil =>
    have h' : W_exc c = some d := h
    refine ⟨?_, rfl, h⟩
    unfold W_exc at h'
    repeat' split at h'
    all_goals first | (rename_i e2; subst e2; decide) | cases h'
theorem mS_word_ok {c : PySem.Str} {d : DV.D} (hc : c ∈ (["BadCode", "BadOrder", "NoNumber"] : List PySem.Str)) (hw : W_word (.exc c []) = some d) (aa : PySem.Addr) : ∃ A', mS_word c [] aa ((List.replicate N__law_word.length none).set 1 (some (.dat (.v (.ref aa))))) = some (.rt d A') := by
  simp only [List.mem_cons, List.not_mem_nil, or_false] at hc
  rcases hc with rfl | rfl | rfl
  all_goals
    have hw' := Option.some.inj hw
    subst hw'
    exact ⟨_, by simp only [mS_word, DV.sSeq, DV.sSet, DV.fLst, DV.fCons, DV.fNil, DV.fIsE, List.replicate, N__law_word, List.length_cons, List.length_nil, List.set_cons_succ, List.set_cons_zero, List.getElem?_cons_succ, List.getElem?_cons_zero, if_pos, Option.bind_some, Option.map_some]; rfl⟩
theorem mR_word_ok {d0 d : DV.D} (h : W_word (.ok d0) = some d) : ∃ A', mR_word (List.replicate N__law_word.length none) = some (.rt d A') := by
  cases h; exact ⟨_, rfl⟩
theorem gives_word (X0 : L2.Cx) (hr0 : L2.Room 0 X0.A) {cl : PySem.Str → PySem.Addr} {a : Ad} (X : Fx X0.K X0.mg cl a) (g : PySem.Addr) (cdg : PySem.Value) (q : PySem.Str) : LamX.GivesTo X0 N__law_word "_law_word" (L2.defScope s__law_word) g cdg (L2.defBody s__law_word) "call" q (DV.TTw X0.K cl W_word) := by
  have hus : X0.A.units + 3 + 64 < PySem.cLine := by have := hr0.un; omega
  have hu0 : X0.A.units + 3 < PySem.cLine := by omega
  refine DV.word_gives (e := "LayError") (n := "error") (i := 1) (CS := a.c_LayError) (mS := mS_word) (mR := mR_word) rfl X.g_LayError (by decide) (fun _ => rfl) (by decide) sc__law_word.nd rfl rfl (fun c fs d hW => ?_) (fun d0 d hW => ?_) (fun s H H' c fs d aa oe dd pn hW hd hz hf => ?_) (fun s H H' => ?_)
  · obtain ⟨hc, rfl, hw⟩ := W_word_inv hW
    exact ⟨X.exm c hc, fun aa => mS_word_ok hc hw aa⟩
  · exact mR_word_ok hW
  · obtain ⟨hc, e0, hw⟩ := W_word_inv hW
    subst e0
    obtain rfl := hd rfl
    exact ((DV.ss_cons (DV.s_set (i := 2) sc__law_word.nd rfl (by first | exact Or.inl rfl | exact Or.inr rfl) (DV.q_lst (DV.qa_cons (DV.q_isE (i := 1) (L2.pe_callB (L2.call_isE (X.excC c hc) hz hf) rfl X.z_isinstance bo_isinstance (L2.pa_cons (L2.pv 1) (L2.pa_cons (L2.pe_glob rfl X.E_BadCode.g rfl) L2.pa_nil))) (X.kit_BadCode c hc)) (DV.qa_cons (DV.q_isE (i := 1) (L2.pe_callB (L2.call_isE (X.excC c hc) hz hf) rfl X.z_isinstance bo_isinstance (L2.pa_cons (L2.pv 1) (L2.pa_cons (L2.pe_glob rfl X.E_BadOrder.g rfl) L2.pa_nil))) (X.kit_BadOrder c hc)) (DV.qa_cons (DV.q_isE (i := 1) (L2.pe_callB (L2.call_isE (X.excC c hc) hz hf) rfl X.z_isinstance bo_isinstance (L2.pa_cons (L2.pv 1) (L2.pa_cons (L2.pe_glob rfl X.E_NoNumber.g rfl) L2.pa_nil))) (X.kit_NoNumber c hc)) DV.qa_nil)))))
    (DV.ss_one (DV.s_ret (DV.q_if (DV.qt_cmp (DV.op_eqDD (by exact hus)) (DV.rd (DV.q_count (L2.pe_bm PySem.F.plainAttrs_list PySem.F.slot_list_count PySem.F.type_list_count DV.mt_countF (DV.rd (DV.q_var (L2.pv 2))) (L2.pa_cons (DV.q_c L2.pe_bl) L2.pa_nil)))) (DV.rd (DV.q_c L2.pe_int))) (DV.q_ix (DV.rd (DV.q_lst (DV.qa_cons (DV.q_c L2.pe_str) (DV.qa_cons (DV.q_c L2.pe_str) (DV.qa_cons (DV.q_c L2.pe_str) DV.qa_nil))))) (DV.rd (DV.q_index (L2.pe_bm PySem.F.plainAttrs_list PySem.F.slot_list_index PySem.F.type_list_index L2.mt_index (DV.rd (DV.q_var (L2.pv 2))) (L2.pa_cons (DV.q_c L2.pe_bl) L2.pa_nil))))) (DV.q_c L2.pe_str))))))
  · exact ((DV.ss_one (DV.s_ret (DV.q_c L2.pe_str))))

def disp (a : Ad) : PySem.Addr → Option (Nat × (List DV.D → Option DV.Rs)) := fun f => if f = a.f_code then some (1, G_code) else if f = a.f_order_number then some (1, G_order_number) else none
theorem disp_ok (X : Fx K mg cl a) : ∀ f n G, disp a f = some (n, G) → ∃ (fd : PySem.FuncData) (ps : List PySem.Str), L2.FnOk P w K mg base (L2.CX P w) 5 f fd ps (DV.spP K cl n G) ∧ PySem.W.keepIn K (.ref f) = true ∧ L2.Binds K fd ps [] := by
  intro f n G h
  unfold disp at h

  split at h
  · rename_i e; subst e; cases h
    exact ⟨_, _, (ok_code X).mono (by decide), X.F_code.kp, X.b_code⟩
  split at h
  · rename_i e; subst e; cases h
    exact ⟨_, _, (ok_order_number X).mono (by decide), X.F_order_number.kp, X.b_order_number⟩
  cases h
abbrev N__law_are_refused : List PySem.Str := (["hand", "odd", "bad", "many", "none", "words", "call", "off"] : List PySem.Str)
theorem sc__law_are_refused : L2.FnScope N__law_are_refused (["hand"] : List PySem.Str) (L2.defScope s__law_are_refused) := ⟨rfl, rfl, rfl, by decide +kernel, rfl, by decide +kernel, by decide +kernel⟩
def m__law_are_refused (a : Ad) : DV.AE → Option DV.Fl := (DV.sSeq (DV.sSetF 1 (DV.gCallO 0 1 G__law_some (DV.qa (DV.fCons (DV.fLst (DV.fCons (DV.fC .non) (DV.fCons (DV.fTup DV.fNil) (DV.fCons (DV.fTup (DV.fCons (DV.fC (.int 1)) DV.fNil)) (DV.fCons (DV.fLst (DV.fCons (DV.fC (.int 0)) DV.fNil)) (DV.fCons (DV.fTup (DV.fCons (DV.fC (.int 0)) (DV.fCons (DV.fC (.int 1)) DV.fNil))) (DV.fCons (DV.fTup (DV.fCons (DV.fC (.bl true)) DV.fNil)) (DV.fCons (DV.fTup (DV.fCons (DV.fNeg (DV.fC (.int 1))) (DV.fCons (DV.fC (.int 0)) DV.fNil))) (DV.fCons (DV.fB DV.mMul (DV.fTup (DV.fCons (DV.fC (.int 0)) DV.fNil)) (DV.fC (.int 61))) (DV.fCons (DV.fC (.str "0")) DV.fNil)))))))))) DV.fNil))))
  (DV.sSeq (DV.sSetF 2 (DV.gCallO 0 1 G__law_some (DV.qa (DV.fCons (DV.fLst (DV.fCons (DV.fC .non) (DV.fCons (DV.fTup DV.fNil) (DV.fCons (DV.fTup (DV.fCons (DV.fC (.int 1)) DV.fNil)) (DV.fCons (DV.fTup (DV.fCons (DV.fC (.int 0)) (DV.fCons (DV.fC (.int 0)) DV.fNil))) (DV.fCons (DV.fLst (DV.fCons (DV.fC (.int 0)) DV.fNil)) (DV.fCons (DV.fTup (DV.fCons (DV.fC (.bl false)) (DV.fCons (DV.fC (.int 1)) DV.fNil))) (DV.fCons (DV.fTR (DV.fG1 (DV.fC (.int 61)))) DV.fNil)))))))) DV.fNil))))
  (DV.sSeq (DV.sAsgF (DV.pTup 2 (DV.pCons (DV.pName 3) (DV.pCons (DV.pName 4) DV.pNil))) (DV.gTupE (DV.gCons (DV.gB DV.mAdd (DV.qf (DV.fC (.int 1))) (DV.gCallO 0 1 G__law_draw (DV.qa (DV.fCons (DV.fC (.int 9)) DV.fNil)))) (DV.gCons (DV.gCallO 0 1 G__law_some (DV.qa (DV.fCons (DV.fLst (DV.fCons (DV.fC .non) (DV.fCons (DV.fC (.int 0)) (DV.fCons (DV.fC (.int 61)) (DV.fCons (DV.fC (.bl true)) (DV.fCons (DV.fC (.str "3")) (DV.fCons (DV.fNeg (DV.fC (.int 1))) DV.fNil))))))) DV.fNil))) DV.gNil))))
  (DV.sSeq (DV.sOwn 5 (DV.nLst (DV.gCons (DV.gWord W_word (DV.fX 1 (G_from_code a) (DV.fCons (DV.fVar 1) DV.fNil))) DV.gNil)))
  (DV.sSeq (DV.sOwn 5 (DV.nCat 5 (DV.gLC (DV.qi (DV.fSeq (DV.fTup (DV.fCons (DV.fC (.ref a.f_code)) (DV.fCons (DV.fC (.ref a.f_order_number)) DV.fNil))))) ([6] : List Nat) (DV.pName 6) (fun _ => some true) (DV.gWord W_word (DV.fXL 6 (disp a) (DV.fCons (DV.fVar 2) DV.fNil))))))
  (DV.sSeq (DV.sApp 5 (DV.gWord W_word (DV.fX 2 (G_numbered_order a) (DV.fCons (DV.fVar 4) (DV.fCons (DV.fC (.int 0)) DV.fNil)))))
  (DV.sSeq (DV.sSetF 7 (DV.gCallO 0 1 G__law_some (DV.qa (DV.fCons (DV.fLst (DV.fCons (DV.fC .non) (DV.fCons (DV.fNeg (DV.fC (.int 1))) (DV.fCons (DV.fCall 1 G__law_factorial (DV.fCons (DV.fVar 3) DV.fNil)) (DV.fCons (DV.fC (.bl true)) (DV.fCons (DV.fC (.str "0")) DV.fNil)))))) DV.fNil))))
  (DV.sSeq (DV.sApp 5 (DV.gWord W_word (DV.fX 2 (G_numbered_order a) (DV.fCons (DV.fVar 3) (DV.fCons (DV.fVar 7) DV.fNil)))))
  (DV.sRet (DV.fB DV.mEq (DV.fOwn 5) (DV.fLst (DV.fCons (DV.fC (.str "code")) (DV.fCons (DV.fC (.str "order")) (DV.fCons (DV.fC (.str "order")) (DV.fCons (DV.fC (.str "number")) (DV.fCons (DV.fC (.str "number")) DV.fNil))))))))))))))))
def G__law_are_refused (a : Ad) : List DV.D → List DV.D → Option (DV.D × List DV.D) := DV.runO N__law_are_refused.length (m__law_are_refused a)
theorem ok__law_are_refused (X : Fx K mg cl a) (TB : LamX.TabB base mg a.lc a.lP) : L2.FnOk P w K mg base (L2.CX P w) 10 a.f__law_are_refused a.d__law_are_refused (["hand"] : List PySem.Str) (DV.spO K 0 (G__law_are_refused a)) :=
  DV.fn_O (cl := cl) X.F__law_are_refused sc__law_are_refused (by decide) fun A outer s H E H0 B0 M hr => by exact ((DV.ss_cons (DV.s_setF (i := 1) sc__law_are_refused.nd rfl (by first | exact Or.inl rfl | exact Or.inr rfl) (DV.f_callO (i := 0) (ok__law_some X) (hr.mono (by decide)) rfl X.g__law_some X.F__law_some.kp X.b__law_some (L2.pv 0) (DV.efa (DV.qa_cons (DV.q_lst (DV.qa_cons (DV.q_c L2.pe_non) (DV.qa_cons (DV.q_tup DV.qa_nil) (DV.qa_cons (DV.q_tup (DV.qa_cons (DV.q_c L2.pe_int) DV.qa_nil)) (DV.qa_cons (DV.q_lst (DV.qa_cons (DV.q_c L2.pe_int) DV.qa_nil)) (DV.qa_cons (DV.q_tup (DV.qa_cons (DV.q_c L2.pe_int) (DV.qa_cons (DV.q_c L2.pe_int) DV.qa_nil))) (DV.qa_cons (DV.q_tup (DV.qa_cons (DV.q_c L2.pe_bl) DV.qa_nil)) (DV.qa_cons (DV.q_tup (DV.qa_cons (DV.q_neg (DV.q_c L2.pe_int)) (DV.qa_cons (DV.q_c L2.pe_int) DV.qa_nil))) (DV.qa_cons (DV.q_bin DV.op_mulD (DV.rd (DV.q_tup (DV.qa_cons (DV.q_c L2.pe_int) DV.qa_nil))) (DV.rd (DV.q_c L2.pe_int))) (DV.qa_cons (DV.q_c L2.pe_str) DV.qa_nil)))))))))) DV.qa_nil))))
    (DV.ss_cons (DV.s_setF (i := 2) sc__law_are_refused.nd rfl (by first | exact Or.inl rfl | exact Or.inr rfl) (DV.f_callO (i := 0) (ok__law_some X) (hr.mono (by decide)) rfl X.g__law_some X.F__law_some.kp X.b__law_some (L2.pv 0) (DV.efa (DV.qa_cons (DV.q_lst (DV.qa_cons (DV.q_c L2.pe_non) (DV.qa_cons (DV.q_tup DV.qa_nil) (DV.qa_cons (DV.q_tup (DV.qa_cons (DV.q_c L2.pe_int) DV.qa_nil)) (DV.qa_cons (DV.q_tup (DV.qa_cons (DV.q_c L2.pe_int) (DV.qa_cons (DV.q_c L2.pe_int) DV.qa_nil))) (DV.qa_cons (DV.q_lst (DV.qa_cons (DV.q_c L2.pe_int) DV.qa_nil)) (DV.qa_cons (DV.q_tup (DV.qa_cons (DV.q_c L2.pe_bl) (DV.qa_cons (DV.q_c L2.pe_int) DV.qa_nil))) (DV.qa_cons (DV.q_tupR rfl rfl X.z_tuple (DV.qg_1 rfl X.z_range (DV.q_c L2.pe_int))) DV.qa_nil)))))))) DV.qa_nil))))
    (DV.ss_cons (DV.s_asgF (DV.f_tup (DV.fa_cons (DV.f_bin DV.op_addD (DV.ef (DV.q_c L2.pe_int)) (DV.f_callO (i := 0) (ok__law_draw X) (hr.mono (by decide)) rfl X.g__law_draw X.F__law_draw.kp X.b__law_draw (L2.pv 0) (DV.efa (DV.qa_cons (DV.q_c L2.pe_int) DV.qa_nil)))) (DV.fa_cons (DV.f_callO (i := 0) (ok__law_some X) (hr.mono (by decide)) rfl X.g__law_some X.F__law_some.kp X.b__law_some (L2.pv 0) (DV.efa (DV.qa_cons (DV.q_lst (DV.qa_cons (DV.q_c L2.pe_non) (DV.qa_cons (DV.q_c L2.pe_int) (DV.qa_cons (DV.q_c L2.pe_int) (DV.qa_cons (DV.q_c L2.pe_bl) (DV.qa_cons (DV.q_c L2.pe_str) (DV.qa_cons (DV.q_neg (DV.q_c L2.pe_int)) DV.qa_nil))))))) DV.qa_nil))) DV.fa_nil))) (DV.g_tup rfl (DV.gs_cons (DV.g_name (i := 3) sc__law_are_refused.nd rfl (by first | exact Or.inl rfl | exact Or.inr rfl)) (DV.gs_cons (DV.g_name (i := 4) sc__law_are_refused.nd rfl (by first | exact Or.inl rfl | exact Or.inr rfl)) DV.gs_nil))))
    (DV.ss_cons (DV.s_own (i := 5) sc__law_are_refused.nd rfl (by first | exact Or.inl rfl | exact Or.inr rfl) (DV.n_lst (DV.fa_cons (DV.f_word (k := 7) X.F__law_word rfl X.g__law_word X.b__law_word sc__law_word rfl (by first | exact Or.inl rfl | exact Or.inr (Or.inl rfl)) (gives_word _ (hr.mono (by decide)) X _ _ _) TB (by exact X.lc) (by rw [X.lT]; exact List.mem_singleton.mpr rfl) (by rw [X.lT]; intro p hp _; rw [List.mem_singleton.mp hp]; rfl) (hr.mono (by decide)) (LamX.lamS_by (by kernel_rfl)) rfl (fun _ _ _ _ _ => rfl) (fun _ _ _ _ _ _ _ hr => (DV.x_call (ok_from_code X) (hr.mono (by decide)) rfl X.g_from_code X.F_from_code.kp X.b_from_code (L2.passes_call (L2.takes_of rfl rfl rfl rfl) (fun _ _ _ _ h => h)) (DV.qa_cons (DV.q_var (L2.pv 1)) DV.qa_nil)))) DV.fa_nil)))
    (DV.ss_cons (DV.s_own (i := 5) sc__law_are_refused.nd rfl (by first | exact Or.inl rfl | exact Or.inr rfl) (DV.n_cat (i := 5) (L2.pv 5) (DV.f_lc (own := [("call", 6)]) rfl sc__law_are_refused.nd (DV.ei (DV.i_seq (DV.q_tup (DV.qa_cons (DV.q_c (L2.pe_glob rfl X.g_code rfl)) (DV.qa_cons (DV.q_c (L2.pe_glob rfl X.g_order_number rfl)) DV.qa_nil))))) (L2.blkOk_by (N := N__law_are_refused) (own := [("call", 6)]) (by kernel_rfl)) (fun _ _ _ _ _ => (DV.g_name (i := 6) sc__law_are_refused.nd rfl (by first | exact Or.inl rfl | exact Or.inr rfl))) (fun _ _ _ _ _ => DV.qts_nil) (fun _ _ _ _ _ => (DV.f_word (k := 7) X.F__law_word rfl X.g__law_word X.b__law_word sc__law_word rfl (by first | exact Or.inl rfl | exact Or.inr (Or.inl rfl)) (gives_word _ (hr.mono (by decide)) X _ _ _) TB (by exact X.lc) (by rw [X.lT]; exact List.mem_singleton.mpr rfl) (by rw [X.lT]; intro p hp _; rw [List.mem_singleton.mp hp]; rfl) (hr.mono (by decide)) (LamX.lamS_by (by kernel_rfl)) rfl (fun _ _ _ _ _ => rfl) (fun _ _ _ _ _ _ _ hr => (DV.x_callL (i := 6) (disp_ok X) (hr.mono (by decide)) rfl (by first | exact Or.inl rfl | exact Or.inr (Or.inl rfl) | exact Or.inr (Or.inr rfl)) (L2.passes_call (L2.takes_of rfl rfl rfl rfl) (fun _ _ _ _ h => h)) (DV.qa_cons (DV.q_var (L2.pv 2)) DV.qa_nil))))))))
    (DV.ss_cons (DV.s_append (i := 5) (L2.pe_bm PySem.F.plainAttrs_list PySem.F.slot_list_append PySem.F.type_list_append L2.mt_append (L2.pv 5) (L2.pa_cons (DV.f_word (k := 7) X.F__law_word rfl X.g__law_word X.b__law_word sc__law_word rfl (by first | exact Or.inl rfl | exact Or.inr (Or.inl rfl)) (gives_word _ (hr.mono (by decide)) X _ _ _) TB (by exact X.lc) (by rw [X.lT]; exact List.mem_singleton.mpr rfl) (by rw [X.lT]; intro p hp _; rw [List.mem_singleton.mp hp]; rfl) (hr.mono (by decide)) (LamX.lamS_by (by kernel_rfl)) rfl (fun _ _ _ _ _ => rfl) (fun _ _ _ _ _ _ _ hr => (DV.x_call (ok_numbered_order X) (hr.mono (by decide)) rfl X.g_numbered_order X.F_numbered_order.kp X.b_numbered_order (L2.passes_call (L2.takes_of rfl rfl rfl rfl) (fun _ _ _ _ h => h)) (DV.qa_cons (DV.q_var (L2.pv 4)) (DV.qa_cons (DV.q_c L2.pe_int) DV.qa_nil))))) L2.pa_nil)))
    (DV.ss_cons (DV.s_setF (i := 7) sc__law_are_refused.nd rfl (by first | exact Or.inl rfl | exact Or.inr rfl) (DV.f_callO (i := 0) (ok__law_some X) (hr.mono (by decide)) rfl X.g__law_some X.F__law_some.kp X.b__law_some (L2.pv 0) (DV.efa (DV.qa_cons (DV.q_lst (DV.qa_cons (DV.q_c L2.pe_non) (DV.qa_cons (DV.q_neg (DV.q_c L2.pe_int)) (DV.qa_cons (DV.q_call (ok__law_factorial X) (hr.mono (by decide)) rfl X.g__law_factorial X.F__law_factorial.kp X.b__law_factorial (DV.qa_cons (DV.q_var (L2.pv 3)) DV.qa_nil)) (DV.qa_cons (DV.q_c L2.pe_bl) (DV.qa_cons (DV.q_c L2.pe_str) DV.qa_nil)))))) DV.qa_nil))))
    (DV.ss_cons (DV.s_append (i := 5) (L2.pe_bm PySem.F.plainAttrs_list PySem.F.slot_list_append PySem.F.type_list_append L2.mt_append (L2.pv 5) (L2.pa_cons (DV.f_word (k := 7) X.F__law_word rfl X.g__law_word X.b__law_word sc__law_word rfl (by first | exact Or.inl rfl | exact Or.inr (Or.inl rfl)) (gives_word _ (hr.mono (by decide)) X _ _ _) TB (by exact X.lc) (by rw [X.lT]; exact List.mem_singleton.mpr rfl) (by rw [X.lT]; intro p hp _; rw [List.mem_singleton.mp hp]; rfl) (hr.mono (by decide)) (LamX.lamS_by (by kernel_rfl)) rfl (fun _ _ _ _ _ => rfl) (fun _ _ _ _ _ _ _ hr => (DV.x_call (ok_numbered_order X) (hr.mono (by decide)) rfl X.g_numbered_order X.F_numbered_order.kp X.b_numbered_order (L2.passes_call (L2.takes_of rfl rfl rfl rfl) (fun _ _ _ _ h => h)) (DV.qa_cons (DV.q_var (L2.pv 3)) (DV.qa_cons (DV.q_var (L2.pv 7)) DV.qa_nil))))) L2.pa_nil)))
    (DV.ss_one (DV.s_ret (DV.q_cmp (DV.op_eqDD (DV.hu64 hr)) (DV.r_var (L2.pv 5)) (DV.rd (DV.q_lst (DV.qa_cons (DV.q_c L2.pe_str) (DV.qa_cons (DV.q_c L2.pe_str) (DV.qa_cons (DV.q_c L2.pe_str) (DV.qa_cons (DV.q_c L2.pe_str) (DV.qa_cons (DV.q_c L2.pe_str) DV.qa_nil)))))))))))))))))))

abbrev N__law_is_right : List PySem.Str := (["hand", "many", "order", "due", "number", "place", "drawn", "last", "told"] : List PySem.Str)
theorem sc__law_is_right : L2.FnScope N__law_is_right (["hand"] : List PySem.Str) (L2.defScope s__law_is_right) := ⟨rfl, rfl, rfl, by decide +kernel, rfl, by decide +kernel, by decide +kernel⟩
def m__law_is_right (a : Ad) : DV.AE → Option DV.Fl := (DV.sSeq (DV.sSetF 1 (DV.gCallO 0 1 G__law_some (DV.gCons (DV.gLst (DV.gCons (DV.gB DV.mAdd (DV.qf (DV.fC (.int 1))) (DV.gCallO 0 1 G__law_draw (DV.qa (DV.fCons (DV.fC (.int 8)) DV.fNil)))) (DV.gCons (DV.gB DV.mAdd (DV.qf (DV.fC (.int 1))) (DV.gCallO 0 1 G__law_draw (DV.qa (DV.fCons (DV.fC (.int 60)) DV.fNil)))) (DV.gCons (DV.qf (DV.fC (.int 60))) DV.gNil)))) DV.gNil)))
  (DV.sSeq (DV.sSetF 2 (DV.gIf (DV.gT (DV.gB DV.mEq (DV.gCallO 0 1 G__law_draw (DV.qa (DV.fCons (DV.fC (.int 2)) DV.fNil))) (DV.qf (DV.fC (.int 0))))) (DV.gCallO 0 1 G__law_mixed (DV.qa (DV.fCons (DV.fVar 1) DV.fNil))) (DV.gB DV.mIx (DV.gCallO 0 1 G__law_laid (DV.qa (DV.fCons (DV.fVar 1) DV.fNil))) (DV.qf (DV.fC (.int 0))))))
  (DV.sSeq (DV.sPar 3 4 (DV.fCons (DV.fCall 1 G__law_code (DV.fCons (DV.fVar 2) DV.fNil)) (DV.fCons (DV.fCall 1 G__law_number (DV.fCons (DV.fVar 2) DV.fNil)) DV.fNil)))
  (DV.sSeq (DV.sIf (DV.fOr (DV.fT (DV.fB DV.mNe (DV.fCall 1 G_code (DV.fCons (DV.fVar 2) DV.fNil)) (DV.fVar 3))) (DV.fOr (DV.fT (DV.fB DV.mNe (DV.fCall 1 (G_from_code a) (DV.fCons (DV.fVar 3) DV.fNil)) (DV.fVar 2))) (DV.fT (DV.fB DV.mNe (DV.fCB DV.mSumA (DV.fCons (DV.fVar 3) DV.fNil)) (DV.fCall 2 G_distance (DV.fCons (DV.fTR (DV.fG1 (DV.fVar 1))) (DV.fCons (DV.fVar 2) DV.fNil))))))) (DV.sRet (DV.fC (.bl false))) DV.sNil)
  (DV.sSeq (DV.sIf (DV.fOr (DV.fT (DV.fB DV.mNe (DV.fCall 1 G_order_number (DV.fCons (DV.fVar 2) DV.fNil)) (DV.fVar 4))) (DV.fT (DV.fB DV.mNe (DV.fCall 2 (G_numbered_order a) (DV.fCons (DV.fVar 1) (DV.fCons (DV.fVar 4) DV.fNil))) (DV.fVar 2)))) (DV.sRet (DV.fC (.bl false))) DV.sNil)
  (DV.sSeq (DV.sIf (DV.fAnd (DV.fT (DV.fB DV.mLt (DV.fVar 1) (DV.fC (.int 34)))) (DV.fAnd (DV.fT (DV.fB DV.mGt (DV.fVar 4) (DV.fC (.int 0)))) (DV.fNot (DV.fT (DV.fB DV.mLt (DV.fCall 2 (G_numbered_order a) (DV.fCons (DV.fVar 1) (DV.fCons (DV.fB DV.mSub (DV.fVar 4) (DV.fC (.int 1))) DV.fNil))) (DV.fVar 2)))))) (DV.sRet (DV.fC (.bl false))) DV.sNil)
  (DV.sSeq (DV.sIf (DV.fAnd (DV.fT (DV.fB DV.mLt (DV.fVar 1) (DV.fC (.int 34)))) (DV.fAnd (DV.fT (DV.fB DV.mLt (DV.fB DV.mAdd (DV.fVar 4) (DV.fC (.int 1))) (DV.fCall 1 G__law_factorial (DV.fCons (DV.fVar 1) DV.fNil)))) (DV.fNot (DV.fT (DV.fB DV.mLt (DV.fVar 2) (DV.fCall 2 (G_numbered_order a) (DV.fCons (DV.fVar 1) (DV.fCons (DV.fB DV.mAdd (DV.fVar 4) (DV.fC (.int 1))) DV.fNil)))))))) (DV.sRet (DV.fC (.bl false))) DV.sNil)
  (DV.sSeq (DV.sSetF 6 (DV.gCB DV.mTuple (DV.gCons (DV.gLC (DV.qi (DV.fR1 (DV.fCons (DV.fVar 1) DV.fNil))) ([5] : List Nat) (DV.pName 5) (fun _ => some true) (DV.gCallO 0 1 G__law_draw (DV.qa (DV.fCons (DV.fB DV.mSub (DV.fVar 1) (DV.fVar 5)) DV.fNil)))) DV.gNil)))
  (DV.sSeq (DV.sIf (DV.fOr (DV.fT (DV.fB DV.mNe (DV.fCall 1 (G_from_code a) (DV.fCons (DV.fVar 6) DV.fNil)) (DV.fCall 1 G__law_from_code (DV.fCons (DV.fVar 6) DV.fNil)))) (DV.fT (DV.fB DV.mNe (DV.fCall 1 G_code (DV.fCons (DV.fCall 1 (G_from_code a) (DV.fCons (DV.fVar 6) DV.fNil)) DV.fNil)) (DV.fVar 6)))) (DV.sRet (DV.fC (.bl false))) DV.sNil)
  (DV.sSeq (DV.sSet 7 (DV.fRev (DV.fTR (DV.fG1 (DV.fVar 1)))))
  (DV.sSeq (DV.sSet 8 (DV.fCall 1 G_order_number (DV.fCons (DV.fVar 7) DV.fNil)))
  (DV.sSeq (DV.sIf (DV.fOr (DV.fT (DV.fB DV.mNe (DV.fVar 8) (DV.fB DV.mSub (DV.fCall 1 G__law_factorial (DV.fCons (DV.fVar 1) DV.fNil)) (DV.fC (.int 1))))) (DV.fOr (DV.fT (DV.fB DV.mNe (DV.fCall 2 (G_numbered_order a) (DV.fCons (DV.fVar 1) (DV.fCons (DV.fVar 8) DV.fNil))) (DV.fVar 7))) (DV.fT (DV.fB DV.mNe (DV.fCall 2 (G_numbered_order a) (DV.fCons (DV.fVar 1) (DV.fCons (DV.fC (.int 0)) DV.fNil))) (DV.fRev (DV.fVar 7)))))) (DV.sRet (DV.fC (.bl false))) DV.sNil)
  (DV.sSeq (DV.sIf (DV.fT (DV.fB DV.mLt (DV.fVar 1) (DV.fC (.int 24)))) (DV.sSeq (DV.sSetF 5 (DV.gCallO 0 1 G__law_draw (DV.qa (DV.fCons (DV.fCall 1 G__law_factorial (DV.fCons (DV.fVar 1) DV.fNil)) DV.fNil))))
  (DV.sIf (DV.fT (DV.fB DV.mNe (DV.fCall 2 (G_numbered_order a) (DV.fCons (DV.fVar 1) (DV.fCons (DV.fVar 5) DV.fNil))) (DV.fCall 2 G__law_numbered (DV.fCons (DV.fVar 1) (DV.fCons (DV.fVar 5) DV.fNil))))) (DV.sRet (DV.fC (.bl false))) DV.sNil)) DV.sNil)
  (DV.sRetF (DV.gCallO 0 0 (G__law_are_refused a) (DV.qa DV.fNil))))))))))))))))
def G__law_is_right (a : Ad) : List DV.D → List DV.D → Option (DV.D × List DV.D) := DV.runO N__law_is_right.length (m__law_is_right a)
theorem ok__law_is_right (X : Fx K mg cl a) (TB : LamX.TabB base mg a.lc a.lP) : L2.FnOk P w K mg base (L2.CX P w) 11 a.f__law_is_right a.d__law_is_right (["hand"] : List PySem.Str) (DV.spO K 0 (G__law_is_right a)) :=
  DV.fn_O (cl := cl) X.F__law_is_right sc__law_is_right (by decide) fun A outer s H E H0 B0 M hr => by exact ((DV.ss_cons (DV.s_setF (i := 1) sc__law_is_right.nd rfl (by first | exact Or.inl rfl | exact Or.inr rfl) (DV.f_callO (i := 0) (ok__law_some X) (hr.mono (by decide)) rfl X.g__law_some X.F__law_some.kp X.b__law_some (L2.pv 0) (DV.fa_cons (DV.f_lst (DV.fa_cons (DV.f_bin DV.op_addD (DV.ef (DV.q_c L2.pe_int)) (DV.f_callO (i := 0) (ok__law_draw X) (hr.mono (by decide)) rfl X.g__law_draw X.F__law_draw.kp X.b__law_draw (L2.pv 0) (DV.efa (DV.qa_cons (DV.q_c L2.pe_int) DV.qa_nil)))) (DV.fa_cons (DV.f_bin DV.op_addD (DV.ef (DV.q_c L2.pe_int)) (DV.f_callO (i := 0) (ok__law_draw X) (hr.mono (by decide)) rfl X.g__law_draw X.F__law_draw.kp X.b__law_draw (L2.pv 0) (DV.efa (DV.qa_cons (DV.q_c L2.pe_int) DV.qa_nil)))) (DV.fa_cons (DV.ef (DV.q_c L2.pe_int)) DV.fa_nil)))) DV.fa_nil)))
    (DV.ss_cons (DV.s_setF (i := 2) sc__law_is_right.nd rfl (by first | exact Or.inl rfl | exact Or.inr rfl) (DV.f_if (DV.ft_cmp (DV.op_eqDD (DV.hu64 hr)) (DV.f_callO (i := 0) (ok__law_draw X) (hr.mono (by decide)) rfl X.g__law_draw X.F__law_draw.kp X.b__law_draw (L2.pv 0) (DV.efa (DV.qa_cons (DV.q_c L2.pe_int) DV.qa_nil))) (DV.ef (DV.q_c L2.pe_int))) (DV.f_callO (i := 0) (ok__law_mixed X) (hr.mono (by decide)) rfl X.g__law_mixed X.F__law_mixed.kp X.b__law_mixed (L2.pv 0) (DV.efa (DV.qa_cons (DV.q_var (L2.pv 1)) DV.qa_nil))) (DV.f_ix (DV.f_callO (i := 0) (ok__law_laid X) (hr.mono (by decide)) rfl X.g__law_laid X.F__law_laid.kp X.b__law_laid (L2.pv 0) (DV.efa (DV.qa_cons (DV.q_var (L2.pv 1)) DV.qa_nil))) (DV.ef (DV.q_c L2.pe_int)))))
    (DV.ss_cons (DV.s_par (i := 3) (j := 4) rfl sc__law_is_right.nd rfl rfl (by decide) rfl rfl (DV.qa_cons (DV.q_call (ok__law_code X) (hr.mono (by decide)) rfl X.g__law_code X.F__law_code.kp X.b__law_code (DV.qa_cons (DV.q_var (L2.pv 2)) DV.qa_nil)) (DV.qa_cons (DV.q_call (ok__law_number X) (hr.mono (by decide)) rfl X.g__law_number X.F__law_number.kp X.b__law_number (DV.qa_cons (DV.q_var (L2.pv 2)) DV.qa_nil)) DV.qa_nil)) rfl)
    (DV.ss_cons (DV.s_if (L2.PW.pt (DV.qw_or (DV.qt_cmp (DV.op_neDD (DV.hu64 hr)) (DV.rd (DV.q_call (ok_code X) (hr.mono (by decide)) rfl X.g_code X.F_code.kp X.b_code (DV.qa_cons (DV.q_var (L2.pv 2)) DV.qa_nil))) (DV.rd (DV.q_var (L2.pv 3)))) (DV.qw_or (DV.qt_cmp (DV.op_neDD (DV.hu64 hr)) (DV.rd (DV.q_call (ok_from_code X) (hr.mono (by decide)) rfl X.g_from_code X.F_from_code.kp X.b_from_code (DV.qa_cons (DV.q_var (L2.pv 3)) DV.qa_nil))) (DV.rd (DV.q_var (L2.pv 2)))) (DV.qw_1 (DV.qt_cmp (DV.op_neDD (DV.hu64 hr)) (DV.rd (DV.q_callB (DV.c_sumA rfl) rfl X.z_sum bo_sum (DV.ra_cons (DV.rd (DV.q_var (L2.pv 3))) DV.ra_nil))) (DV.rd (DV.q_call (ok_distance X) (hr.mono (by decide)) rfl X.g_distance X.F_distance.kp X.b_distance (DV.qa_cons (DV.q_tupR rfl rfl X.z_tuple (DV.qg_1 rfl X.z_range (DV.q_var (L2.pv 1)))) (DV.qa_cons (DV.q_var (L2.pv 2)) DV.qa_nil))))))))) (DV.ss_one (DV.s_ret (DV.q_c L2.pe_bl))) DV.ss_nil)
    (DV.ss_cons (DV.s_if (L2.PW.pt (DV.qw_or (DV.qt_cmp (DV.op_neDD (DV.hu64 hr)) (DV.rd (DV.q_call (ok_order_number X) (hr.mono (by decide)) rfl X.g_order_number X.F_order_number.kp X.b_order_number (DV.qa_cons (DV.q_var (L2.pv 2)) DV.qa_nil))) (DV.rd (DV.q_var (L2.pv 4)))) (DV.qw_1 (DV.qt_cmp (DV.op_neDD (DV.hu64 hr)) (DV.rd (DV.q_call (ok_numbered_order X) (hr.mono (by decide)) rfl X.g_numbered_order X.F_numbered_order.kp X.b_numbered_order (DV.qa_cons (DV.q_var (L2.pv 1)) (DV.qa_cons (DV.q_var (L2.pv 4)) DV.qa_nil)))) (DV.rd (DV.q_var (L2.pv 2))))))) (DV.ss_one (DV.s_ret (DV.q_c L2.pe_bl))) DV.ss_nil)
    (DV.ss_cons (DV.s_if (L2.PW.pt (DV.qw_and (DV.qt_cmp (DV.op_ltD (DV.hu0 hr)) (DV.rd (DV.q_var (L2.pv 1))) (DV.rd (DV.q_c L2.pe_int))) (DV.qw_and (DV.qt_cmp DV.op_gtD (DV.rd (DV.q_var (L2.pv 4))) (DV.rd (DV.q_c L2.pe_int))) (DV.qw_1 (DV.qt_not (DV.qt_cmp (DV.op_ltD (DV.hu0 hr)) (DV.rd (DV.q_call (ok_numbered_order X) (hr.mono (by decide)) rfl X.g_numbered_order X.F_numbered_order.kp X.b_numbered_order (DV.qa_cons (DV.q_var (L2.pv 1)) (DV.qa_cons (DV.q_bin DV.op_subD (DV.rd (DV.q_var (L2.pv 4))) (DV.rd (DV.q_c L2.pe_int))) DV.qa_nil)))) (DV.rd (DV.q_var (L2.pv 2))))))))) (DV.ss_one (DV.s_ret (DV.q_c L2.pe_bl))) DV.ss_nil)
    (DV.ss_cons (DV.s_if (L2.PW.pt (DV.qw_and (DV.qt_cmp (DV.op_ltD (DV.hu0 hr)) (DV.rd (DV.q_var (L2.pv 1))) (DV.rd (DV.q_c L2.pe_int))) (DV.qw_and (DV.qt_cmp (DV.op_ltD (DV.hu0 hr)) (DV.rd (DV.q_bin DV.op_addD (DV.rd (DV.q_var (L2.pv 4))) (DV.rd (DV.q_c L2.pe_int)))) (DV.rd (DV.q_call (ok__law_factorial X) (hr.mono (by decide)) rfl X.g__law_factorial X.F__law_factorial.kp X.b__law_factorial (DV.qa_cons (DV.q_var (L2.pv 1)) DV.qa_nil)))) (DV.qw_1 (DV.qt_not (DV.qt_cmp (DV.op_ltD (DV.hu0 hr)) (DV.rd (DV.q_var (L2.pv 2))) (DV.rd (DV.q_call (ok_numbered_order X) (hr.mono (by decide)) rfl X.g_numbered_order X.F_numbered_order.kp X.b_numbered_order (DV.qa_cons (DV.q_var (L2.pv 1)) (DV.qa_cons (DV.q_bin DV.op_addD (DV.rd (DV.q_var (L2.pv 4))) (DV.rd (DV.q_c L2.pe_int))) DV.qa_nil)))))))))) (DV.ss_one (DV.s_ret (DV.q_c L2.pe_bl))) DV.ss_nil)
    (DV.ss_cons (DV.s_setF (i := 6) sc__law_is_right.nd rfl (by first | exact Or.inl rfl | exact Or.inr rfl) (DV.f_callTy DV.c_tuple rfl X.z_tuple bo_tuple (DV.fa_cons (DV.f_lc (own := [("place", 5)]) rfl sc__law_is_right.nd (DV.ei (DV.i_rng1 rfl X.z_range (DV.qa_cons (DV.q_var (L2.pv 1)) DV.qa_nil))) (L2.blkOk_by (N := N__law_is_right) (own := [("place", 5)]) (by kernel_rfl)) (fun _ _ _ _ _ => (DV.g_name (i := 5) sc__law_is_right.nd rfl (by first | exact Or.inl rfl | exact Or.inr rfl))) (fun _ _ _ _ _ => DV.qts_nil) (fun _ _ _ _ _ => (DV.f_callO (i := 0) (ok__law_draw X) (hr.mono (by decide)) rfl X.g__law_draw X.F__law_draw.kp X.b__law_draw (L2.pv 0) (DV.efa (DV.qa_cons (DV.q_bin DV.op_subD (DV.rd (DV.q_var (L2.pv 1))) (DV.rd (DV.q_var (L2.pv 5)))) DV.qa_nil))))) DV.fa_nil)))
    (DV.ss_cons (DV.s_if (L2.PW.pt (DV.qw_or (DV.qt_cmp (DV.op_neDD (DV.hu64 hr)) (DV.rd (DV.q_call (ok_from_code X) (hr.mono (by decide)) rfl X.g_from_code X.F_from_code.kp X.b_from_code (DV.qa_cons (DV.q_var (L2.pv 6)) DV.qa_nil))) (DV.rd (DV.q_call (ok__law_from_code X) (hr.mono (by decide)) rfl X.g__law_from_code X.F__law_from_code.kp X.b__law_from_code (DV.qa_cons (DV.q_var (L2.pv 6)) DV.qa_nil)))) (DV.qw_1 (DV.qt_cmp (DV.op_neDD (DV.hu64 hr)) (DV.rd (DV.q_call (ok_code X) (hr.mono (by decide)) rfl X.g_code X.F_code.kp X.b_code (DV.qa_cons (DV.q_call (ok_from_code X) (hr.mono (by decide)) rfl X.g_from_code X.F_from_code.kp X.b_from_code (DV.qa_cons (DV.q_var (L2.pv 6)) DV.qa_nil)) DV.qa_nil))) (DV.rd (DV.q_var (L2.pv 6))))))) (DV.ss_one (DV.s_ret (DV.q_c L2.pe_bl))) DV.ss_nil)
    (DV.ss_cons (DV.s_set (i := 7) sc__law_is_right.nd rfl (by first | exact Or.inl rfl | exact Or.inr rfl) (DV.q_rev (DV.rd (DV.q_tupR rfl rfl X.z_tuple (DV.qg_1 rfl X.z_range (DV.q_var (L2.pv 1)))))))
    (DV.ss_cons (DV.s_set (i := 8) sc__law_is_right.nd rfl (by first | exact Or.inl rfl | exact Or.inr rfl) (DV.q_call (ok_order_number X) (hr.mono (by decide)) rfl X.g_order_number X.F_order_number.kp X.b_order_number (DV.qa_cons (DV.q_var (L2.pv 7)) DV.qa_nil)))
    (DV.ss_cons (DV.s_if (L2.PW.pt (DV.qw_or (DV.qt_cmp (DV.op_neDD (DV.hu64 hr)) (DV.rd (DV.q_var (L2.pv 8))) (DV.rd (DV.q_bin DV.op_subD (DV.rd (DV.q_call (ok__law_factorial X) (hr.mono (by decide)) rfl X.g__law_factorial X.F__law_factorial.kp X.b__law_factorial (DV.qa_cons (DV.q_var (L2.pv 1)) DV.qa_nil))) (DV.rd (DV.q_c L2.pe_int))))) (DV.qw_or (DV.qt_cmp (DV.op_neDD (DV.hu64 hr)) (DV.rd (DV.q_call (ok_numbered_order X) (hr.mono (by decide)) rfl X.g_numbered_order X.F_numbered_order.kp X.b_numbered_order (DV.qa_cons (DV.q_var (L2.pv 1)) (DV.qa_cons (DV.q_var (L2.pv 8)) DV.qa_nil)))) (DV.rd (DV.q_var (L2.pv 7)))) (DV.qw_1 (DV.qt_cmp (DV.op_neDD (DV.hu64 hr)) (DV.rd (DV.q_call (ok_numbered_order X) (hr.mono (by decide)) rfl X.g_numbered_order X.F_numbered_order.kp X.b_numbered_order (DV.qa_cons (DV.q_var (L2.pv 1)) (DV.qa_cons (DV.q_c L2.pe_int) DV.qa_nil)))) (DV.rd (DV.q_rev (DV.rd (DV.q_var (L2.pv 7)))))))))) (DV.ss_one (DV.s_ret (DV.q_c L2.pe_bl))) DV.ss_nil)
    (DV.ss_cons (DV.s_if (DV.qt_cmp (DV.op_ltD (DV.hu0 hr)) (DV.rd (DV.q_var (L2.pv 1))) (DV.rd (DV.q_c L2.pe_int))) (DV.ss_cons (DV.s_setF (i := 5) sc__law_is_right.nd rfl (by first | exact Or.inl rfl | exact Or.inr rfl) (DV.f_callO (i := 0) (ok__law_draw X) (hr.mono (by decide)) rfl X.g__law_draw X.F__law_draw.kp X.b__law_draw (L2.pv 0) (DV.efa (DV.qa_cons (DV.q_call (ok__law_factorial X) (hr.mono (by decide)) rfl X.g__law_factorial X.F__law_factorial.kp X.b__law_factorial (DV.qa_cons (DV.q_var (L2.pv 1)) DV.qa_nil)) DV.qa_nil))))
    (DV.ss_one (DV.s_if (DV.qt_cmp (DV.op_neDD (DV.hu64 hr)) (DV.rd (DV.q_call (ok_numbered_order X) (hr.mono (by decide)) rfl X.g_numbered_order X.F_numbered_order.kp X.b_numbered_order (DV.qa_cons (DV.q_var (L2.pv 1)) (DV.qa_cons (DV.q_var (L2.pv 5)) DV.qa_nil)))) (DV.rd (DV.q_call (ok__law_numbered X) (hr.mono (by decide)) rfl X.g__law_numbered X.F__law_numbered.kp X.b__law_numbered (DV.qa_cons (DV.q_var (L2.pv 1)) (DV.qa_cons (DV.q_var (L2.pv 5)) DV.qa_nil))))) (DV.ss_one (DV.s_ret (DV.q_c L2.pe_bl))) DV.ss_nil))) DV.ss_nil)
    (DV.ss_one (DV.s_retF (DV.f_callO (i := 0) (ok__law_are_refused X TB) (hr.mono (by decide)) rfl X.g__law_are_refused X.F__law_are_refused.kp X.b__law_are_refused (L2.pv 0) (DV.efa DV.qa_nil))))))))))))))))))

abbrev N_law : List PySem.Str := (["script", "hand", "turn"] : List PySem.Str)
theorem sc_law : L2.FnScope N_law (["script"] : List PySem.Str) (L2.defScope s_law) := ⟨rfl, rfl, rfl, by decide +kernel, rfl, by decide +kernel, by decide +kernel⟩
def m_law (a : Ad) : DV.AE → Option DV.Fl := (DV.sRetF (DV.gCB DV.mAll (DV.gCons (DV.gLC (DV.qi (DV.fR1 (DV.fCons (DV.fC (.int 4)) DV.fNil))) ([2] : List Nat) (DV.pName 2) (fun _ => some true) (DV.gCallO 1 0 (G__law_is_right a) (DV.qa DV.fNil))) DV.gNil)))
theorem ok_law (X : Fx K mg cl a) (TB : LamX.TabB base mg a.lc a.lP) {good : List Int → Prop} (hm : ∀ ns, good ns → ∃ A', m_law a (none :: some (.own true (DV.hand0 74419 62 ns)) :: List.replicate (N_law.length - 2) none) = some (.rt (.bl true) A')) : L2.FnOk P w K mg base (L2.CX P w) 12 a.f_law a.d_law (["script"] : List PySem.Str) (DV.spLaw K good) :=
  DV.fn_law (cl := cl) X.F_law sc_law (by decide) rfl (fun A outer s H E hr => by exact (DV.s_hand (ok__law_hand X) (hr.mono (by decide)) rfl X.g__law_hand X.F__law_hand.kp X.b__law_hand (L2.pv 0) sc_law.nd rfl (by first | exact Or.inl rfl | exact Or.inr rfl))) (fun A outer s H E H0 B0 M hr => by exact ((DV.ss_one (DV.s_retF (DV.f_callB (DV.c_all rfl) rfl X.z_all bo_all (DV.fa_cons (DV.f_lc (own := [("turn", 2)]) rfl sc_law.nd (DV.ei (DV.i_rng1 rfl X.z_range (DV.qa_cons (DV.q_c L2.pe_int) DV.qa_nil))) (L2.blkOk_by (N := N_law) (own := [("turn", 2)]) (by kernel_rfl)) (fun _ _ _ _ _ => (DV.g_name (i := 2) sc_law.nd rfl (by first | exact Or.inl rfl | exact Or.inr rfl))) (fun _ _ _ _ _ => DV.qts_nil) (fun _ _ _ _ _ => (DV.f_callO (i := 1) (ok__law_is_right X TB) (hr.mono (by decide)) rfl X.g__law_is_right X.F__law_is_right.kp X.b__law_is_right (L2.pv 1) (DV.efa DV.qa_nil)))) DV.fa_nil)))))) hm
end W74

namespace P74
open PySem L2
/-! # codes, in plain Lean -/
def codeL : List Int → List Int
  | [] => []
  | x :: r => ((r.filter fun y => decide (y < x)).length : Int) :: codeL r
def obc : List Int → List Int → List Int
  | _, [] => []
  | L, c :: cs => (L.getD c.toNat 0) :: obc (L.eraseIdx c.toNat) cs
def valid : List Int → Prop
  | [] => True
  | c :: cs => 0 ≤ c ∧ c < (cs.length : Int) + 1 ∧ valid cs
def fac : Nat → Int
  | 0 => 1
  | n + 1 => fac n * ((n : Int) + 1)
def num : List Int → Int
  | [] => 0
  | c :: cs => c * fac cs.length + num cs
theorem fac_pos : ∀ n, 0 < fac n
  | 0 => by decide
  | n + 1 => Int.mul_pos (fac_pos n) (by omega)
theorem codeL_len : ∀ p : List Int, (codeL p).length = p.length
  | [] => rfl
  | x :: r => by simp [codeL, codeL_len r]
theorem codeL_valid : ∀ p : List Int, valid (codeL p)
  | [] => trivial
  | x :: r => by
    refine ⟨by omega, ?_, codeL_valid r⟩
    rw [codeL_len]
    have := List.length_filter_le (fun y => decide (y < x)) r
    omega
abbrev Sd (L : List Int) : Prop := L.Pairwise (· < ·)
theorem Sd.erase {L : List Int} (h : Sd L) (i : Nat) : Sd (L.eraseIdx i) := h.sublist (List.eraseIdx_sublist L i)
theorem count_less {L : List Int} (h : Sd L) : ∀ (i : Nat) (x : Int), L[i]? = some x → ((L.eraseIdx i).filter fun y => decide (y < x)).length = i := by
  induction L with
  | nil => intro i x e; simp at e
  | cons a L ih =>
    intro i x e
    have h := List.pairwise_cons.mp h
    cases i with
    | zero =>
      simp at e; subst e
      rw [List.eraseIdx_cons_zero, List.length_eq_zero_iff, List.filter_eq_nil_iff]
      intro y hy
      have := h.1 y hy
      simp; omega
    | succ i =>
      have e' : L[i]? = some x := by simpa using e
      rw [List.eraseIdx_cons_succ, List.filter_cons_of_pos, List.length_cons, ih h.2 i x e']
      have := h.1 x (List.mem_of_getElem? e')
      simpa using this
theorem perm_erase {L : List Int} : ∀ (i : Nat) (x : Int), L[i]? = some x → (x :: L.eraseIdx i).Perm L := by
  induction L with
  | nil => intro i x e; simp at e
  | cons a L ih =>
    intro i x e
    cases i with
    | zero => simp at e; subst e; exact .refl _
    | succ i =>
      rw [List.eraseIdx_cons_succ]
      exact (List.Perm.swap a x _).trans ((ih i x (by simpa using e)).cons a)
theorem len_erase {L : List Int} {i n : Nat} (h : i < L.length) (e : L.length = n + 1) : (L.eraseIdx i).length = n := by
  rw [List.length_eraseIdx_of_lt h]; omega
theorem obc_ok : ∀ (cs L : List Int), Sd L → L.length = cs.length → valid cs → (obc L cs).Perm L ∧ codeL (obc L cs) = cs
  | [], L, _, hl, _ => by
    have : L = [] := List.eq_nil_of_length_eq_zero hl
    subst this; exact ⟨.refl _, rfl⟩
  | c :: cs, L, hs, hl, ⟨h0, h1, hv⟩ => by
    have hi : c.toNat < L.length := by rw [hl, List.length_cons]; omega
    have e : L[c.toNat]? = some (L.getD c.toNat 0) := by rw [List.getD_eq_getElem?_getD, List.getElem?_eq_getElem hi]; rfl
    obtain ⟨i1, i2⟩ := obc_ok cs (L.eraseIdx c.toNat) (hs.erase _) (len_erase hi hl) hv
    refine ⟨(i1.cons _).trans (perm_erase _ _ e), ?_⟩
    show (((obc (L.eraseIdx c.toNat) cs).filter fun y => decide (y < L.getD c.toNat 0)).length : Int) :: codeL (obc (L.eraseIdx c.toNat) cs) = c :: cs
    rw [i2, (i1.filter _).length_eq, count_less hs _ _ e]
    congr 1
    omega
theorem obc_len (cs L : List Int) : (obc L cs).length = cs.length := by
  induction cs generalizing L with
  | nil => rfl
  | cons c cs ih => simp [obc, ih]
theorem obc_code : ∀ (p L : List Int), Sd L → p.Perm L → obc L (codeL p) = p
  | [], L, _, hp => rfl
  | x :: r, L, hs, hp => by
    have hx : x ∈ L := hp.subset List.mem_cons_self
    obtain ⟨i, hi⟩ := List.getElem?_of_mem hx
    have pe := perm_erase i x hi
    have pr : r.Perm (L.eraseIdx i) := List.Perm.cons_inv (hp.trans pe.symm)
    have hc : ((r.filter fun y => decide (y < x)).length : Int).toNat = i := by
      rw [Int.toNat_natCast, (pr.filter _).length_eq, count_less hs i x hi]
    show L.getD ((r.filter fun y => decide (y < x)).length : Int).toNat 0 :: obc (L.eraseIdx ((r.filter fun y => decide (y < x)).length : Int).toNat) (codeL r) = x :: r
    rw [hc, obc_code r _ (hs.erase i) pr, List.getD_eq_getElem?_getD, hi]; rfl
/-! ## numbers of codes -/
theorem num_bound : ∀ cs : List Int, valid cs → 0 ≤ num cs ∧ num cs < fac cs.length
  | [], _ => by decide
  | c :: cs, ⟨h0, h1, hv⟩ => by
    obtain ⟨i0, i1⟩ := num_bound cs hv
    have fp := fac_pos cs.length
    have a := Int.mul_nonneg h0 (Int.le_of_lt fp)
    have b : c * fac cs.length ≤ (cs.length : Int) * fac cs.length := Int.mul_le_mul_of_nonneg_right (by omega) (Int.le_of_lt fp)
    refine ⟨by show 0 ≤ c * fac cs.length + num cs; omega, ?_⟩
    show c * fac cs.length + num cs < fac cs.length * ((cs.length : Int) + 1)
    rw [Int.mul_add, Int.mul_one, Int.mul_comm (fac cs.length)]
    omega
theorem num_lex : ∀ cs ds : List Int, cs.length = ds.length → valid cs → valid ds → num cs < num ds → HT.lexLt cs ds = true
  | [], [], _, _, _, h => by exact absurd h (by decide)
  | [], d :: ds, hl, _, _, _ => by simp at hl
  | c :: cs, [], hl, _, _, _ => by simp at hl
  | c :: cs, d :: ds, hl, ⟨h0, h1, hv⟩, ⟨k0, k1, kv⟩, h => by
    have hl' : cs.length = ds.length := by simpa using hl
    rw [HT.lexLt_cons]
    have h' : c * fac cs.length + num cs < d * fac ds.length + num ds := h
    rw [hl'] at h'
    obtain ⟨a0, a1⟩ := num_bound cs hv
    obtain ⟨b0, b1⟩ := num_bound ds kv
    have fp := fac_pos ds.length
    by_cases e : c = d
    · subst e
      rw [if_pos rfl]
      exact num_lex cs ds hl' hv kv (by omega)
    · rw [if_neg e, decide_eq_true_eq]
      refine Classical.byContradiction fun n => ?_
      have : (d + 1) * fac ds.length ≤ c * fac ds.length := Int.mul_le_mul_of_nonneg_right (by omega) (Int.le_of_lt fp)
      rw [Int.add_mul, Int.one_mul] at this
      omega
theorem num_inj : ∀ cs ds : List Int, cs.length = ds.length → valid cs → valid ds → num cs = num ds → cs = ds
  | [], [], _, _, _, h => rfl
  | [], d :: ds, hl, _, _, _ => by simp at hl
  | c :: cs, [], hl, _, _, _ => by simp at hl
  | c :: cs, d :: ds, hl, ⟨h0, h1, hv⟩, ⟨k0, k1, kv⟩, h => by
    have hl' : cs.length = ds.length := by simpa using hl
    have h' : c * fac cs.length + num cs = d * fac ds.length + num ds := h
    rw [hl'] at h'
    obtain ⟨a0, a1⟩ := num_bound cs hv
    obtain ⟨b0, b1⟩ := num_bound ds kv
    have fp := fac_pos ds.length
    rw [hl'] at a1
    have e : c = d := by
      rcases Int.lt_trichotomy c d with q | q | q
      · have : (c + 1) * fac ds.length ≤ d * fac ds.length := Int.mul_le_mul_of_nonneg_right (by omega) (Int.le_of_lt fp)
        rw [Int.add_mul, Int.one_mul] at this
        omega
      · exact q
      · have : (d + 1) * fac ds.length ≤ c * fac ds.length := Int.mul_le_mul_of_nonneg_right (by omega) (Int.le_of_lt fp)
        rw [Int.add_mul, Int.one_mul] at this
        omega
    subst e
    rw [num_inj cs ds hl' hv kv (by omega)]
theorem obc_lex : ∀ (cs ds L : List Int), Sd L → L.length = cs.length → cs.length = ds.length → valid cs → valid ds → HT.lexLt cs ds = true → HT.lexLt (obc L cs) (obc L ds) = true
  | [], [], L, _, _, _, _, _, h => by cases h
  | [], d :: ds, L, _, _, hl, _, _, _ => by simp at hl
  | c :: cs, [], L, _, _, hl, _, _, _ => by simp at hl
  | c :: cs, d :: ds, L, hs, hL, hl, ⟨h0, h1, hv⟩, ⟨k0, k1, kv⟩, h => by
    have hl' : cs.length = ds.length := by simpa using hl
    rw [HT.lexLt_cons] at h
    have hc : c.toNat < L.length := by rw [hL, List.length_cons]; omega
    have hd : d.toNat < L.length := by rw [hL, List.length_cons]; omega
    show HT.lexLt (L.getD c.toNat 0 :: obc (L.eraseIdx c.toNat) cs) (L.getD d.toNat 0 :: obc (L.eraseIdx d.toNat) ds) = true
    rw [HT.lexLt_cons]
    by_cases e : c = d
    · subst e
      rw [if_pos rfl] at h ⊢
      exact obc_lex cs ds _ (hs.erase _) (len_erase hc hL) hl' hv kv h
    · rw [if_neg e, decide_eq_true_eq] at h
      have lt : L.getD c.toNat 0 < L.getD d.toNat 0 := by
        rw [List.getD_eq_getElem?_getD, List.getD_eq_getElem?_getD, List.getElem?_eq_getElem hc, List.getElem?_eq_getElem hd]
        exact List.pairwise_iff_getElem.mp hs _ _ hc hd (by omega)
      rw [if_neg (by omega), decide_eq_true_eq]
      exact lt
/-! ## digits -/
def dig : Nat → Int → List Int
  | 0, _ => []
  | n + 1, x => (x / fac n) % ((n : Int) + 1) :: dig n x
theorem dig_len : ∀ n x, (dig n x).length = n
  | 0, _ => rfl
  | n + 1, x => by simp [dig, dig_len n x]
theorem dig_valid : ∀ n x, valid (dig n x)
  | 0, _ => trivial
  | n + 1, x => ⟨Int.emod_nonneg _ (by omega), by rw [dig_len]; exact Int.emod_lt_of_pos _ (by omega), dig_valid n x⟩
theorem num_dig : ∀ n x, num (dig n x) = x % fac n
  | 0, x => by show 0 = x % 1; omega
  | n + 1, x => by
    show (x / fac n) % ((n : Int) + 1) * fac (dig n x).length + num (dig n x) = x % (fac n * ((n : Int) + 1))
    rw [dig_len, num_dig n x]
    have fp := fac_pos n
    have e1 := Int.emod_add_mul_ediv x (fac n)
    have e2 := Int.emod_add_mul_ediv (x / fac n) ((n : Int) + 1)
    have e3 : x / fac n / ((n : Int) + 1) = x / (fac n * ((n : Int) + 1)) := Int.ediv_ediv_of_nonneg (Int.le_of_lt fp)
    have e4 := Int.emod_add_mul_ediv x (fac n * ((n : Int) + 1))
    rw [e3] at e2
    have : (x / fac n % ((n : Int) + 1) + ((n : Int) + 1) * (x / (fac n * ((n : Int) + 1)))) * fac n = x / fac n * fac n := by rw [e2]
    rw [Int.add_mul] at this
    have c1 : ((n : Int) + 1) * (x / (fac n * ((n : Int) + 1))) * fac n = fac n * ((n : Int) + 1) * (x / (fac n * ((n : Int) + 1))) := by
      rw [Int.mul_right_comm, Int.mul_comm ((n : Int) + 1) (fac n)]
    rw [c1] at this
    have c2 : x / fac n * fac n = fac n * (x / fac n) := Int.mul_comm _ _
    omega
theorem dig_num (cs : List Int) (h : valid cs) : dig cs.length (num cs) = cs := by
  refine num_inj _ _ (dig_len _ _) (dig_valid _ _) h ?_
  rw [num_dig, Int.emod_eq_of_lt (num_bound cs h).1 (num_bound cs h).2]
/-! ## the first and the last -/
theorem code_rise : ∀ L : List Int, Sd L → num (codeL L) = 0
  | [], _ => rfl
  | x :: r, h => by
    have h := List.pairwise_cons.mp h
    have e : r.filter (fun y => decide (y < x)) = [] := by
      rw [List.filter_eq_nil_iff]; intro y hy; have := h.1 y hy; simp; omega
    show ((r.filter fun y => decide (y < x)).length : Int) * fac (codeL r).length + num (codeL r) = 0
    rw [e, code_rise r h.2]; simp
theorem code_fall : ∀ L : List Int, L.Pairwise (· > ·) → num (codeL L) = fac L.length - 1
  | [], _ => rfl
  | x :: r, h => by
    have h := List.pairwise_cons.mp h
    have e : r.filter (fun y => decide (y < x)) = r := by
      rw [List.filter_eq_self]; intro y hy; have := h.1 y hy; simp; omega
    show ((r.filter fun y => decide (y < x)).length : Int) * fac (codeL r).length + num (codeL r) = fac r.length * ((r.length : Int) + 1) - 1
    rw [e, code_fall r h.2, codeL_len, Int.mul_add, Int.mul_one, Int.mul_comm]; omega
end P74

namespace P74
open PySem L2
/-! # turned pairs of an order and of its inverse -/
abbrev rng (n : Nat) : List Int := (List.range n).map fun i => ((i : Nat) : Int)
def S (n : Nat) (f : Nat → Int) : Int := ((List.range n).map f).sum
theorem S_succ (n : Nat) (f : Nat → Int) : S (n + 1) f = f 0 + S n fun i => f (i + 1) := by
  unfold S
  rw [List.range_succ_eq_map, List.map_cons, List.sum_cons, List.map_map]; rfl
theorem S_zero (f : Nat → Int) : S 0 f = 0 := rfl
theorem S_congr {n : Nat} {f g : Nat → Int} (h : ∀ i, i < n → f i = g i) : S n f = S n g := by
  unfold S
  congr 1
  exact List.map_congr_left fun i hi => h i (List.mem_range.mp hi)
theorem S_add (n : Nat) (f g : Nat → Int) : (S n fun i => f i + g i) = S n f + S n g := by
  induction n generalizing f g with
  | zero => rfl
  | succ n ih => rw [S_succ, S_succ, S_succ, ih]; omega
theorem S_const0 (n : Nat) : (S n fun _ => 0) = 0 := by
  induction n with
  | zero => rfl
  | succ n ih => rw [S_succ, ih]; rfl
theorem S_swap (n m : Nat) (f : Nat → Nat → Int) : (S n fun i => S m fun j => f i j) = S m fun j => S n fun i => f i j := by
  induction n generalizing f with
  | zero => exact (S_const0 m).symm
  | succ n ih =>
    rw [S_succ, ih]
    rw [show (S m fun j => S (n + 1) fun i => f i j) = S m (fun j => f 0 j + S n fun i => f (i + 1) j) from S_congr fun j _ => S_succ n _]
    rw [S_add]
/-- reindexed by an order -/
theorem S_perm {n : Nat} {p : List Int} (hp : p.Perm (rng n)) (f : Nat → Int) : S n f = S n fun i => f (p.getD i 0).toNat := by
  have hl : p.length = n := by rw [hp.length_eq]; simp
  have e1 : S n f = ((rng n).map fun x => f x.toNat).sum := by
    unfold S rng
    rw [List.map_map]; rfl
  have perm_sum : ∀ {l m : List Int}, l.Perm m → l.sum = m.sum := fun h => by
    induction h with
    | nil => rfl
    | cons x _ ih => rw [List.sum_cons, List.sum_cons, ih]
    | swap x y l => rw [List.sum_cons, List.sum_cons, List.sum_cons, List.sum_cons]; omega
    | trans _ _ i1 i2 => rw [i1, i2]
  rw [e1, ← perm_sum (hp.map _)]
  unfold S
  congr 1
  refine List.ext_getElem (by simp [hl]) fun i h1 h2 => ?_
  rw [List.getElem_map, List.getElem_map, List.getElem_range, List.getD_eq_getElem?_getD, List.getElem?_eq_getElem (by simpa using h1)]; rfl
def less (a b : Int) : Int := if a < b then 1 else 0
theorem count_S (r : List Int) (x : Int) : ((r.filter fun y => decide (y < x)).length : Int) = S r.length fun j => less (r.getD j 0) x := by
  induction r with
  | nil => rfl
  | cons a r ih =>
    rw [List.length_cons, S_succ]
    have e : (S r.length fun i => less ((a :: r).getD (i + 1) 0) x) = S r.length fun j => less (r.getD j 0) x := S_congr fun i _ => by rw [List.getD_cons_succ]
    rw [e, ← ih]
    show _ = less a x + _
    by_cases h : a < x
    · rw [List.filter_cons_of_pos (by simpa using h), List.length_cons]
      unfold less; rw [if_pos h]; omega
    · rw [List.filter_cons_of_neg (by simpa using h)]
      unfold less; rw [if_neg h]; omega
def pr (i j : Nat) (a b : Int) : Int := if i < j ∧ b < a then 1 else 0
theorem inv_S : ∀ p : List Int, (codeL p).sum = S p.length fun i => S p.length fun j => pr i j (p.getD i 0) (p.getD j 0)
  | [] => rfl
  | x :: r => by
    show ((r.filter fun y => decide (y < x)).length : Int) + (codeL r).sum = _
    rw [inv_S r, List.length_cons, S_succ, count_S]
    congr 1
    · rw [S_succ]
      have e0 : pr 0 0 ((x :: r).getD 0 0) ((x :: r).getD 0 0) = 0 := by unfold pr; rw [if_neg (by omega)]
      rw [e0, Int.zero_add]
      refine S_congr fun j _ => ?_
      rw [List.getD_cons_succ, List.getD_cons_zero]
      unfold less pr
      by_cases h : r.getD j 0 < x
      · rw [if_pos h, if_pos ⟨by omega, h⟩]
      · rw [if_neg h, if_neg (fun z => h z.2)]
    · refine S_congr fun i _ => ?_
      rw [S_succ]
      have e0 : pr (i + 1) 0 ((x :: r).getD (i + 1) 0) ((x :: r).getD 0 0) = 0 := by unfold pr; rw [if_neg (by omega)]
      rw [e0, Int.zero_add]
      refine S_congr fun j _ => ?_
      rw [List.getD_cons_succ, List.getD_cons_succ]
      unfold pr
      by_cases h : i < j ∧ r.getD j 0 < r.getD i 0
      · rw [if_pos h, if_pos ⟨by omega, h.2⟩]
      · rw [if_neg h, if_neg (fun z => h ⟨by omega, z.2⟩)]
theorem mem_rng {n : Nat} {x : Int} : x ∈ rng n ↔ 0 ≤ x ∧ x < n := by
  rw [List.mem_map]
  constructor
  · rintro ⟨i, hi, rfl⟩
    have := List.mem_range.mp hi; omega
  · intro h; exact ⟨x.toNat, List.mem_range.mpr (by omega), by omega⟩
theorem inv_inverse {n : Nat} {p q : List Int} (hp : p.Perm (rng n)) (hl : q.length = n) (hq : ∀ i, i < n → q.getD (p.getD i 0).toNat 0 = (i : Nat)) : (codeL q).sum = (codeL p).sum := by
  have hpl : p.length = n := by rw [hp.length_eq]; simp
  have pos : ∀ i, i < n → 0 ≤ p.getD i 0 := fun i hi => by
    have : p.getD i 0 ∈ p := by rw [List.getD_eq_getElem?_getD, List.getElem?_eq_getElem (by omega)]; exact List.getElem_mem _
    exact (mem_rng.mp (hp.subset this)).1
  rw [inv_S, inv_S, hl, hpl]
  rw [S_perm hp fun i => S n fun j => pr i j (q.getD i 0) (q.getD j 0)]
  rw [show (S n fun i => S n fun j => pr (p.getD i 0).toNat j (q.getD (p.getD i 0).toNat 0) (q.getD j 0)) = S n (fun i => S n fun j => pr j i (p.getD j 0) (p.getD i 0)) from S_congr fun i hi => by
    rw [S_perm hp fun j => pr (p.getD i 0).toNat j (q.getD (p.getD i 0).toNat 0) (q.getD j 0)]
    refine S_congr fun j hj => ?_
    rw [hq i hi, hq j hj]
    have h1 := pos i hi
    have h2 := pos j hj
    unfold pr
    by_cases h : j < i ∧ p.getD i 0 < p.getD j 0
    · rw [if_pos h, if_pos ⟨by omega, by omega⟩]
    · rw [if_neg h, if_neg (fun z => h ⟨by omega, by omega⟩)]]
  exact S_swap n n _
end P74

namespace W74
open P74 DV
variable [DV.TabC]
abbrev T (ns : List Int) : D := DV.tI' ns
theorem runP_rt {n : Nat} {m : AE → Option Fl} {ds : List D} {d : D} (h : ∃ A, m (entry n ds) = some (.rt d A)) : runP n m ds = some (.ok d) := by
  obtain ⟨A, h⟩ := h
  unfold runP; rw [h]
theorem runP_nx {n : Nat} {m : AE → Option Fl} {ds : List D} (h : ∃ A, m (entry n ds) = some (.nx A)) : runP n m ds = some (.ok .non) := by
  obtain ⟨A, h⟩ := h
  unfold runP; rw [h]
theorem runP_ex {n : Nat} {m : AE → Option Fl} {ds : List D} {c : PySem.Str} {fs} (h : ∃ A, m (entry n ds) = some (.ex c fs A)) : runP n m ds = some (.exc c fs) := by
  obtain ⟨A, h⟩ := h
  unfold runP; rw [h]
theorem all_true {α : Type} (ns : List α) : mAll [.lst (ns.map fun _ => D.bl true)] = some (.bl true) := by
  have : ns.map (fun _ => D.bl true) = (ns.map fun _ => true).map D.bl := by rw [List.map_map]; rfl
  show (blsOf (ns.map fun _ => D.bl true)).map _ = _
  rw [this, blsOf_map]
  show some (D.bl ((ns.map fun _ => true).all id)) = _
  rw [List.all_map]
  simp
theorem v_is_int (i : Int) : G_is_int [.int i] = some (.ok (.bl true)) := rfl
theorem v_is_within (i l g : Int) : G_is_within [.int i, .int l, .int g] = some (.ok (.bl (decide (l ≤ i) && decide (i ≤ g)))) := by
  refine runP_rt ⟨[some (.dat (.int i)), some (.dat (.int l)), some (.dat (.int g))], ?_⟩
  show m_is_within [some (.dat (.int i)), some (.dat (.int l)), some (.dat (.int g))] = _
  unfold m_is_within
  simp only [DV.sSeq, DV.sRet, DV.sRetF, DV.sIf, DV.sIfF, DV.sSet, DV.sSetF, DV.sNil, DV.sExpr, DV.sExprX, DV.sRetX, DV.flX, DV.sRaise, DV.fVar, DV.fOwn, DV.fC, DV.fB, DV.gB, DV.fCB, DV.gCB, DV.fCons, DV.fNil, DV.gCons, DV.gNil, DV.fT, DV.gT, DV.asB_bl, DV.asI_int, DV.fAnd, DV.fOr, DV.fNot, DV.gAnd, DV.gOr, DV.gNot, DV.fAndV, DV.fOrV, DV.fNotV, DV.gAndV, DV.gOrV, DV.fCall, DV.fCallR, DV.gCall, DV.fX, DV.xq, DV.okOf, DV.fTup, DV.fLst, DV.gTupE, DV.gLst, DV.fIf, DV.gIf, DV.qf, DV.qtf, DV.qa, DV.qi, DV.fChain, DV.fSl, DV.fO, DV.fONone, DV.mSl, DV.fSeq, DV.gSeq, DV.seqOf_lst, DV.seqOf_tup, DV.fEnum, DV.nLst, DV.nList, DV.nMul, DV.sOwn, DV.sApp, DV.sPar, DV.sParF, DV.sParOO, DV.sParDO, DV.sAug, DV.mAddI, DV.sFor, DV.sAsg, DV.sAsgF, DV.pName, DV.pNil, DV.pCons, DV.pTup, DV.wipeA, DV.mLen_lst, DV.mLen_tup, DV.mTuple, DV.mList, DV.mInt, DV.mAbs, DV.add_int, DV.mSub, DV.mLt, DV.mLe, DV.mGt, DV.mGe, DV.mRev, DV.fRev, DV.eq_ii, DV.ne_ii, DV.eq_tt, DV.ne_tt, DV.eq_ll, DV.ne_ll, Option.bind_some, Option.map_some, Option.bind_none, Option.map_none, List.getElem?_cons_zero, List.getElem?_cons_succ, List.set_cons_zero, List.set_cons_succ, List.length_cons, List.length_nil, List.length_map, Nat.zero_add, Nat.reduceAdd, ↓reduceIte, Bool.false_eq_true, if_true, if_false, Bool.not_true, Bool.not_false, v_is_int]
  by_cases h : l ≤ i
  · simp [h]
  · simp [h]
theorem isi_tup (xs : List D) : mIsi [.tup xs, .v (.ty "tuple")] = some (.bl true) := rfl
theorem v_is_ints (ns : List Int) (hz : ns.length ≤ 16777216) : G_is_ints [T ns] = some (.ok (.bl true)) := by
  refine runP_rt ⟨[some (.dat (T ns)), none], ?_⟩
  show m_is_ints [some (.dat (T ns)), none] = _
  unfold m_is_ints
  simp only [DV.sSeq, DV.sRet, DV.sRetF, DV.sIf, DV.sIfF, DV.sSet, DV.sSetF, DV.sNil, DV.sExpr, DV.sExprX, DV.sRetX, DV.flX, DV.sRaise, DV.fVar, DV.fOwn, DV.fC, DV.fB, DV.gB, DV.fCB, DV.gCB, DV.fCons, DV.fNil, DV.gCons, DV.gNil, DV.fT, DV.gT, DV.asB_bl, DV.asI_int, DV.fAnd, DV.fOr, DV.fNot, DV.gAnd, DV.gOr, DV.gNot, DV.fAndV, DV.fOrV, DV.fNotV, DV.gAndV, DV.gOrV, DV.fCall, DV.fCallR, DV.gCall, DV.fX, DV.xq, DV.okOf, DV.fTup, DV.fLst, DV.gTupE, DV.gLst, DV.fIf, DV.gIf, DV.qf, DV.qtf, DV.qa, DV.qi, DV.fChain, DV.fSl, DV.fO, DV.fONone, DV.mSl, DV.fSeq, DV.gSeq, DV.seqOf_lst, DV.seqOf_tup, DV.fEnum, DV.nLst, DV.nList, DV.nMul, DV.sOwn, DV.sApp, DV.sPar, DV.sParF, DV.sParOO, DV.sParDO, DV.sAug, DV.mAddI, DV.sFor, DV.sAsg, DV.sAsgF, DV.pName, DV.pNil, DV.pCons, DV.pTup, DV.wipeA, DV.mLen_lst, DV.mLen_tup, DV.mTuple, DV.mList, DV.mInt, DV.mAbs, DV.add_int, DV.mSub, DV.mLt, DV.mLe, DV.mGt, DV.mGe, DV.mRev, DV.fRev, DV.eq_ii, DV.ne_ii, DV.eq_tt, DV.ne_tt, DV.eq_ll, DV.ne_ll, Option.bind_some, Option.map_some, Option.bind_none, Option.map_none, List.getElem?_cons_zero, List.getElem?_cons_succ, List.set_cons_zero, List.set_cons_succ, List.length_cons, List.length_nil, List.length_map, Nat.zero_add, Nat.reduceAdd, ↓reduceIte, Bool.false_eq_true, if_true, if_false, Bool.not_true, Bool.not_false, isi_tup]
  rw [fLC_map ns D.int (fun _ => .bl true) rfl hz fun i _ => ⟨_, rfl, rfl, rfl⟩]
  simp only [DV.sSeq, DV.sRet, DV.sRetF, DV.sIf, DV.sIfF, DV.sSet, DV.sSetF, DV.sNil, DV.sExpr, DV.sExprX, DV.sRetX, DV.flX, DV.sRaise, DV.fVar, DV.fOwn, DV.fC, DV.fB, DV.gB, DV.fCB, DV.gCB, DV.fCons, DV.fNil, DV.gCons, DV.gNil, DV.fT, DV.gT, DV.asB_bl, DV.asI_int, DV.fAnd, DV.fOr, DV.fNot, DV.gAnd, DV.gOr, DV.gNot, DV.fAndV, DV.fOrV, DV.fNotV, DV.gAndV, DV.gOrV, DV.fCall, DV.fCallR, DV.gCall, DV.fX, DV.xq, DV.okOf, DV.fTup, DV.fLst, DV.gTupE, DV.gLst, DV.fIf, DV.gIf, DV.qf, DV.qtf, DV.qa, DV.qi, DV.fChain, DV.fSl, DV.fO, DV.fONone, DV.mSl, DV.fSeq, DV.gSeq, DV.seqOf_lst, DV.seqOf_tup, DV.fEnum, DV.nLst, DV.nList, DV.nMul, DV.sOwn, DV.sApp, DV.sPar, DV.sParF, DV.sParOO, DV.sParDO, DV.sAug, DV.mAddI, DV.sFor, DV.sAsg, DV.sAsgF, DV.pName, DV.pNil, DV.pCons, DV.pTup, DV.wipeA, DV.mLen_lst, DV.mLen_tup, DV.mTuple, DV.mList, DV.mInt, DV.mAbs, DV.add_int, DV.mSub, DV.mLt, DV.mLe, DV.mGt, DV.mGe, DV.mRev, DV.fRev, DV.eq_ii, DV.ne_ii, DV.eq_tt, DV.ne_tt, DV.eq_ll, DV.ne_ll, Option.bind_some, Option.map_some, Option.bind_none, Option.map_none, List.getElem?_cons_zero, List.getElem?_cons_succ, List.set_cons_zero, List.set_cons_succ, List.length_cons, List.length_nil, List.length_map, Nat.zero_add, Nat.reduceAdd, ↓reduceIte, Bool.false_eq_true, if_true, if_false, Bool.not_true, Bool.not_false, all_true]
theorem v_check_within {i l g : Int} (h1 : l ≤ i) (h2 : i ≤ g) : G_check_within [.int i, .int l, .int g] = some (.ok .non) := by
  refine runP_nx ⟨[some (.dat (.int i)), some (.dat (.int l)), some (.dat (.int g))], ?_⟩
  show m_check_within [some (.dat (.int i)), some (.dat (.int l)), some (.dat (.int g))] = _
  unfold m_check_within
  simp only [DV.sSeq, DV.sRet, DV.sRetF, DV.sIf, DV.sIfF, DV.sSet, DV.sSetF, DV.sNil, DV.sExpr, DV.sExprX, DV.sRetX, DV.flX, DV.sRaise, DV.fVar, DV.fOwn, DV.fC, DV.fB, DV.gB, DV.fCB, DV.gCB, DV.fCons, DV.fNil, DV.gCons, DV.gNil, DV.fT, DV.gT, DV.asB_bl, DV.asI_int, DV.fAnd, DV.fOr, DV.fNot, DV.gAnd, DV.gOr, DV.gNot, DV.fAndV, DV.fOrV, DV.fNotV, DV.gAndV, DV.gOrV, DV.fCall, DV.fCallR, DV.gCall, DV.fX, DV.xq, DV.okOf, DV.fTup, DV.fLst, DV.gTupE, DV.gLst, DV.fIf, DV.gIf, DV.qf, DV.qtf, DV.qa, DV.qi, DV.fChain, DV.fSl, DV.fO, DV.fONone, DV.mSl, DV.fSeq, DV.gSeq, DV.seqOf_lst, DV.seqOf_tup, DV.fEnum, DV.nLst, DV.nList, DV.nMul, DV.sOwn, DV.sApp, DV.sPar, DV.sParF, DV.sParOO, DV.sParDO, DV.sAug, DV.mAddI, DV.sFor, DV.sAsg, DV.sAsgF, DV.pName, DV.pNil, DV.pCons, DV.pTup, DV.wipeA, DV.mLen_lst, DV.mLen_tup, DV.mTuple, DV.mList, DV.mInt, DV.mAbs, DV.add_int, DV.mSub, DV.mLt, DV.mLe, DV.mGt, DV.mGe, DV.mRev, DV.fRev, DV.eq_ii, DV.ne_ii, DV.eq_tt, DV.ne_tt, DV.eq_ll, DV.ne_ll, Option.bind_some, Option.map_some, Option.bind_none, Option.map_none, List.getElem?_cons_zero, List.getElem?_cons_succ, List.set_cons_zero, List.set_cons_succ, List.length_cons, List.length_nil, List.length_map, Nat.zero_add, Nat.reduceAdd, ↓reduceIte, Bool.false_eq_true, if_true, if_false, Bool.not_true, Bool.not_false, v_is_within]
  simp [h1, h2]
theorem v_check_within_no {i l g : Int} (h : ¬ (l ≤ i ∧ i ≤ g)) : G_check_within [.int i, .int l, .int g] = some (.exc "NoNumber" []) := by
  refine runP_ex ⟨[some (.dat (.int i)), some (.dat (.int l)), some (.dat (.int g))], ?_⟩
  show m_check_within [some (.dat (.int i)), some (.dat (.int l)), some (.dat (.int g))] = _
  unfold m_check_within
  simp only [DV.sSeq, DV.sRet, DV.sRetF, DV.sIf, DV.sIfF, DV.sSet, DV.sSetF, DV.sNil, DV.sExpr, DV.sExprX, DV.sRetX, DV.flX, DV.sRaise, DV.fVar, DV.fOwn, DV.fC, DV.fB, DV.gB, DV.fCB, DV.gCB, DV.fCons, DV.fNil, DV.gCons, DV.gNil, DV.fT, DV.gT, DV.asB_bl, DV.asI_int, DV.fAnd, DV.fOr, DV.fNot, DV.gAnd, DV.gOr, DV.gNot, DV.fAndV, DV.fOrV, DV.fNotV, DV.gAndV, DV.gOrV, DV.fCall, DV.fCallR, DV.gCall, DV.fX, DV.xq, DV.okOf, DV.fTup, DV.fLst, DV.gTupE, DV.gLst, DV.fIf, DV.gIf, DV.qf, DV.qtf, DV.qa, DV.qi, DV.fChain, DV.fSl, DV.fO, DV.fONone, DV.mSl, DV.fSeq, DV.gSeq, DV.seqOf_lst, DV.seqOf_tup, DV.fEnum, DV.nLst, DV.nList, DV.nMul, DV.sOwn, DV.sApp, DV.sPar, DV.sParF, DV.sParOO, DV.sParDO, DV.sAug, DV.mAddI, DV.sFor, DV.sAsg, DV.sAsgF, DV.pName, DV.pNil, DV.pCons, DV.pTup, DV.wipeA, DV.mLen_lst, DV.mLen_tup, DV.mTuple, DV.mList, DV.mInt, DV.mAbs, DV.add_int, DV.mSub, DV.mLt, DV.mLe, DV.mGt, DV.mGe, DV.mRev, DV.fRev, DV.eq_ii, DV.ne_ii, DV.eq_tt, DV.ne_tt, DV.eq_ll, DV.ne_ll, Option.bind_some, Option.map_some, Option.bind_none, Option.map_none, List.getElem?_cons_zero, List.getElem?_cons_succ, List.set_cons_zero, List.set_cons_succ, List.length_cons, List.length_nil, List.length_map, Nat.zero_add, Nat.reduceAdd, ↓reduceIte, Bool.false_eq_true, if_true, if_false, Bool.not_true, Bool.not_false, v_is_within]
  have e : (decide (l ≤ i) && decide (i ≤ g)) = false := by
    rw [← Bool.decide_and]; exact decide_eq_false h
  rw [e]
  rfl
/-- an order of 0 .. n - 1 -/
structure Ord' (n : Nat) (p : List Int) : Prop where
  n1 : 1 ≤ n
  n60 : n ≤ 60
  pe : p.Perm (DV.rng n)
theorem Ord'.len {n : Nat} {p : List Int} (h : Ord' n p) : p.length = n := by rw [h.pe.length_eq]; simp
theorem rng_sd (n : Nat) : Sd (DV.rng n) := by
  show List.Pairwise _ _
  rw [List.pairwise_map]
  exact List.pairwise_lt_range.imp fun h => by omega
theorem rng_len (n : Nat) : (DV.rng n).length = n := by simp
theorem sorted_ord {n : Nat} {p : List Int} (h : Ord' n p) : mSorted [T p] = some (.lst ((DV.rng n).map D.int)) := by
  show (intsOf (p.map D.int)).bind _ = _
  rw [intsOf_map, Option.bind_some, if_pos (by rw [decide_eq_true_eq, h.len]; have := h.n60; omega)]
  rw [← sortI_eq h.pe.symm ((rng_sd n).imp fun h => Int.le_of_lt h)]
theorem v_is_order {n : Nat} {p : List Int} (h : Ord' n p) : G_is_order [T p] = some (.ok (.bl true)) := by
  have hl := h.len
  have h1 := h.n1
  have h2 := h.n60
  refine runP_rt ⟨[some (.dat (T p))], ?_⟩
  show m_is_order [some (.dat (T p))] = _
  unfold m_is_order
  have e1 : decide ((1 : Int) ≤ (n : Int)) = true := by rw [decide_eq_true_eq]; omega
  have e2 : decide ((n : Int) ≤ 60) = true := by rw [decide_eq_true_eq]; omega
  have e3 := v_is_ints p (by omega)
  have e5 := sorted_ord h
  have e6 : fLR (fG1 (fCB mLen (fCons (fVar 0) fNil))) [some (.dat (T p))] = some (.lst ((DV.rng n).map D.int)) := fLR_n (by rw [← hl]; simp only [DV.sSeq, DV.sRet, DV.sRetF, DV.sIf, DV.sIfF, DV.sSet, DV.sSetF, DV.sNil, DV.sExpr, DV.sExprX, DV.sRetX, DV.flX, DV.sRaise, DV.fVar, DV.fOwn, DV.fC, DV.fB, DV.gB, DV.fCB, DV.gCB, DV.fCons, DV.fNil, DV.gCons, DV.gNil, DV.fT, DV.gT, DV.asB_bl, DV.asI_int, DV.fAnd, DV.fOr, DV.fNot, DV.gAnd, DV.gOr, DV.gNot, DV.fAndV, DV.fOrV, DV.fNotV, DV.gAndV, DV.gOrV, DV.fCall, DV.fCallR, DV.gCall, DV.fX, DV.xq, DV.okOf, DV.fTup, DV.fLst, DV.gTupE, DV.gLst, DV.fIf, DV.gIf, DV.qf, DV.qtf, DV.qa, DV.qi, DV.fChain, DV.fSl, DV.fO, DV.fONone, DV.mSl, DV.fSeq, DV.gSeq, DV.seqOf_lst, DV.seqOf_tup, DV.fEnum, DV.nLst, DV.nList, DV.nMul, DV.sOwn, DV.sApp, DV.sPar, DV.sParF, DV.sParOO, DV.sParDO, DV.sAug, DV.mAddI, DV.sFor, DV.sAsg, DV.sAsgF, DV.pName, DV.pNil, DV.pCons, DV.pTup, DV.wipeA, DV.mLen_lst, DV.mLen_tup, DV.mTuple, DV.mList, DV.mInt, DV.mAbs, DV.add_int, DV.mSub, DV.mLt, DV.mLe, DV.mGt, DV.mGe, DV.mRev, DV.fRev, DV.eq_ii, DV.ne_ii, DV.eq_tt, DV.ne_tt, DV.eq_ll, DV.ne_ll, Option.bind_some, Option.map_some, Option.bind_none, Option.map_none, List.getElem?_cons_zero, List.getElem?_cons_succ, List.set_cons_zero, List.set_cons_succ, List.length_cons, List.length_nil, List.length_map, Nat.zero_add, Nat.reduceAdd, ↓reduceIte, Bool.false_eq_true, if_true, if_false, Bool.not_true, Bool.not_false]) (by omega)
  simp only [DV.sSeq, DV.sRet, DV.sRetF, DV.sIf, DV.sIfF, DV.sSet, DV.sSetF, DV.sNil, DV.sExpr, DV.sExprX, DV.sRetX, DV.flX, DV.sRaise, DV.fVar, DV.fOwn, DV.fC, DV.fB, DV.gB, DV.fCB, DV.gCB, DV.fCons, DV.fNil, DV.gCons, DV.gNil, DV.fT, DV.gT, DV.asB_bl, DV.asI_int, DV.fAnd, DV.fOr, DV.fNot, DV.gAnd, DV.gOr, DV.gNot, DV.fAndV, DV.fOrV, DV.fNotV, DV.gAndV, DV.gOrV, DV.fCall, DV.fCallR, DV.gCall, DV.fX, DV.xq, DV.okOf, DV.fTup, DV.fLst, DV.gTupE, DV.gLst, DV.fIf, DV.gIf, DV.qf, DV.qtf, DV.qa, DV.qi, DV.fChain, DV.fSl, DV.fO, DV.fONone, DV.mSl, DV.fSeq, DV.gSeq, DV.seqOf_lst, DV.seqOf_tup, DV.fEnum, DV.nLst, DV.nList, DV.nMul, DV.sOwn, DV.sApp, DV.sPar, DV.sParF, DV.sParOO, DV.sParDO, DV.sAug, DV.mAddI, DV.sFor, DV.sAsg, DV.sAsgF, DV.pName, DV.pNil, DV.pCons, DV.pTup, DV.wipeA, DV.mLen_lst, DV.mLen_tup, DV.mTuple, DV.mList, DV.mInt, DV.mAbs, DV.add_int, DV.mSub, DV.mLt, DV.mLe, DV.mGt, DV.mGe, DV.mRev, DV.fRev, DV.eq_ii, DV.ne_ii, DV.eq_tt, DV.ne_tt, DV.eq_ll, DV.ne_ll, Option.bind_some, Option.map_some, Option.bind_none, Option.map_none, List.getElem?_cons_zero, List.getElem?_cons_succ, List.set_cons_zero, List.set_cons_succ, List.length_cons, List.length_nil, List.length_map, Nat.zero_add, Nat.reduceAdd, ↓reduceIte, Bool.false_eq_true, if_true, if_false, Bool.not_true, Bool.not_false, e3, hl, e1, e2, e5, e6]
  simp
theorem v_check_order {n : Nat} {p : List Int} (h : Ord' n p) : G_check_order [T p] = some (.ok .non) := by
  refine runP_nx ⟨[some (.dat (T p))], ?_⟩
  show m_check_order [some (.dat (T p))] = _
  unfold m_check_order
  simp only [DV.sSeq, DV.sRet, DV.sRetF, DV.sIf, DV.sIfF, DV.sSet, DV.sSetF, DV.sNil, DV.sExpr, DV.sExprX, DV.sRetX, DV.flX, DV.sRaise, DV.fVar, DV.fOwn, DV.fC, DV.fB, DV.gB, DV.fCB, DV.gCB, DV.fCons, DV.fNil, DV.gCons, DV.gNil, DV.fT, DV.gT, DV.asB_bl, DV.asI_int, DV.fAnd, DV.fOr, DV.fNot, DV.gAnd, DV.gOr, DV.gNot, DV.fAndV, DV.fOrV, DV.fNotV, DV.gAndV, DV.gOrV, DV.fCall, DV.fCallR, DV.gCall, DV.fX, DV.xq, DV.okOf, DV.fTup, DV.fLst, DV.gTupE, DV.gLst, DV.fIf, DV.gIf, DV.qf, DV.qtf, DV.qa, DV.qi, DV.fChain, DV.fSl, DV.fO, DV.fONone, DV.mSl, DV.fSeq, DV.gSeq, DV.seqOf_lst, DV.seqOf_tup, DV.fEnum, DV.nLst, DV.nList, DV.nMul, DV.sOwn, DV.sApp, DV.sPar, DV.sParF, DV.sParOO, DV.sParDO, DV.sAug, DV.mAddI, DV.sFor, DV.sAsg, DV.sAsgF, DV.pName, DV.pNil, DV.pCons, DV.pTup, DV.wipeA, DV.mLen_lst, DV.mLen_tup, DV.mTuple, DV.mList, DV.mInt, DV.mAbs, DV.add_int, DV.mSub, DV.mLt, DV.mLe, DV.mGt, DV.mGe, DV.mRev, DV.fRev, DV.eq_ii, DV.ne_ii, DV.eq_tt, DV.ne_tt, DV.eq_ll, DV.ne_ll, Option.bind_some, Option.map_some, Option.bind_none, Option.map_none, List.getElem?_cons_zero, List.getElem?_cons_succ, List.set_cons_zero, List.set_cons_succ, List.length_cons, List.length_nil, List.length_map, Nat.zero_add, Nat.reduceAdd, ↓reduceIte, Bool.false_eq_true, if_true, if_false, Bool.not_true, Bool.not_false, v_is_order h]
end W74

namespace W74
open P74 DV
variable [DV.TabC]
theorem code_range : ∀ (r pre : List Int), ((List.range' pre.length r.length).zip r).map (fun p => ((((pre ++ r).drop p.1).filter fun y => decide (y < p.2)).length : Int)) = codeL r
  | [], pre => rfl
  | x :: r, pre => by
    have ih := code_range r (pre ++ [x])
    rw [List.append_assoc, List.singleton_append, List.length_append, List.length_singleton] at ih
    rw [List.length_cons, List.range'_succ, List.zip_cons_cons, List.map_cons, ih]
    show _ :: codeL r = _ :: codeL r
    congr 1
    rw [List.drop_left, List.filter_cons_of_neg (by simp)]
theorem code_enum (ns : List Int) : ((List.range ns.length).zip ns).map (fun p => (((ns.drop p.1).filter fun y => decide (y < p.2)).length : Int)) = codeL ns := by
  have := code_range ns []
  rw [List.range_eq_range']
  exact this
theorem v_codes {i0 : Nat} (ns : List Int) (hz : ns.length ≤ 1000) : fLC (fEnum (fCons (fVar 0) fNil)) ([1, 2] : List Nat) (pTup 2 (pCons (pName 1) (pCons (pName 2) pNil))) (fun _ => some true) (fCB mLen (fCons (fLC (fSeq (fSl (fVar 0) (fO (fVar 1)) fONone)) ([3] : List Nat) (pName 3) (fT (fB mLt (fVar 3) (fVar 2))) (fVar 3)) fNil)) [some (.dat (T ns)), none, none, none] = some (.lst ((codeL ns).map D.int)) := by
  rw [fLC_map ((List.range ns.length).zip ns) (fun p => .tup [.int (p.1 : Nat), .int p.2]) (fun p => .int (((ns.drop p.1).filter fun y => decide (y < p.2)).length : Int)) (by simp only [DV.sSeq, DV.sRet, DV.sRetF, DV.sIf, DV.sIfF, DV.sSet, DV.sSetF, DV.sNil, DV.sExpr, DV.sExprX, DV.sRetX, DV.flX, DV.sRaise, DV.fVar, DV.fOwn, DV.fC, DV.fB, DV.gB, DV.fCB, DV.gCB, DV.fCons, DV.fNil, DV.gCons, DV.gNil, DV.fT, DV.gT, DV.asB_bl, DV.asI_int, DV.fAnd, DV.fOr, DV.fNot, DV.gAnd, DV.gOr, DV.gNot, DV.fAndV, DV.fOrV, DV.fNotV, DV.gAndV, DV.gOrV, DV.fCall, DV.fCallR, DV.gCall, DV.fX, DV.xq, DV.okOf, DV.fTup, DV.fLst, DV.gTupE, DV.gLst, DV.fIf, DV.gIf, DV.qf, DV.qtf, DV.qa, DV.qi, DV.fChain, DV.fSl, DV.fO, DV.fONone, DV.mSl, DV.fSeq, DV.gSeq, DV.seqOf_lst, DV.seqOf_tup, DV.fEnum, DV.nLst, DV.nList, DV.nMul, DV.sOwn, DV.sApp, DV.sPar, DV.sParF, DV.sParOO, DV.sParDO, DV.sAug, DV.mAddI, DV.sFor, DV.sAsg, DV.sAsgF, DV.pName, DV.pNil, DV.pCons, DV.pTup, DV.wipeA, DV.mLen_lst, DV.mLen_tup, DV.mTuple, DV.mList, DV.mInt, DV.mAbs, DV.add_int, DV.mSub, DV.mLt, DV.mLe, DV.mGt, DV.mGe, DV.mRev, DV.fRev, DV.eq_ii, DV.ne_ii, DV.eq_tt, DV.ne_tt, DV.eq_ll, DV.ne_ll, Option.bind_some, Option.map_some, Option.bind_none, Option.map_none, List.getElem?_cons_zero, List.getElem?_cons_succ, List.set_cons_zero, List.set_cons_succ, List.length_cons, List.length_nil, List.length_map, Nat.zero_add, Nat.reduceAdd, ↓reduceIte, Bool.false_eq_true, if_true, if_false, Bool.not_true, Bool.not_false, enum_of]) (by rw [List.length_zip, List.length_range]; omega) fun p _ => ⟨[some (.dat (T ns)), some (.dat (.int (p.1 : Nat))), some (.dat (.int p.2)), none], rfl, rfl, ?_⟩]
  · rw [← code_enum ns, List.map_map]; rfl
  · simp only [DV.sSeq, DV.sRet, DV.sRetF, DV.sIf, DV.sIfF, DV.sSet, DV.sSetF, DV.sNil, DV.sExpr, DV.sExprX, DV.sRetX, DV.flX, DV.sRaise, DV.fVar, DV.fOwn, DV.fC, DV.fB, DV.gB, DV.fCB, DV.gCB, DV.fCons, DV.fNil, DV.gCons, DV.gNil, DV.fT, DV.gT, DV.asB_bl, DV.asI_int, DV.fAnd, DV.fOr, DV.fNot, DV.gAnd, DV.gOr, DV.gNot, DV.fAndV, DV.fOrV, DV.fNotV, DV.gAndV, DV.gOrV, DV.fCall, DV.fCallR, DV.gCall, DV.fX, DV.xq, DV.okOf, DV.fTup, DV.fLst, DV.gTupE, DV.gLst, DV.fIf, DV.gIf, DV.qf, DV.qtf, DV.qa, DV.qi, DV.fChain, DV.fSl, DV.fO, DV.fONone, DV.mSl, DV.fSeq, DV.gSeq, DV.seqOf_lst, DV.seqOf_tup, DV.fEnum, DV.nLst, DV.nList, DV.nMul, DV.sOwn, DV.sApp, DV.sPar, DV.sParF, DV.sParOO, DV.sParDO, DV.sAug, DV.mAddI, DV.sFor, DV.sAsg, DV.sAsgF, DV.pName, DV.pNil, DV.pCons, DV.pTup, DV.wipeA, DV.mLen_lst, DV.mLen_tup, DV.mTuple, DV.mList, DV.mInt, DV.mAbs, DV.add_int, DV.mSub, DV.mLt, DV.mLe, DV.mGt, DV.mGe, DV.mRev, DV.fRev, DV.eq_ii, DV.ne_ii, DV.eq_tt, DV.ne_tt, DV.eq_ll, DV.ne_ll, Option.bind_some, Option.map_some, Option.bind_none, Option.map_none, List.getElem?_cons_zero, List.getElem?_cons_succ, List.set_cons_zero, List.set_cons_succ, List.length_cons, List.length_nil, List.length_map, Nat.zero_add, Nat.reduceAdd, ↓reduceIte, Bool.false_eq_true, if_true, if_false, Bool.not_true, Bool.not_false]
    rw [fLC_of (ns.drop p.1) D.int (fun y => decide (y < p.2)) D.int (by simp only [DV.sSeq, DV.sRet, DV.sRetF, DV.sIf, DV.sIfF, DV.sSet, DV.sSetF, DV.sNil, DV.sExpr, DV.sExprX, DV.sRetX, DV.flX, DV.sRaise, DV.fVar, DV.fOwn, DV.fC, DV.fB, DV.gB, DV.fCB, DV.gCB, DV.fCons, DV.fNil, DV.gCons, DV.gNil, DV.fT, DV.gT, DV.asB_bl, DV.asI_int, DV.fAnd, DV.fOr, DV.fNot, DV.gAnd, DV.gOr, DV.gNot, DV.fAndV, DV.fOrV, DV.fNotV, DV.gAndV, DV.gOrV, DV.fCall, DV.fCallR, DV.gCall, DV.fX, DV.xq, DV.okOf, DV.fTup, DV.fLst, DV.gTupE, DV.gLst, DV.fIf, DV.gIf, DV.qf, DV.qtf, DV.qa, DV.qi, DV.fChain, DV.fSl, DV.fO, DV.fONone, DV.mSl, DV.fSeq, DV.gSeq, DV.seqOf_lst, DV.seqOf_tup, DV.fEnum, DV.nLst, DV.nList, DV.nMul, DV.sOwn, DV.sApp, DV.sPar, DV.sParF, DV.sParOO, DV.sParDO, DV.sAug, DV.mAddI, DV.sFor, DV.sAsg, DV.sAsgF, DV.pName, DV.pNil, DV.pCons, DV.pTup, DV.wipeA, DV.mLen_lst, DV.mLen_tup, DV.mTuple, DV.mList, DV.mInt, DV.mAbs, DV.add_int, DV.mSub, DV.mLt, DV.mLe, DV.mGt, DV.mGe, DV.mRev, DV.fRev, DV.eq_ii, DV.ne_ii, DV.eq_tt, DV.ne_tt, DV.eq_ll, DV.ne_ll, Option.bind_some, Option.map_some, Option.bind_none, Option.map_none, List.getElem?_cons_zero, List.getElem?_cons_succ, List.set_cons_zero, List.set_cons_succ, List.length_cons, List.length_nil, List.length_map, Nat.zero_add, Nat.reduceAdd, ↓reduceIte, Bool.false_eq_true, if_true, if_false, Bool.not_true, Bool.not_false, cut_from, List.map_drop]) (by rw [List.length_drop]; omega) fun y _ => ⟨[some (.dat (T ns)), some (.dat (.int (p.1 : Nat))), some (.dat (.int p.2)), some (.dat (.int y))], rfl, rfl, fun _ => rfl⟩]
    simp only [DV.sSeq, DV.sRet, DV.sRetF, DV.sIf, DV.sIfF, DV.sSet, DV.sSetF, DV.sNil, DV.sExpr, DV.sExprX, DV.sRetX, DV.flX, DV.sRaise, DV.fVar, DV.fOwn, DV.fC, DV.fB, DV.gB, DV.fCB, DV.gCB, DV.fCons, DV.fNil, DV.gCons, DV.gNil, DV.fT, DV.gT, DV.asB_bl, DV.asI_int, DV.fAnd, DV.fOr, DV.fNot, DV.gAnd, DV.gOr, DV.gNot, DV.fAndV, DV.fOrV, DV.fNotV, DV.gAndV, DV.gOrV, DV.fCall, DV.fCallR, DV.gCall, DV.fX, DV.xq, DV.okOf, DV.fTup, DV.fLst, DV.gTupE, DV.gLst, DV.fIf, DV.gIf, DV.qf, DV.qtf, DV.qa, DV.qi, DV.fChain, DV.fSl, DV.fO, DV.fONone, DV.mSl, DV.fSeq, DV.gSeq, DV.seqOf_lst, DV.seqOf_tup, DV.fEnum, DV.nLst, DV.nList, DV.nMul, DV.sOwn, DV.sApp, DV.sPar, DV.sParF, DV.sParOO, DV.sParDO, DV.sAug, DV.mAddI, DV.sFor, DV.sAsg, DV.sAsgF, DV.pName, DV.pNil, DV.pCons, DV.pTup, DV.wipeA, DV.mLen_lst, DV.mLen_tup, DV.mTuple, DV.mList, DV.mInt, DV.mAbs, DV.add_int, DV.mSub, DV.mLt, DV.mLe, DV.mGt, DV.mGe, DV.mRev, DV.fRev, DV.eq_ii, DV.ne_ii, DV.eq_tt, DV.ne_tt, DV.eq_ll, DV.ne_ll, Option.bind_some, Option.map_some, Option.bind_none, Option.map_none, List.getElem?_cons_zero, List.getElem?_cons_succ, List.set_cons_zero, List.set_cons_succ, List.length_cons, List.length_nil, List.length_map, Nat.zero_add, Nat.reduceAdd, ↓reduceIte, Bool.false_eq_true, if_true, if_false, Bool.not_true, Bool.not_false]
theorem v_code_of (ns : List Int) (hz : ns.length ≤ 1000) : G_code_of [T ns] = some (.ok (T (codeL ns))) := by
  refine runP_rt ⟨[some (.dat (T ns)), none, none, none], ?_⟩
  show m_code_of [some (.dat (T ns)), none, none, none] = _
  unfold m_code_of
  simp only [DV.sSeq, DV.sRet, DV.sRetF, DV.sIf, DV.sIfF, DV.sSet, DV.sSetF, DV.sNil, DV.sExpr, DV.sExprX, DV.sRetX, DV.flX, DV.sRaise, DV.fVar, DV.fOwn, DV.fC, DV.fB, DV.gB, DV.fCB, DV.gCB, DV.fCons, DV.fNil, DV.gCons, DV.gNil, DV.fT, DV.gT, DV.asB_bl, DV.asI_int, DV.fAnd, DV.fOr, DV.fNot, DV.gAnd, DV.gOr, DV.gNot, DV.fAndV, DV.fOrV, DV.fNotV, DV.gAndV, DV.gOrV, DV.fCall, DV.fCallR, DV.gCall, DV.fX, DV.xq, DV.okOf, DV.fTup, DV.fLst, DV.gTupE, DV.gLst, DV.fIf, DV.gIf, DV.qf, DV.qtf, DV.qa, DV.qi, DV.fChain, DV.fSl, DV.fO, DV.fONone, DV.mSl, DV.fSeq, DV.gSeq, DV.seqOf_lst, DV.seqOf_tup, DV.fEnum, DV.nLst, DV.nList, DV.nMul, DV.sOwn, DV.sApp, DV.sPar, DV.sParF, DV.sParOO, DV.sParDO, DV.sAug, DV.mAddI, DV.sFor, DV.sAsg, DV.sAsgF, DV.pName, DV.pNil, DV.pCons, DV.pTup, DV.wipeA, DV.mLen_lst, DV.mLen_tup, DV.mTuple, DV.mList, DV.mInt, DV.mAbs, DV.add_int, DV.mSub, DV.mLt, DV.mLe, DV.mGt, DV.mGe, DV.mRev, DV.fRev, DV.eq_ii, DV.ne_ii, DV.eq_tt, DV.ne_tt, DV.eq_ll, DV.ne_ll, Option.bind_some, Option.map_some, Option.bind_none, Option.map_none, List.getElem?_cons_zero, List.getElem?_cons_succ, List.set_cons_zero, List.set_cons_succ, List.length_cons, List.length_nil, List.length_map, Nat.zero_add, Nat.reduceAdd, ↓reduceIte, Bool.false_eq_true, if_true, if_false, Bool.not_true, Bool.not_false, v_codes (i0 := 0) ns hz]
theorem v_code {n : Nat} {p : List Int} (h : Ord' n p) : G_code [T p] = some (.ok (T (codeL p))) := by
  have hz : p.length ≤ 1000 := by rw [h.len]; have := h.n60; omega
  refine runP_rt ⟨[some (.dat (T p))], ?_⟩
  show m_code [some (.dat (T p))] = _
  unfold m_code
  simp only [DV.sSeq, DV.sRet, DV.sRetF, DV.sIf, DV.sIfF, DV.sSet, DV.sSetF, DV.sNil, DV.sExpr, DV.sExprX, DV.sRetX, DV.flX, DV.sRaise, DV.fVar, DV.fOwn, DV.fC, DV.fB, DV.gB, DV.fCB, DV.gCB, DV.fCons, DV.fNil, DV.gCons, DV.gNil, DV.fT, DV.gT, DV.asB_bl, DV.asI_int, DV.fAnd, DV.fOr, DV.fNot, DV.gAnd, DV.gOr, DV.gNot, DV.fAndV, DV.fOrV, DV.fNotV, DV.gAndV, DV.gOrV, DV.fCall, DV.fCallR, DV.gCall, DV.fX, DV.xq, DV.okOf, DV.fTup, DV.fLst, DV.gTupE, DV.gLst, DV.fIf, DV.gIf, DV.qf, DV.qtf, DV.qa, DV.qi, DV.fChain, DV.fSl, DV.fO, DV.fONone, DV.mSl, DV.fSeq, DV.gSeq, DV.seqOf_lst, DV.seqOf_tup, DV.fEnum, DV.nLst, DV.nList, DV.nMul, DV.sOwn, DV.sApp, DV.sPar, DV.sParF, DV.sParOO, DV.sParDO, DV.sAug, DV.mAddI, DV.sFor, DV.sAsg, DV.sAsgF, DV.pName, DV.pNil, DV.pCons, DV.pTup, DV.wipeA, DV.mLen_lst, DV.mLen_tup, DV.mTuple, DV.mList, DV.mInt, DV.mAbs, DV.add_int, DV.mSub, DV.mLt, DV.mLe, DV.mGt, DV.mGe, DV.mRev, DV.fRev, DV.eq_ii, DV.ne_ii, DV.eq_tt, DV.ne_tt, DV.eq_ll, DV.ne_ll, Option.bind_some, Option.map_some, Option.bind_none, Option.map_none, List.getElem?_cons_zero, List.getElem?_cons_succ, List.set_cons_zero, List.set_cons_succ, List.length_cons, List.length_nil, List.length_map, Nat.zero_add, Nat.reduceAdd, ↓reduceIte, Bool.false_eq_true, if_true, if_false, Bool.not_true, Bool.not_false, v_check_order h, v_code_of p hz]
/-! ## is_code -/
theorem valid_get : ∀ (cs : List Int), valid cs → ∀ (i : Nat) (c : Int), cs[i]? = some c → 0 ≤ c ∧ c < (cs.length : Int) - i
  | [], _, i, c, e => by simp at e
  | d :: cs, ⟨h0, h1, hv⟩, 0, c, e => by simp at e; subst e; rw [List.length_cons]; omega
  | d :: cs, ⟨h0, h1, hv⟩, i + 1, c, e => by
    have := valid_get cs hv i c (by simpa using e)
    rw [List.length_cons]; omega
theorem zip_range_mem {α : Type} {ns : List α} {p : Nat × α} (h : p ∈ (List.range ns.length).zip ns) : ns[p.1]? = some p.2 := by
  obtain ⟨i, hi⟩ := List.getElem?_of_mem h
  rw [List.getElem?_zip_eq_some] at hi
  obtain ⟨h1, h2⟩ := hi
  have h3 := (List.getElem?_eq_some_iff.mp h1)
  obtain ⟨h4, h5⟩ := h3
  rw [List.getElem_range] at h5
  rw [← h5]; exact h2
theorem v_is_code {cs : List Int} (h1 : 1 ≤ cs.length) (h60 : cs.length ≤ 60) (hv : valid cs) : G_is_code [T cs] = some (.ok (.bl true)) := by
  have e1 : decide ((1 : Int) ≤ (cs.length : Int)) = true := by rw [decide_eq_true_eq]; omega
  have e2 : decide ((cs.length : Int) ≤ 60) = true := by rw [decide_eq_true_eq]; omega
  refine runP_rt ⟨[some (.dat (T cs)), none, none], ?_⟩
  show m_is_code [some (.dat (T cs)), none, none] = _
  unfold m_is_code
  simp only [DV.sSeq, DV.sRet, DV.sRetF, DV.sIf, DV.sIfF, DV.sSet, DV.sSetF, DV.sNil, DV.sExpr, DV.sExprX, DV.sRetX, DV.flX, DV.sRaise, DV.fVar, DV.fOwn, DV.fC, DV.fB, DV.gB, DV.fCB, DV.gCB, DV.fCons, DV.fNil, DV.gCons, DV.gNil, DV.fT, DV.gT, DV.asB_bl, DV.asI_int, DV.fAnd, DV.fOr, DV.fNot, DV.gAnd, DV.gOr, DV.gNot, DV.fAndV, DV.fOrV, DV.fNotV, DV.gAndV, DV.gOrV, DV.fCall, DV.fCallR, DV.gCall, DV.fX, DV.xq, DV.okOf, DV.fTup, DV.fLst, DV.gTupE, DV.gLst, DV.fIf, DV.gIf, DV.qf, DV.qtf, DV.qa, DV.qi, DV.fChain, DV.fSl, DV.fO, DV.fONone, DV.mSl, DV.fSeq, DV.gSeq, DV.seqOf_lst, DV.seqOf_tup, DV.fEnum, DV.nLst, DV.nList, DV.nMul, DV.sOwn, DV.sApp, DV.sPar, DV.sParF, DV.sParOO, DV.sParDO, DV.sAug, DV.mAddI, DV.sFor, DV.sAsg, DV.sAsgF, DV.pName, DV.pNil, DV.pCons, DV.pTup, DV.wipeA, DV.mLen_lst, DV.mLen_tup, DV.mTuple, DV.mList, DV.mInt, DV.mAbs, DV.add_int, DV.mSub, DV.mLt, DV.mLe, DV.mGt, DV.mGe, DV.mRev, DV.fRev, DV.eq_ii, DV.ne_ii, DV.eq_tt, DV.ne_tt, DV.eq_ll, DV.ne_ll, Option.bind_some, Option.map_some, Option.bind_none, Option.map_none, List.getElem?_cons_zero, List.getElem?_cons_succ, List.set_cons_zero, List.set_cons_succ, List.length_cons, List.length_nil, List.length_map, Nat.zero_add, Nat.reduceAdd, ↓reduceIte, Bool.false_eq_true, if_true, if_false, Bool.not_true, Bool.not_false, v_is_ints cs (by omega), e1, e2]
  rw [fLC_map ((List.range cs.length).zip cs) (fun p => .tup [.int (p.1 : Nat), .int p.2]) (fun p => .bl true) (by simp only [DV.sSeq, DV.sRet, DV.sRetF, DV.sIf, DV.sIfF, DV.sSet, DV.sSetF, DV.sNil, DV.sExpr, DV.sExprX, DV.sRetX, DV.flX, DV.sRaise, DV.fVar, DV.fOwn, DV.fC, DV.fB, DV.gB, DV.fCB, DV.gCB, DV.fCons, DV.fNil, DV.gCons, DV.gNil, DV.fT, DV.gT, DV.asB_bl, DV.asI_int, DV.fAnd, DV.fOr, DV.fNot, DV.gAnd, DV.gOr, DV.gNot, DV.fAndV, DV.fOrV, DV.fNotV, DV.gAndV, DV.gOrV, DV.fCall, DV.fCallR, DV.gCall, DV.fX, DV.xq, DV.okOf, DV.fTup, DV.fLst, DV.gTupE, DV.gLst, DV.fIf, DV.gIf, DV.qf, DV.qtf, DV.qa, DV.qi, DV.fChain, DV.fSl, DV.fO, DV.fONone, DV.mSl, DV.fSeq, DV.gSeq, DV.seqOf_lst, DV.seqOf_tup, DV.fEnum, DV.nLst, DV.nList, DV.nMul, DV.sOwn, DV.sApp, DV.sPar, DV.sParF, DV.sParOO, DV.sParDO, DV.sAug, DV.mAddI, DV.sFor, DV.sAsg, DV.sAsgF, DV.pName, DV.pNil, DV.pCons, DV.pTup, DV.wipeA, DV.mLen_lst, DV.mLen_tup, DV.mTuple, DV.mList, DV.mInt, DV.mAbs, DV.add_int, DV.mSub, DV.mLt, DV.mLe, DV.mGt, DV.mGe, DV.mRev, DV.fRev, DV.eq_ii, DV.ne_ii, DV.eq_tt, DV.ne_tt, DV.eq_ll, DV.ne_ll, Option.bind_some, Option.map_some, Option.bind_none, Option.map_none, List.getElem?_cons_zero, List.getElem?_cons_succ, List.set_cons_zero, List.set_cons_succ, List.length_cons, List.length_nil, List.length_map, Nat.zero_add, Nat.reduceAdd, ↓reduceIte, Bool.false_eq_true, if_true, if_false, Bool.not_true, Bool.not_false, enum_of]) (by rw [List.length_zip, List.length_range]; omega) fun p hp => ⟨[some (.dat (T cs)), some (.dat (.int (p.1 : Nat))), some (.dat (.int p.2))], rfl, rfl, ?_⟩]
  · simp only [DV.sSeq, DV.sRet, DV.sRetF, DV.sIf, DV.sIfF, DV.sSet, DV.sSetF, DV.sNil, DV.sExpr, DV.sExprX, DV.sRetX, DV.flX, DV.sRaise, DV.fVar, DV.fOwn, DV.fC, DV.fB, DV.gB, DV.fCB, DV.gCB, DV.fCons, DV.fNil, DV.gCons, DV.gNil, DV.fT, DV.gT, DV.asB_bl, DV.asI_int, DV.fAnd, DV.fOr, DV.fNot, DV.gAnd, DV.gOr, DV.gNot, DV.fAndV, DV.fOrV, DV.fNotV, DV.gAndV, DV.gOrV, DV.fCall, DV.fCallR, DV.gCall, DV.fX, DV.xq, DV.okOf, DV.fTup, DV.fLst, DV.gTupE, DV.gLst, DV.fIf, DV.gIf, DV.qf, DV.qtf, DV.qa, DV.qi, DV.fChain, DV.fSl, DV.fO, DV.fONone, DV.mSl, DV.fSeq, DV.gSeq, DV.seqOf_lst, DV.seqOf_tup, DV.fEnum, DV.nLst, DV.nList, DV.nMul, DV.sOwn, DV.sApp, DV.sPar, DV.sParF, DV.sParOO, DV.sParDO, DV.sAug, DV.mAddI, DV.sFor, DV.sAsg, DV.sAsgF, DV.pName, DV.pNil, DV.pCons, DV.pTup, DV.wipeA, DV.mLen_lst, DV.mLen_tup, DV.mTuple, DV.mList, DV.mInt, DV.mAbs, DV.add_int, DV.mSub, DV.mLt, DV.mLe, DV.mGt, DV.mGe, DV.mRev, DV.fRev, DV.eq_ii, DV.ne_ii, DV.eq_tt, DV.ne_tt, DV.eq_ll, DV.ne_ll, Option.bind_some, Option.map_some, Option.bind_none, Option.map_none, List.getElem?_cons_zero, List.getElem?_cons_succ, List.set_cons_zero, List.set_cons_succ, List.length_cons, List.length_nil, List.length_map, Nat.zero_add, Nat.reduceAdd, ↓reduceIte, Bool.false_eq_true, if_true, if_false, Bool.not_true, Bool.not_false, all_true]
  · have := valid_get cs hv _ _ (zip_range_mem hp)
    have e3 : decide ((0 : Int) ≤ p.2) = true := decide_eq_true this.1
    have e4 : decide (p.2 < (cs.length : Int) - (p.1 : Nat)) = true := decide_eq_true this.2
    simp only [DV.sSeq, DV.sRet, DV.sRetF, DV.sIf, DV.sIfF, DV.sSet, DV.sSetF, DV.sNil, DV.sExpr, DV.sExprX, DV.sRetX, DV.flX, DV.sRaise, DV.fVar, DV.fOwn, DV.fC, DV.fB, DV.gB, DV.fCB, DV.gCB, DV.fCons, DV.fNil, DV.gCons, DV.gNil, DV.fT, DV.gT, DV.asB_bl, DV.asI_int, DV.fAnd, DV.fOr, DV.fNot, DV.gAnd, DV.gOr, DV.gNot, DV.fAndV, DV.fOrV, DV.fNotV, DV.gAndV, DV.gOrV, DV.fCall, DV.fCallR, DV.gCall, DV.fX, DV.xq, DV.okOf, DV.fTup, DV.fLst, DV.gTupE, DV.gLst, DV.fIf, DV.gIf, DV.qf, DV.qtf, DV.qa, DV.qi, DV.fChain, DV.fSl, DV.fO, DV.fONone, DV.mSl, DV.fSeq, DV.gSeq, DV.seqOf_lst, DV.seqOf_tup, DV.fEnum, DV.nLst, DV.nList, DV.nMul, DV.sOwn, DV.sApp, DV.sPar, DV.sParF, DV.sParOO, DV.sParDO, DV.sAug, DV.mAddI, DV.sFor, DV.sAsg, DV.sAsgF, DV.pName, DV.pNil, DV.pCons, DV.pTup, DV.wipeA, DV.mLen_lst, DV.mLen_tup, DV.mTuple, DV.mList, DV.mInt, DV.mAbs, DV.add_int, DV.mSub, DV.mLt, DV.mLe, DV.mGt, DV.mGe, DV.mRev, DV.fRev, DV.eq_ii, DV.ne_ii, DV.eq_tt, DV.ne_tt, DV.eq_ll, DV.ne_ll, Option.bind_some, Option.map_some, Option.bind_none, Option.map_none, List.getElem?_cons_zero, List.getElem?_cons_succ, List.set_cons_zero, List.set_cons_succ, List.length_cons, List.length_nil, List.length_map, Nat.zero_add, Nat.reduceAdd, ↓reduceIte, Bool.false_eq_true, if_true, if_false, Bool.not_true, Bool.not_false, e3, e4]
end W74

namespace W74
open P74 DV
variable [DV.TabC]
theorem cut_from1 (xs : List D) (k : Nat) : cutD xs (some ((k : Int) + 1)) none = xs.drop (k + 1) := cut_from xs (k + 1)
theorem szOk_le {n : Nat} (h : n ≤ 1000000) : szOk n = true := szOk.of (by omega)
theorem erase_cut (L : List Int) (k : Nat) : (L.map D.int).take k ++ (L.map D.int).drop (k + 1) = (L.eraseIdx k).map D.int := by
  rw [List.eraseIdx_eq_take_drop_succ, List.map_append, List.map_take, List.map_drop]
abbrev bodyO : AE → Option Fl := (DV.sSeq (DV.sApp 2 (DV.qf (DV.fB DV.mIx (DV.fVar 1) (DV.fVar 3))))
  (DV.sSet 1 (DV.fB DV.mAdd (DV.fSl (DV.fVar 1) DV.fONone (DV.fO (DV.fVar 3))) (DV.fSl (DV.fVar 1) (DV.fO (DV.fB DV.mAdd (DV.fVar 3) (DV.fC (.int 1)))) DV.fONone))))
theorem body_obc (c0 : Option AV) (L found : List Int) (k : Nat) (hk : k < L.length) (hL : L.length ≤ 1000) (hf : found.length ≤ 1000) :
    bodyO [c0, some (.dat (.lst (L.map D.int))), some (.own false (found.map D.int)), some (.dat (.int (k : Nat)))] = some (.nx [c0, some (.dat (.lst ((L.eraseIdx k).map D.int))), some (.own false ((found ++ [L.getD k 0]).map D.int)), some (.dat (.int (k : Nat)))]) := by
  have e1 : mIx (.lst (L.map D.int)) (.int (k : Nat)) = some (.int (L.getD k 0)) := by
    show L2.atI (L.map D.int) (k : Nat) = _
    rw [atI_nat (by rw [List.length_map]; exact hk), List.getElem?_map, List.getD_eq_getElem?_getD, List.getElem?_eq_getElem hk]; rfl
  have e2 : szOk (found.length + 1) = true := szOk_le (by omega)
  have e3 : mAdd (.lst ((L.map D.int).take k)) (.lst ((L.map D.int).drop (k + 1))) = some (.lst ((L.eraseIdx k).map D.int)) := by
    rw [add_lst (by rw [List.length_take, List.length_drop, List.length_map]; omega), erase_cut]
  simp only [DV.sSeq, DV.sRet, DV.sRetF, DV.sIf, DV.sIfF, DV.sSet, DV.sSetF, DV.sNil, DV.sExpr, DV.sExprX, DV.sRetX, DV.flX, DV.sRaise, DV.fVar, DV.fOwn, DV.fC, DV.fB, DV.gB, DV.fCB, DV.gCB, DV.fCons, DV.fNil, DV.gCons, DV.gNil, DV.fT, DV.gT, DV.asB_bl, DV.asI_int, DV.fAnd, DV.fOr, DV.fNot, DV.gAnd, DV.gOr, DV.gNot, DV.fAndV, DV.fOrV, DV.fNotV, DV.gAndV, DV.gOrV, DV.fCall, DV.fCallR, DV.gCall, DV.fX, DV.xq, DV.okOf, DV.fTup, DV.fLst, DV.gTupE, DV.gLst, DV.fIf, DV.gIf, DV.qf, DV.qtf, DV.qa, DV.qi, DV.fChain, DV.fSl, DV.fO, DV.fONone, DV.mSl, DV.fSeq, DV.gSeq, DV.seqOf_lst, DV.seqOf_tup, DV.fEnum, DV.nLst, DV.nList, DV.nMul, DV.sOwn, DV.sApp, DV.sPar, DV.sParF, DV.sParOO, DV.sParDO, DV.sAug, DV.mAddI, DV.sFor, DV.sAsg, DV.sAsgF, DV.pName, DV.pNil, DV.pCons, DV.pTup, DV.wipeA, DV.mLen_lst, DV.mLen_tup, DV.mTuple, DV.mList, DV.mInt, DV.mAbs, DV.add_int, DV.mSub, DV.mLt, DV.mLe, DV.mGt, DV.mGe, DV.mRev, DV.fRev, DV.eq_ii, DV.ne_ii, DV.eq_tt, DV.ne_tt, DV.eq_ll, DV.ne_ll, Option.bind_some, Option.map_some, Option.bind_none, Option.map_none, List.getElem?_cons_zero, List.getElem?_cons_succ, List.set_cons_zero, List.set_cons_succ, List.length_cons, List.length_nil, List.length_map, Nat.zero_add, Nat.reduceAdd, ↓reduceIte, Bool.false_eq_true, if_true, if_false, Bool.not_true, Bool.not_false, e1, e2, cut_to, cut_from1, e3, List.map_append, List.map_cons, List.map_nil]
theorem loop_obc (c0 : Option AV) : ∀ (cs L found : List Int) (x : Option AV), L.length = cs.length → valid cs → L.length + found.length ≤ 1000 →
    ∃ x', forGo (pName 3) bodyO (cs.map D.int) [c0, some (.dat (.lst (L.map D.int))), some (.own false (found.map D.int)), x] = some (.nx [c0, some (.dat (.lst [])), some (.own false ((found ++ obc L cs).map D.int)), x'])
  | [], L, found, x, hl, _, _ => by
    have : L = [] := List.eq_nil_of_length_eq_zero hl
    subst this
    exact ⟨x, by rw [show obc [] [] = [] from rfl, List.append_nil]; rfl⟩
  | c :: cs, L, found, x, hl, ⟨h0, h1, hv⟩, hz => by
    obtain ⟨k, rfl⟩ : ∃ k : Nat, c = k := ⟨c.toNat, by omega⟩
    have hk : k < L.length := by rw [hl, List.length_cons]; omega
    obtain ⟨x', ih⟩ := loop_obc c0 cs (L.eraseIdx k) (found ++ [L.getD k 0]) (some (.dat (.int (k : Nat)))) (len_erase hk hl) hv (by rw [len_erase hk hl, List.length_append, List.length_singleton]; rw [hl, List.length_cons] at hz; omega)
    refine ⟨x', ?_⟩
    rw [List.map_cons]
    unfold forGo
    show ((some [c0, some (.dat (.lst (L.map D.int))), some (.own false (found.map D.int)), some (.dat (.int (k : Nat)))]).bind _) = _
    rw [Option.bind_some, body_obc c0 L found k hk (by omega) (by omega), Option.bind_some]
    show forGo _ _ _ _ = _
    rw [ih, List.append_assoc]; rfl
theorem v_order_by_code (a : Ad) {cs : List Int} (hz : cs.length ≤ 500) (hv : valid cs) : G_order_by_code a [T cs] = some (.ok (T (obc (DV.rng cs.length) cs))) := by
  obtain ⟨x', e⟩ := loop_obc (some (.dat (T cs))) cs (DV.rng cs.length) [] none (by simp) hv (by simp; omega)
  refine runP_rt ⟨[some (.dat (T cs)), some (.dat (.lst [])), some (.own false (([] ++ obc (DV.rng cs.length) cs).map D.int)), x'], ?_⟩
  show m_order_by_code a [some (.dat (T cs)), none, none, none] = _
  unfold m_order_by_code
  have e1 : fLR (fG1 (fCB mLen (fCons (fVar 0) fNil))) [some (.dat (T cs)), none, none, none] = some (.lst ((DV.rng cs.length).map D.int)) := fLR_n (by simp only [DV.sSeq, DV.sRet, DV.sRetF, DV.sIf, DV.sIfF, DV.sSet, DV.sSetF, DV.sNil, DV.sExpr, DV.sExprX, DV.sRetX, DV.flX, DV.sRaise, DV.fVar, DV.fOwn, DV.fC, DV.fB, DV.gB, DV.fCB, DV.gCB, DV.fCons, DV.fNil, DV.gCons, DV.gNil, DV.fT, DV.gT, DV.asB_bl, DV.asI_int, DV.fAnd, DV.fOr, DV.fNot, DV.gAnd, DV.gOr, DV.gNot, DV.fAndV, DV.fOrV, DV.fNotV, DV.gAndV, DV.gOrV, DV.fCall, DV.fCallR, DV.gCall, DV.fX, DV.xq, DV.okOf, DV.fTup, DV.fLst, DV.gTupE, DV.gLst, DV.fIf, DV.gIf, DV.qf, DV.qtf, DV.qa, DV.qi, DV.fChain, DV.fSl, DV.fO, DV.fONone, DV.mSl, DV.fSeq, DV.gSeq, DV.seqOf_lst, DV.seqOf_tup, DV.fEnum, DV.nLst, DV.nList, DV.nMul, DV.sOwn, DV.sApp, DV.sPar, DV.sParF, DV.sParOO, DV.sParDO, DV.sAug, DV.mAddI, DV.sFor, DV.sAsg, DV.sAsgF, DV.pName, DV.pNil, DV.pCons, DV.pTup, DV.wipeA, DV.mLen_lst, DV.mLen_tup, DV.mTuple, DV.mList, DV.mInt, DV.mAbs, DV.add_int, DV.mSub, DV.mLt, DV.mLe, DV.mGt, DV.mGe, DV.mRev, DV.fRev, DV.eq_ii, DV.ne_ii, DV.eq_tt, DV.ne_tt, DV.eq_ll, DV.ne_ll, Option.bind_some, Option.map_some, Option.bind_none, Option.map_none, List.getElem?_cons_zero, List.getElem?_cons_succ, List.set_cons_zero, List.set_cons_succ, List.length_cons, List.length_nil, List.length_map, Nat.zero_add, Nat.reduceAdd, ↓reduceIte, Bool.false_eq_true, if_true, if_false, Bool.not_true, Bool.not_false]) (by omega)
  have e2 : szOk 0 = true := rfl
  have e' : forGo (pName 3) bodyO (cs.map D.int) [some (.dat (T cs)), some (.dat (.lst ((DV.rng cs.length).map D.int))), some (.own false []), none] = _ := e
  simp only [DV.sSeq, DV.sRet, DV.sRetF, DV.sIf, DV.sIfF, DV.sSet, DV.sSetF, DV.sNil, DV.sExpr, DV.sExprX, DV.sRetX, DV.flX, DV.sRaise, DV.fVar, DV.fOwn, DV.fC, DV.fB, DV.gB, DV.fCB, DV.gCB, DV.fCons, DV.fNil, DV.gCons, DV.gNil, DV.fT, DV.gT, DV.asB_bl, DV.asI_int, DV.fAnd, DV.fOr, DV.fNot, DV.gAnd, DV.gOr, DV.gNot, DV.fAndV, DV.fOrV, DV.fNotV, DV.gAndV, DV.gOrV, DV.fCall, DV.fCallR, DV.gCall, DV.fX, DV.xq, DV.okOf, DV.fTup, DV.fLst, DV.gTupE, DV.gLst, DV.fIf, DV.gIf, DV.qf, DV.qtf, DV.qa, DV.qi, DV.fChain, DV.fSl, DV.fO, DV.fONone, DV.mSl, DV.fSeq, DV.gSeq, DV.seqOf_lst, DV.seqOf_tup, DV.fEnum, DV.nLst, DV.nList, DV.nMul, DV.sOwn, DV.sApp, DV.sPar, DV.sParF, DV.sParOO, DV.sParDO, DV.sAug, DV.mAddI, DV.sFor, DV.sAsg, DV.sAsgF, DV.pName, DV.pNil, DV.pCons, DV.pTup, DV.wipeA, DV.mLen_lst, DV.mLen_tup, DV.mTuple, DV.mList, DV.mInt, DV.mAbs, DV.add_int, DV.mSub, DV.mLt, DV.mLe, DV.mGt, DV.mGe, DV.mRev, DV.fRev, DV.eq_ii, DV.ne_ii, DV.eq_tt, DV.ne_tt, DV.eq_ll, DV.ne_ll, Option.bind_some, Option.map_some, Option.bind_none, Option.map_none, List.getElem?_cons_zero, List.getElem?_cons_succ, List.set_cons_zero, List.set_cons_succ, List.length_cons, List.length_nil, List.length_map, Nat.zero_add, Nat.reduceAdd, ↓reduceIte, Bool.false_eq_true, if_true, if_false, Bool.not_true, Bool.not_false, e1, e2]
  rw [e']
  simp only [DV.sSeq, DV.sRet, DV.sRetF, DV.sIf, DV.sIfF, DV.sSet, DV.sSetF, DV.sNil, DV.sExpr, DV.sExprX, DV.sRetX, DV.flX, DV.sRaise, DV.fVar, DV.fOwn, DV.fC, DV.fB, DV.gB, DV.fCB, DV.gCB, DV.fCons, DV.fNil, DV.gCons, DV.gNil, DV.fT, DV.gT, DV.asB_bl, DV.asI_int, DV.fAnd, DV.fOr, DV.fNot, DV.gAnd, DV.gOr, DV.gNot, DV.fAndV, DV.fOrV, DV.fNotV, DV.gAndV, DV.gOrV, DV.fCall, DV.fCallR, DV.gCall, DV.fX, DV.xq, DV.okOf, DV.fTup, DV.fLst, DV.gTupE, DV.gLst, DV.fIf, DV.gIf, DV.qf, DV.qtf, DV.qa, DV.qi, DV.fChain, DV.fSl, DV.fO, DV.fONone, DV.mSl, DV.fSeq, DV.gSeq, DV.seqOf_lst, DV.seqOf_tup, DV.fEnum, DV.nLst, DV.nList, DV.nMul, DV.sOwn, DV.sApp, DV.sPar, DV.sParF, DV.sParOO, DV.sParDO, DV.sAug, DV.mAddI, DV.sFor, DV.sAsg, DV.sAsgF, DV.pName, DV.pNil, DV.pCons, DV.pTup, DV.wipeA, DV.mLen_lst, DV.mLen_tup, DV.mTuple, DV.mList, DV.mInt, DV.mAbs, DV.add_int, DV.mSub, DV.mLt, DV.mLe, DV.mGt, DV.mGe, DV.mRev, DV.fRev, DV.eq_ii, DV.ne_ii, DV.eq_tt, DV.ne_tt, DV.eq_ll, DV.ne_ll, Option.bind_some, Option.map_some, Option.bind_none, Option.map_none, List.getElem?_cons_zero, List.getElem?_cons_succ, List.set_cons_zero, List.set_cons_succ, List.length_cons, List.length_nil, List.length_map, Nat.zero_add, Nat.reduceAdd, ↓reduceIte, Bool.false_eq_true, if_true, if_false, Bool.not_true, Bool.not_false, List.nil_append]
theorem v_from_code (a : Ad) {cs : List Int} (h1 : 1 ≤ cs.length) (h60 : cs.length ≤ 60) (hv : valid cs) : G_from_code a [T cs] = some (.ok (T (obc (DV.rng cs.length) cs))) := by
  refine runP_rt ⟨[some (.dat (T cs))], ?_⟩
  show m_from_code a [some (.dat (T cs))] = _
  unfold m_from_code
  simp only [DV.sSeq, DV.sRet, DV.sRetF, DV.sIf, DV.sIfF, DV.sSet, DV.sSetF, DV.sNil, DV.sExpr, DV.sExprX, DV.sRetX, DV.flX, DV.sRaise, DV.fVar, DV.fOwn, DV.fC, DV.fB, DV.gB, DV.fCB, DV.gCB, DV.fCons, DV.fNil, DV.gCons, DV.gNil, DV.fT, DV.gT, DV.asB_bl, DV.asI_int, DV.fAnd, DV.fOr, DV.fNot, DV.gAnd, DV.gOr, DV.gNot, DV.fAndV, DV.fOrV, DV.fNotV, DV.gAndV, DV.gOrV, DV.fCall, DV.fCallR, DV.gCall, DV.fX, DV.xq, DV.okOf, DV.fTup, DV.fLst, DV.gTupE, DV.gLst, DV.fIf, DV.gIf, DV.qf, DV.qtf, DV.qa, DV.qi, DV.fChain, DV.fSl, DV.fO, DV.fONone, DV.mSl, DV.fSeq, DV.gSeq, DV.seqOf_lst, DV.seqOf_tup, DV.fEnum, DV.nLst, DV.nList, DV.nMul, DV.sOwn, DV.sApp, DV.sPar, DV.sParF, DV.sParOO, DV.sParDO, DV.sAug, DV.mAddI, DV.sFor, DV.sAsg, DV.sAsgF, DV.pName, DV.pNil, DV.pCons, DV.pTup, DV.wipeA, DV.mLen_lst, DV.mLen_tup, DV.mTuple, DV.mList, DV.mInt, DV.mAbs, DV.add_int, DV.mSub, DV.mLt, DV.mLe, DV.mGt, DV.mGe, DV.mRev, DV.fRev, DV.eq_ii, DV.ne_ii, DV.eq_tt, DV.ne_tt, DV.eq_ll, DV.ne_ll, Option.bind_some, Option.map_some, Option.bind_none, Option.map_none, List.getElem?_cons_zero, List.getElem?_cons_succ, List.set_cons_zero, List.set_cons_succ, List.length_cons, List.length_nil, List.length_map, Nat.zero_add, Nat.reduceAdd, ↓reduceIte, Bool.false_eq_true, if_true, if_false, Bool.not_true, Bool.not_false, v_is_code h1 h60 hv, v_order_by_code a (show cs.length ≤ 500 by omega) hv]
end W74

namespace W74
open P74 DV
variable [DV.TabC]
/-! ## n! by products -/
theorem fac_mul (n : Nat) : fac (n + 1) = fac n * ((n : Int) + 1) := rfl
theorem mul_small2 {i : Int} {k : Nat} (h : k ≤ 100000) : mMul (.int i) (.int ((k : Nat) : Int)) = some (.int (i * (k : Nat))) := mul_small (by omega)
theorem loop_fac (c0 : Option AV) (i : Nat) : ∀ (n : Nat) (j : Nat) (x : Option AV), j + n ≤ 1000 → ∃ x', forGo (pName 2) (sSet 1 (fB mMul (fVar 1) (fVar 2))) ((List.range' j n).map fun (k : Nat) => D.int ((k : Int) + 1)) [c0, some (.dat (.int (fac j))), x] = some (.nx [c0, some (.dat (.int (fac (j + n)))), x'])
  | 0, j, x, _ => ⟨x, rfl⟩
  | n + 1, j, x, h => by
    obtain ⟨x', ih⟩ := loop_fac c0 i n (j + 1) (some (.dat (.int ((j : Int) + 1)))) (by omega)
    refine ⟨x', ?_⟩
    rw [List.range'_succ, List.map_cons]
    unfold forGo
    simp only [DV.sSeq, DV.sRet, DV.sRetF, DV.sIf, DV.sIfF, DV.sSet, DV.sSetF, DV.sNil, DV.sExpr, DV.sExprX, DV.sRetX, DV.flX, DV.sRaise, DV.fVar, DV.fOwn, DV.fC, DV.fB, DV.gB, DV.fCB, DV.gCB, DV.fCons, DV.fNil, DV.gCons, DV.gNil, DV.fT, DV.gT, DV.asB_bl, DV.asI_int, DV.fAnd, DV.fOr, DV.fNot, DV.gAnd, DV.gOr, DV.gNot, DV.fAndV, DV.fOrV, DV.fNotV, DV.gAndV, DV.gOrV, DV.fCall, DV.fCallR, DV.gCall, DV.fX, DV.xq, DV.okOf, DV.fTup, DV.fLst, DV.gTupE, DV.gLst, DV.fIf, DV.gIf, DV.qf, DV.qtf, DV.qa, DV.qi, DV.fChain, DV.fSl, DV.fO, DV.fONone, DV.mSl, DV.fSeq, DV.gSeq, DV.seqOf_lst, DV.seqOf_tup, DV.fEnum, DV.nLst, DV.nList, DV.nMul, DV.sOwn, DV.sApp, DV.sPar, DV.sParF, DV.sParOO, DV.sParDO, DV.sAug, DV.mAddI, DV.sFor, DV.sAsg, DV.sAsgF, DV.pName, DV.pNil, DV.pCons, DV.pTup, DV.wipeA, DV.mLen_lst, DV.mLen_tup, DV.mTuple, DV.mList, DV.mInt, DV.mAbs, DV.add_int, DV.mSub, DV.mLt, DV.mLe, DV.mGt, DV.mGe, DV.mRev, DV.fRev, DV.eq_ii, DV.ne_ii, DV.eq_tt, DV.ne_tt, DV.eq_ll, DV.ne_ll, Option.bind_some, Option.map_some, Option.bind_none, Option.map_none, List.getElem?_cons_zero, List.getElem?_cons_succ, List.set_cons_zero, List.set_cons_succ, List.length_cons, List.length_nil, List.length_map, Nat.zero_add, Nat.reduceAdd, ↓reduceIte, Bool.false_eq_true, if_true, if_false, Bool.not_true, Bool.not_false]
    rw [show ((j : Int) + 1) = ((j + 1 : Nat) : Int) by omega, mul_small2 (by omega)]
    simp only [DV.sSeq, DV.sRet, DV.sRetF, DV.sIf, DV.sIfF, DV.sSet, DV.sSetF, DV.sNil, DV.sExpr, DV.sExprX, DV.sRetX, DV.flX, DV.sRaise, DV.fVar, DV.fOwn, DV.fC, DV.fB, DV.gB, DV.fCB, DV.gCB, DV.fCons, DV.fNil, DV.gCons, DV.gNil, DV.fT, DV.gT, DV.asB_bl, DV.asI_int, DV.fAnd, DV.fOr, DV.fNot, DV.gAnd, DV.gOr, DV.gNot, DV.fAndV, DV.fOrV, DV.fNotV, DV.gAndV, DV.gOrV, DV.fCall, DV.fCallR, DV.gCall, DV.fX, DV.xq, DV.okOf, DV.fTup, DV.fLst, DV.gTupE, DV.gLst, DV.fIf, DV.gIf, DV.qf, DV.qtf, DV.qa, DV.qi, DV.fChain, DV.fSl, DV.fO, DV.fONone, DV.mSl, DV.fSeq, DV.gSeq, DV.seqOf_lst, DV.seqOf_tup, DV.fEnum, DV.nLst, DV.nList, DV.nMul, DV.sOwn, DV.sApp, DV.sPar, DV.sParF, DV.sParOO, DV.sParDO, DV.sAug, DV.mAddI, DV.sFor, DV.sAsg, DV.sAsgF, DV.pName, DV.pNil, DV.pCons, DV.pTup, DV.wipeA, DV.mLen_lst, DV.mLen_tup, DV.mTuple, DV.mList, DV.mInt, DV.mAbs, DV.add_int, DV.mSub, DV.mLt, DV.mLe, DV.mGt, DV.mGe, DV.mRev, DV.fRev, DV.eq_ii, DV.ne_ii, DV.eq_tt, DV.ne_tt, DV.eq_ll, DV.ne_ll, Option.bind_some, Option.map_some, Option.bind_none, Option.map_none, List.getElem?_cons_zero, List.getElem?_cons_succ, List.set_cons_zero, List.set_cons_succ, List.length_cons, List.length_nil, List.length_map, Nat.zero_add, Nat.reduceAdd, ↓reduceIte, Bool.false_eq_true, if_true, if_false, Bool.not_true, Bool.not_false]
    rw [show fac j * ((j + 1 : Nat) : Int) = fac (j + 1) by rw [fac_mul]; congr 1]
    rw [show ((j + 1 : Nat) : Int) = (j : Int) + 1 by omega, ih, show j + 1 + n = j + (n + 1) by omega]
theorem v_orders_many {n : Nat} (hn : n ≤ 500) : G_orders_many [.int (n : Nat)] = some (.ok (.int (fac n))) := by
  obtain ⟨x', e⟩ := loop_fac (some (.dat (.int (n : Nat)))) 0 n 0 none (by omega)
  refine runP_rt ⟨[some (.dat (.int (n : Nat))), some (.dat (.int (fac (0 + n)))), x'], ?_⟩
  show m_orders_many [some (.dat (.int (n : Nat))), none, none] = _
  unfold m_orders_many
  have e1 : fR2 (fCons (fC (.int 1)) (fCons (fB mAdd (fVar 0) (fC (.int 1))) fNil)) [some (.dat (.int (n : Nat))), some (.dat (.int 1)), none] = some ((List.range' 0 n).map fun (k : Nat) => D.int ((k : Int) + 1)) := by
    rw [fR2_n (i := 1) (n := n) rfl (by simp only [DV.sSeq, DV.sRet, DV.sRetF, DV.sIf, DV.sIfF, DV.sSet, DV.sSetF, DV.sNil, DV.sExpr, DV.sExprX, DV.sRetX, DV.flX, DV.sRaise, DV.fVar, DV.fOwn, DV.fC, DV.fB, DV.gB, DV.fCB, DV.gCB, DV.fCons, DV.fNil, DV.gCons, DV.gNil, DV.fT, DV.gT, DV.asB_bl, DV.asI_int, DV.fAnd, DV.fOr, DV.fNot, DV.gAnd, DV.gOr, DV.gNot, DV.fAndV, DV.fOrV, DV.fNotV, DV.gAndV, DV.gOrV, DV.fCall, DV.fCallR, DV.gCall, DV.fX, DV.xq, DV.okOf, DV.fTup, DV.fLst, DV.gTupE, DV.gLst, DV.fIf, DV.gIf, DV.qf, DV.qtf, DV.qa, DV.qi, DV.fChain, DV.fSl, DV.fO, DV.fONone, DV.mSl, DV.fSeq, DV.gSeq, DV.seqOf_lst, DV.seqOf_tup, DV.fEnum, DV.nLst, DV.nList, DV.nMul, DV.sOwn, DV.sApp, DV.sPar, DV.sParF, DV.sParOO, DV.sParDO, DV.sAug, DV.mAddI, DV.sFor, DV.sAsg, DV.sAsgF, DV.pName, DV.pNil, DV.pCons, DV.pTup, DV.wipeA, DV.mLen_lst, DV.mLen_tup, DV.mTuple, DV.mList, DV.mInt, DV.mAbs, DV.add_int, DV.mSub, DV.mLt, DV.mLe, DV.mGt, DV.mGe, DV.mRev, DV.fRev, DV.eq_ii, DV.ne_ii, DV.eq_tt, DV.ne_tt, DV.eq_ll, DV.ne_ll, Option.bind_some, Option.map_some, Option.bind_none, Option.map_none, List.getElem?_cons_zero, List.getElem?_cons_succ, List.set_cons_zero, List.set_cons_succ, List.length_cons, List.length_nil, List.length_map, Nat.zero_add, Nat.reduceAdd, ↓reduceIte, Bool.false_eq_true, if_true, if_false, Bool.not_true, Bool.not_false]; congr 2; omega) (by omega), List.range_eq_range']
    congr 2
    funext j
    congr 1
    omega
  simp only [DV.sSeq, DV.sRet, DV.sRetF, DV.sIf, DV.sIfF, DV.sSet, DV.sSetF, DV.sNil, DV.sExpr, DV.sExprX, DV.sRetX, DV.flX, DV.sRaise, DV.fVar, DV.fOwn, DV.fC, DV.fB, DV.gB, DV.fCB, DV.gCB, DV.fCons, DV.fNil, DV.gCons, DV.gNil, DV.fT, DV.gT, DV.asB_bl, DV.asI_int, DV.fAnd, DV.fOr, DV.fNot, DV.gAnd, DV.gOr, DV.gNot, DV.fAndV, DV.fOrV, DV.fNotV, DV.gAndV, DV.gOrV, DV.fCall, DV.fCallR, DV.gCall, DV.fX, DV.xq, DV.okOf, DV.fTup, DV.fLst, DV.gTupE, DV.gLst, DV.fIf, DV.gIf, DV.qf, DV.qtf, DV.qa, DV.qi, DV.fChain, DV.fSl, DV.fO, DV.fONone, DV.mSl, DV.fSeq, DV.gSeq, DV.seqOf_lst, DV.seqOf_tup, DV.fEnum, DV.nLst, DV.nList, DV.nMul, DV.sOwn, DV.sApp, DV.sPar, DV.sParF, DV.sParOO, DV.sParDO, DV.sAug, DV.mAddI, DV.sFor, DV.sAsg, DV.sAsgF, DV.pName, DV.pNil, DV.pCons, DV.pTup, DV.wipeA, DV.mLen_lst, DV.mLen_tup, DV.mTuple, DV.mList, DV.mInt, DV.mAbs, DV.add_int, DV.mSub, DV.mLt, DV.mLe, DV.mGt, DV.mGe, DV.mRev, DV.fRev, DV.eq_ii, DV.ne_ii, DV.eq_tt, DV.ne_tt, DV.eq_ll, DV.ne_ll, Option.bind_some, Option.map_some, Option.bind_none, Option.map_none, List.getElem?_cons_zero, List.getElem?_cons_succ, List.set_cons_zero, List.set_cons_succ, List.length_cons, List.length_nil, List.length_map, Nat.zero_add, Nat.reduceAdd, ↓reduceIte, Bool.false_eq_true, if_true, if_false, Bool.not_true, Bool.not_false, e1]
  have e' : forGo (pName 2) (sSet 1 (fB mMul (fVar 1) (fVar 2))) ((List.range' 0 n).map fun (k : Nat) => D.int ((k : Int) + 1)) [some (.dat (.int (n : Nat))), some (.dat (.int 1)), none] = _ := e
  rw [e']
  simp only [DV.sSeq, DV.sRet, DV.sRetF, DV.sIf, DV.sIfF, DV.sSet, DV.sSetF, DV.sNil, DV.sExpr, DV.sExprX, DV.sRetX, DV.flX, DV.sRaise, DV.fVar, DV.fOwn, DV.fC, DV.fB, DV.gB, DV.fCB, DV.gCB, DV.fCons, DV.fNil, DV.gCons, DV.gNil, DV.fT, DV.gT, DV.asB_bl, DV.asI_int, DV.fAnd, DV.fOr, DV.fNot, DV.gAnd, DV.gOr, DV.gNot, DV.fAndV, DV.fOrV, DV.fNotV, DV.gAndV, DV.gOrV, DV.fCall, DV.fCallR, DV.gCall, DV.fX, DV.xq, DV.okOf, DV.fTup, DV.fLst, DV.gTupE, DV.gLst, DV.fIf, DV.gIf, DV.qf, DV.qtf, DV.qa, DV.qi, DV.fChain, DV.fSl, DV.fO, DV.fONone, DV.mSl, DV.fSeq, DV.gSeq, DV.seqOf_lst, DV.seqOf_tup, DV.fEnum, DV.nLst, DV.nList, DV.nMul, DV.sOwn, DV.sApp, DV.sPar, DV.sParF, DV.sParOO, DV.sParDO, DV.sAug, DV.mAddI, DV.sFor, DV.sAsg, DV.sAsgF, DV.pName, DV.pNil, DV.pCons, DV.pTup, DV.wipeA, DV.mLen_lst, DV.mLen_tup, DV.mTuple, DV.mList, DV.mInt, DV.mAbs, DV.add_int, DV.mSub, DV.mLt, DV.mLe, DV.mGt, DV.mGe, DV.mRev, DV.fRev, DV.eq_ii, DV.ne_ii, DV.eq_tt, DV.ne_tt, DV.eq_ll, DV.ne_ll, Option.bind_some, Option.map_some, Option.bind_none, Option.map_none, List.getElem?_cons_zero, List.getElem?_cons_succ, List.set_cons_zero, List.set_cons_succ, List.length_cons, List.length_nil, List.length_map, Nat.zero_add, Nat.reduceAdd, ↓reduceIte, Bool.false_eq_true, if_true, if_false, Bool.not_true, Bool.not_false, Nat.zero_add]
/-! ## order_number -/
theorem loop_num (p : List Int) : ∀ (cs : List Int) (j : Nat) (f : Int) (x y : Option AV), j + cs.length = p.length → p.length ≤ 1000 →
    ∃ x' y', forGo (pTup 2 (pCons (pName 2) (pCons (pName 3) pNil))) (sSet 1 (fB mAdd (fB mMul (fVar 1) (fB mSub (fCB mLen (fCons (fVar 0) fNil)) (fVar 2))) (fVar 3))) (((List.range' j cs.length).zip cs).map fun q => .tup [.int (q.1 : Nat), .int q.2]) [some (.dat (T p)), some (.dat (.int f)), x, y] = some (.nx [some (.dat (T p)), some (.dat (.int (f * fac cs.length + num cs))), x', y'])
  | [], j, f, x, y, _, _ => ⟨x, y, by
    show some (Fl.nx _) = _
    rw [show f * fac ([] : List Int).length + num [] = f by show f * 1 + 0 = f; omega]⟩
  | c :: cs, j, f, x, y, h, hz => by
    rw [List.length_cons] at h
    obtain ⟨x', y', ih⟩ := loop_num p cs (j + 1) (f * ((cs.length + 1 : Nat) : Int) + c) (some (.dat (.int (j : Nat)))) (some (.dat (.int c))) (by omega) hz
    refine ⟨x', y', ?_⟩
    rw [List.length_cons, List.range'_succ, List.zip_cons_cons, List.map_cons]
    unfold forGo
    simp only [DV.sSeq, DV.sRet, DV.sRetF, DV.sIf, DV.sIfF, DV.sSet, DV.sSetF, DV.sNil, DV.sExpr, DV.sExprX, DV.sRetX, DV.flX, DV.sRaise, DV.fVar, DV.fOwn, DV.fC, DV.fB, DV.gB, DV.fCB, DV.gCB, DV.fCons, DV.fNil, DV.gCons, DV.gNil, DV.fT, DV.gT, DV.asB_bl, DV.asI_int, DV.fAnd, DV.fOr, DV.fNot, DV.gAnd, DV.gOr, DV.gNot, DV.fAndV, DV.fOrV, DV.fNotV, DV.gAndV, DV.gOrV, DV.fCall, DV.fCallR, DV.gCall, DV.fX, DV.xq, DV.okOf, DV.fTup, DV.fLst, DV.gTupE, DV.gLst, DV.fIf, DV.gIf, DV.qf, DV.qtf, DV.qa, DV.qi, DV.fChain, DV.fSl, DV.fO, DV.fONone, DV.mSl, DV.fSeq, DV.gSeq, DV.seqOf_lst, DV.seqOf_tup, DV.fEnum, DV.nLst, DV.nList, DV.nMul, DV.sOwn, DV.sApp, DV.sPar, DV.sParF, DV.sParOO, DV.sParDO, DV.sAug, DV.mAddI, DV.sFor, DV.sAsg, DV.sAsgF, DV.pName, DV.pNil, DV.pCons, DV.pTup, DV.wipeA, DV.mLen_lst, DV.mLen_tup, DV.mTuple, DV.mList, DV.mInt, DV.mAbs, DV.add_int, DV.mSub, DV.mLt, DV.mLe, DV.mGt, DV.mGe, DV.mRev, DV.fRev, DV.eq_ii, DV.ne_ii, DV.eq_tt, DV.ne_tt, DV.eq_ll, DV.ne_ll, Option.bind_some, Option.map_some, Option.bind_none, Option.map_none, List.getElem?_cons_zero, List.getElem?_cons_succ, List.set_cons_zero, List.set_cons_succ, List.length_cons, List.length_nil, List.length_map, Nat.zero_add, Nat.reduceAdd, ↓reduceIte, Bool.false_eq_true, if_true, if_false, Bool.not_true, Bool.not_false]
    rw [show ((p.length : Nat) : Int) - (j : Int) = ((cs.length + 1 : Nat) : Int) by omega, mul_small2 (by omega)]
    simp only [DV.sSeq, DV.sRet, DV.sRetF, DV.sIf, DV.sIfF, DV.sSet, DV.sSetF, DV.sNil, DV.sExpr, DV.sExprX, DV.sRetX, DV.flX, DV.sRaise, DV.fVar, DV.fOwn, DV.fC, DV.fB, DV.gB, DV.fCB, DV.gCB, DV.fCons, DV.fNil, DV.gCons, DV.gNil, DV.fT, DV.gT, DV.asB_bl, DV.asI_int, DV.fAnd, DV.fOr, DV.fNot, DV.gAnd, DV.gOr, DV.gNot, DV.fAndV, DV.fOrV, DV.fNotV, DV.gAndV, DV.gOrV, DV.fCall, DV.fCallR, DV.gCall, DV.fX, DV.xq, DV.okOf, DV.fTup, DV.fLst, DV.gTupE, DV.gLst, DV.fIf, DV.gIf, DV.qf, DV.qtf, DV.qa, DV.qi, DV.fChain, DV.fSl, DV.fO, DV.fONone, DV.mSl, DV.fSeq, DV.gSeq, DV.seqOf_lst, DV.seqOf_tup, DV.fEnum, DV.nLst, DV.nList, DV.nMul, DV.sOwn, DV.sApp, DV.sPar, DV.sParF, DV.sParOO, DV.sParDO, DV.sAug, DV.mAddI, DV.sFor, DV.sAsg, DV.sAsgF, DV.pName, DV.pNil, DV.pCons, DV.pTup, DV.wipeA, DV.mLen_lst, DV.mLen_tup, DV.mTuple, DV.mList, DV.mInt, DV.mAbs, DV.add_int, DV.mSub, DV.mLt, DV.mLe, DV.mGt, DV.mGe, DV.mRev, DV.fRev, DV.eq_ii, DV.ne_ii, DV.eq_tt, DV.ne_tt, DV.eq_ll, DV.ne_ll, Option.bind_some, Option.map_some, Option.bind_none, Option.map_none, List.getElem?_cons_zero, List.getElem?_cons_succ, List.set_cons_zero, List.set_cons_succ, List.length_cons, List.length_nil, List.length_map, Nat.zero_add, Nat.reduceAdd, ↓reduceIte, Bool.false_eq_true, if_true, if_false, Bool.not_true, Bool.not_false]
    rw [ih]
    show some (Fl.nx [_, some (.dat (.int _)), _, _]) = some (Fl.nx [_, some (.dat (.int _)), _, _])
    have e : (f * ((cs.length + 1 : Nat) : Int) + c) * fac cs.length + num cs = f * fac (cs.length + 1) + num (c :: cs) := by
      show _ = f * (fac cs.length * ((cs.length : Int) + 1)) + (c * fac cs.length + num cs)
      rw [Int.add_mul, Int.mul_assoc, Int.mul_comm ((cs.length + 1 : Nat) : Int)]
      rw [show ((cs.length + 1 : Nat) : Int) = (cs.length : Int) + 1 by omega]
      omega
    rw [e]
theorem v_order_number {n : Nat} {p : List Int} (h : Ord' n p) : G_order_number [T p] = some (.ok (.int (num (codeL p)))) := by
  have hl := h.len
  have h60 := h.n60
  obtain ⟨x', y', e⟩ := loop_num p (codeL p) 0 0 none none (by rw [codeL_len]; omega) (by omega)
  rw [Int.zero_mul, Int.zero_add] at e
  refine runP_rt ⟨[some (.dat (T p)), some (.dat (.int (num (codeL p)))), x', y'], ?_⟩
  show m_order_number [some (.dat (T p)), none, none, none] = _
  unfold m_order_number
  simp only [DV.sSeq, DV.sRet, DV.sRetF, DV.sIf, DV.sIfF, DV.sSet, DV.sSetF, DV.sNil, DV.sExpr, DV.sExprX, DV.sRetX, DV.flX, DV.sRaise, DV.fVar, DV.fOwn, DV.fC, DV.fB, DV.gB, DV.fCB, DV.gCB, DV.fCons, DV.fNil, DV.gCons, DV.gNil, DV.fT, DV.gT, DV.asB_bl, DV.asI_int, DV.fAnd, DV.fOr, DV.fNot, DV.gAnd, DV.gOr, DV.gNot, DV.fAndV, DV.fOrV, DV.fNotV, DV.gAndV, DV.gOrV, DV.fCall, DV.fCallR, DV.gCall, DV.fX, DV.xq, DV.okOf, DV.fTup, DV.fLst, DV.gTupE, DV.gLst, DV.fIf, DV.gIf, DV.qf, DV.qtf, DV.qa, DV.qi, DV.fChain, DV.fSl, DV.fO, DV.fONone, DV.mSl, DV.fSeq, DV.gSeq, DV.seqOf_lst, DV.seqOf_tup, DV.fEnum, DV.nLst, DV.nList, DV.nMul, DV.sOwn, DV.sApp, DV.sPar, DV.sParF, DV.sParOO, DV.sParDO, DV.sAug, DV.mAddI, DV.sFor, DV.sAsg, DV.sAsgF, DV.pName, DV.pNil, DV.pCons, DV.pTup, DV.wipeA, DV.mLen_lst, DV.mLen_tup, DV.mTuple, DV.mList, DV.mInt, DV.mAbs, DV.add_int, DV.mSub, DV.mLt, DV.mLe, DV.mGt, DV.mGe, DV.mRev, DV.fRev, DV.eq_ii, DV.ne_ii, DV.eq_tt, DV.ne_tt, DV.eq_ll, DV.ne_ll, Option.bind_some, Option.map_some, Option.bind_none, Option.map_none, List.getElem?_cons_zero, List.getElem?_cons_succ, List.set_cons_zero, List.set_cons_succ, List.length_cons, List.length_nil, List.length_map, Nat.zero_add, Nat.reduceAdd, ↓reduceIte, Bool.false_eq_true, if_true, if_false, Bool.not_true, Bool.not_false, v_check_order h, v_code_of p (by omega), enum_of, List.range_eq_range']
  rw [e]
  rfl
/-! ## numbered_order -/
theorem log2_small {k : Nat} (h : k ≤ 1000) : ((k : Int)).natAbs.log2 < 9000 := by
  have := Nat.log2_le_self ((k : Int)).natAbs
  omega
theorem loop_dig (c0 : Option AV) (x : Int) : ∀ (n j : Nat) (y : Option AV), j + n ≤ 500 →
    ∃ y', forGo (pName 3) (sSeq (sApp 2 (qf (fB mMod (fVar 1) (fVar 3)))) (sSet 1 (fB mDiv (fVar 1) (fVar 3)))) ((List.range' j n).map fun (k : Nat) => D.int ((k : Int) + 1)) [c0, some (.dat (.int (x / fac j))), some (.own false ((dig j x).reverse.map D.int)), y] = some (.nx [c0, some (.dat (.int (x / fac (j + n)))), some (.own false ((dig (j + n) x).reverse.map D.int)), y'])
  | 0, j, y, _ => ⟨y, rfl⟩
  | n + 1, j, y, h => by
    obtain ⟨y', ih⟩ := loop_dig c0 x n (j + 1) (some (.dat (.int ((j : Int) + 1)))) (by omega)
    refine ⟨y', ?_⟩
    rw [List.range'_succ, List.map_cons]
    unfold forGo
    have e1 : mMod (.int (x / fac j)) (.int ((j : Int) + 1)) = some (.int ((x / fac j) % ((j : Int) + 1))) := mod_pos (by omega)
    have e2 : mDiv (.int (x / fac j)) (.int ((j : Int) + 1)) = some (.int (x / fac (j + 1))) := by
      have e0 := div_pos (i := x / fac j) (j := ((j + 1 : Nat) : Int)) (by omega) (log2_small (k := j + 1) (by omega))
      rw [show ((j + 1 : Nat) : Int) = (j : Int) + 1 by omega] at e0
      rw [e0, fac_mul, Int.ediv_ediv_of_nonneg (Int.le_of_lt (fac_pos j))]
    have e3 : szOk ((dig j x).reverse.length + 1) = true := szOk_le (by rw [List.length_reverse, dig_len]; omega)
    simp only [DV.sSeq, DV.sRet, DV.sRetF, DV.sIf, DV.sIfF, DV.sSet, DV.sSetF, DV.sNil, DV.sExpr, DV.sExprX, DV.sRetX, DV.flX, DV.sRaise, DV.fVar, DV.fOwn, DV.fC, DV.fB, DV.gB, DV.fCB, DV.gCB, DV.fCons, DV.fNil, DV.gCons, DV.gNil, DV.fT, DV.gT, DV.asB_bl, DV.asI_int, DV.fAnd, DV.fOr, DV.fNot, DV.gAnd, DV.gOr, DV.gNot, DV.fAndV, DV.fOrV, DV.fNotV, DV.gAndV, DV.gOrV, DV.fCall, DV.fCallR, DV.gCall, DV.fX, DV.xq, DV.okOf, DV.fTup, DV.fLst, DV.gTupE, DV.gLst, DV.fIf, DV.gIf, DV.qf, DV.qtf, DV.qa, DV.qi, DV.fChain, DV.fSl, DV.fO, DV.fONone, DV.mSl, DV.fSeq, DV.gSeq, DV.seqOf_lst, DV.seqOf_tup, DV.fEnum, DV.nLst, DV.nList, DV.nMul, DV.sOwn, DV.sApp, DV.sPar, DV.sParF, DV.sParOO, DV.sParDO, DV.sAug, DV.mAddI, DV.sFor, DV.sAsg, DV.sAsgF, DV.pName, DV.pNil, DV.pCons, DV.pTup, DV.wipeA, DV.mLen_lst, DV.mLen_tup, DV.mTuple, DV.mList, DV.mInt, DV.mAbs, DV.add_int, DV.mSub, DV.mLt, DV.mLe, DV.mGt, DV.mGe, DV.mRev, DV.fRev, DV.eq_ii, DV.ne_ii, DV.eq_tt, DV.ne_tt, DV.eq_ll, DV.ne_ll, Option.bind_some, Option.map_some, Option.bind_none, Option.map_none, List.getElem?_cons_zero, List.getElem?_cons_succ, List.set_cons_zero, List.set_cons_succ, List.length_cons, List.length_nil, List.length_map, Nat.zero_add, Nat.reduceAdd, ↓reduceIte, Bool.false_eq_true, if_true, if_false, Bool.not_true, Bool.not_false, e1, e2, e3]
    have e4 : (dig j x).reverse.map D.int ++ [D.int ((x / fac j) % ((j : Int) + 1))] = (dig (j + 1) x).reverse.map D.int := by
      show _ = (((x / fac j) % ((j : Int) + 1)) :: dig j x).reverse.map D.int
      rw [List.reverse_cons, List.map_append]; rfl
    rw [e4, ih, show j + 1 + n = j + (n + 1) by omega]
theorem v_numbered_order (a : Ad) {n : Nat} {x : Int} (h1 : 1 ≤ n) (h60 : n ≤ 60) (x0 : 0 ≤ x) (x1 : x < fac n) : G_numbered_order a [.int (n : Nat), .int x] = some (.ok (T (obc (DV.rng n) (dig n x)))) := by
  obtain ⟨y', e⟩ := loop_dig (some (.dat (.int (n : Nat)))) x n 0 none (by omega)
  rw [show x / fac 0 = x by show x / 1 = x; omega, Nat.zero_add] at e
  refine runP_rt ⟨[some (.dat (.int (n : Nat))), some (.dat (.int (x / fac n))), some (.own false ((dig n x).reverse.map D.int)), y'], ?_⟩
  show m_numbered_order a [some (.dat (.int (n : Nat))), some (.dat (.int x)), none, none] = _
  unfold m_numbered_order
  have e1 : G_check_within [.int (n : Nat), .int 1, .int 60] = some (.ok .non) := v_check_within (by omega) (by omega)
  have e2 : G_check_within [.int x, .int 0, .int (fac n - 1)] = some (.ok .non) := v_check_within x0 (by omega)
  have e3 : szOk 0 = true := rfl
  have e4 : fR2 (fCons (fC (.int 1)) (fCons (fB mAdd (fVar 0) (fC (.int 1))) fNil)) [some (.dat (.int (n : Nat))), some (.dat (.int x)), some (.own false []), none] = some ((List.range' 0 n).map fun (k : Nat) => D.int ((k : Int) + 1)) := by
    rw [fR2_n (i := 1) (n := n) rfl (by simp only [DV.sSeq, DV.sRet, DV.sRetF, DV.sIf, DV.sIfF, DV.sSet, DV.sSetF, DV.sNil, DV.sExpr, DV.sExprX, DV.sRetX, DV.flX, DV.sRaise, DV.fVar, DV.fOwn, DV.fC, DV.fB, DV.gB, DV.fCB, DV.gCB, DV.fCons, DV.fNil, DV.gCons, DV.gNil, DV.fT, DV.gT, DV.asB_bl, DV.asI_int, DV.fAnd, DV.fOr, DV.fNot, DV.gAnd, DV.gOr, DV.gNot, DV.fAndV, DV.fOrV, DV.fNotV, DV.gAndV, DV.gOrV, DV.fCall, DV.fCallR, DV.gCall, DV.fX, DV.xq, DV.okOf, DV.fTup, DV.fLst, DV.gTupE, DV.gLst, DV.fIf, DV.gIf, DV.qf, DV.qtf, DV.qa, DV.qi, DV.fChain, DV.fSl, DV.fO, DV.fONone, DV.mSl, DV.fSeq, DV.gSeq, DV.seqOf_lst, DV.seqOf_tup, DV.fEnum, DV.nLst, DV.nList, DV.nMul, DV.sOwn, DV.sApp, DV.sPar, DV.sParF, DV.sParOO, DV.sParDO, DV.sAug, DV.mAddI, DV.sFor, DV.sAsg, DV.sAsgF, DV.pName, DV.pNil, DV.pCons, DV.pTup, DV.wipeA, DV.mLen_lst, DV.mLen_tup, DV.mTuple, DV.mList, DV.mInt, DV.mAbs, DV.add_int, DV.mSub, DV.mLt, DV.mLe, DV.mGt, DV.mGe, DV.mRev, DV.fRev, DV.eq_ii, DV.ne_ii, DV.eq_tt, DV.ne_tt, DV.eq_ll, DV.ne_ll, Option.bind_some, Option.map_some, Option.bind_none, Option.map_none, List.getElem?_cons_zero, List.getElem?_cons_succ, List.set_cons_zero, List.set_cons_succ, List.length_cons, List.length_nil, List.length_map, Nat.zero_add, Nat.reduceAdd, ↓reduceIte, Bool.false_eq_true, if_true, if_false, Bool.not_true, Bool.not_false]; congr 2; omega) (by omega), List.range_eq_range']
    congr 2
    funext j
    congr 1
    omega
  have e5 := v_order_by_code a (cs := dig n x) (by rw [dig_len]; omega) (dig_valid n x)
  rw [dig_len] at e5
  simp only [DV.sSeq, DV.sRet, DV.sRetF, DV.sIf, DV.sIfF, DV.sSet, DV.sSetF, DV.sNil, DV.sExpr, DV.sExprX, DV.sRetX, DV.flX, DV.sRaise, DV.fVar, DV.fOwn, DV.fC, DV.fB, DV.gB, DV.fCB, DV.gCB, DV.fCons, DV.fNil, DV.gCons, DV.gNil, DV.fT, DV.gT, DV.asB_bl, DV.asI_int, DV.fAnd, DV.fOr, DV.fNot, DV.gAnd, DV.gOr, DV.gNot, DV.fAndV, DV.fOrV, DV.fNotV, DV.gAndV, DV.gOrV, DV.fCall, DV.fCallR, DV.gCall, DV.fX, DV.xq, DV.okOf, DV.fTup, DV.fLst, DV.gTupE, DV.gLst, DV.fIf, DV.gIf, DV.qf, DV.qtf, DV.qa, DV.qi, DV.fChain, DV.fSl, DV.fO, DV.fONone, DV.mSl, DV.fSeq, DV.gSeq, DV.seqOf_lst, DV.seqOf_tup, DV.fEnum, DV.nLst, DV.nList, DV.nMul, DV.sOwn, DV.sApp, DV.sPar, DV.sParF, DV.sParOO, DV.sParDO, DV.sAug, DV.mAddI, DV.sFor, DV.sAsg, DV.sAsgF, DV.pName, DV.pNil, DV.pCons, DV.pTup, DV.wipeA, DV.mLen_lst, DV.mLen_tup, DV.mTuple, DV.mList, DV.mInt, DV.mAbs, DV.add_int, DV.mSub, DV.mLt, DV.mLe, DV.mGt, DV.mGe, DV.mRev, DV.fRev, DV.eq_ii, DV.ne_ii, DV.eq_tt, DV.ne_tt, DV.eq_ll, DV.ne_ll, Option.bind_some, Option.map_some, Option.bind_none, Option.map_none, List.getElem?_cons_zero, List.getElem?_cons_succ, List.set_cons_zero, List.set_cons_succ, List.length_cons, List.length_nil, List.length_map, Nat.zero_add, Nat.reduceAdd, ↓reduceIte, Bool.false_eq_true, if_true, if_false, Bool.not_true, Bool.not_false, e1, v_orders_many (show n ≤ 500 by omega), e2, e3, e4]
  have e' : forGo (pName 3) (sSeq (sApp 2 (qf (fB mMod (fVar 1) (fVar 3)))) (sSet 1 (fB mDiv (fVar 1) (fVar 3)))) ((List.range' 0 n).map fun (k : Nat) => D.int ((k : Int) + 1)) [some (.dat (.int (n : Nat))), some (.dat (.int x)), some (.own false []), none] = _ := e
  rw [e']
  simp only [DV.sSeq, DV.sRet, DV.sRetF, DV.sIf, DV.sIfF, DV.sSet, DV.sSetF, DV.sNil, DV.sExpr, DV.sExprX, DV.sRetX, DV.flX, DV.sRaise, DV.fVar, DV.fOwn, DV.fC, DV.fB, DV.gB, DV.fCB, DV.gCB, DV.fCons, DV.fNil, DV.gCons, DV.gNil, DV.fT, DV.gT, DV.asB_bl, DV.asI_int, DV.fAnd, DV.fOr, DV.fNot, DV.gAnd, DV.gOr, DV.gNot, DV.fAndV, DV.fOrV, DV.fNotV, DV.gAndV, DV.gOrV, DV.fCall, DV.fCallR, DV.gCall, DV.fX, DV.xq, DV.okOf, DV.fTup, DV.fLst, DV.gTupE, DV.gLst, DV.fIf, DV.gIf, DV.qf, DV.qtf, DV.qa, DV.qi, DV.fChain, DV.fSl, DV.fO, DV.fONone, DV.mSl, DV.fSeq, DV.gSeq, DV.seqOf_lst, DV.seqOf_tup, DV.fEnum, DV.nLst, DV.nList, DV.nMul, DV.sOwn, DV.sApp, DV.sPar, DV.sParF, DV.sParOO, DV.sParDO, DV.sAug, DV.mAddI, DV.sFor, DV.sAsg, DV.sAsgF, DV.pName, DV.pNil, DV.pCons, DV.pTup, DV.wipeA, DV.mLen_lst, DV.mLen_tup, DV.mTuple, DV.mList, DV.mInt, DV.mAbs, DV.add_int, DV.mSub, DV.mLt, DV.mLe, DV.mGt, DV.mGe, DV.mRev, DV.fRev, DV.eq_ii, DV.ne_ii, DV.eq_tt, DV.ne_tt, DV.eq_ll, DV.ne_ll, Option.bind_some, Option.map_some, Option.bind_none, Option.map_none, List.getElem?_cons_zero, List.getElem?_cons_succ, List.set_cons_zero, List.set_cons_succ, List.length_cons, List.length_nil, List.length_map, Nat.zero_add, Nat.reduceAdd, ↓reduceIte, Bool.false_eq_true, if_true, if_false, Bool.not_true, Bool.not_false, ← List.map_reverse, List.reverse_reverse, e5]
end W74

namespace W74
open P74 DV
variable [DV.TabC]
/-! ## back_of -/
theorem flat_rep (n : Nat) (d : D) : (List.replicate n [d]).flatten = List.replicate n d := by
  induction n with
  | zero => rfl
  | succ n ih => rw [List.replicate_succ, List.flatten_cons, ih, List.replicate_succ]; rfl
theorem nMul_rep {f g : AE → Option D} {A : AE} {d : D} {n : Nat} (h1 : f A = some (.lst [d])) (h2 : g A = some (.int (n : Nat))) (hn : n ≤ 1000000) : nMul f g A = some (List.replicate n d, A) := by
  unfold nMul
  rw [h1, Option.bind_some, h2, Option.bind_some]
  show (if (decide (((n : Nat) : Int).natAbs < 2 ^ 63) && szOk ([d].length * ((n : Nat) : Int).toNat)) = true then some ((List.replicate ((n : Nat) : Int).toNat [d]).flatten, A) else none) = _
  rw [if_pos, Int.toNat_natCast, flat_rep]
  rw [Bool.and_eq_true, decide_eq_true_eq]
  exact ⟨by omega, szOk_le (by rw [Int.toNat_natCast, List.length_singleton]; omega)⟩
theorem setI_eq {i : Nat} {q : AE → Option (D × AE)} {j : AE → Option D} {A A1 : AE} {d : D} {k : Nat} {t : Bool} {xs : List D} (h1 : q A = some (d, A1)) (h2 : j A1 = some (.int (k : Nat))) (h3 : A1[i]? = some (some (.own t xs))) (hk : k < xs.length) : sSetI i q j A = some (.nx (A1.set i (some (.own t (xs.set k d))))) := by
  unfold sSetI
  rw [h1, Option.bind_some, h2, Option.bind_some, asI_int, Option.bind_some]
  simp only [h3]
  rw [if_pos (by rw [decide_eq_true_eq]; omega), Int.toNat_natCast]
theorem loop_back (p : List Int) (n : Nat) : ∀ (r : List Int) (pre : List Int) (q : List Int) (x y : Option AV), p = pre ++ r → q.length = n → (∀ v, v ∈ p → 0 ≤ v ∧ v < (n : Int)) → p.Nodup → (∀ i, i < pre.length → q.getD (p.getD i 0).toNat 0 = (i : Nat)) →
    ∃ (q' : List Int) (x' y' : Option AV), forGo (pTup 2 (pCons (pName 2) (pCons (pName 3) pNil))) (sSetI 1 (qf (fVar 2)) (fVar 3)) (((List.range' pre.length r.length).zip r).map fun z => .tup [.int (z.1 : Nat), .int z.2]) [some (.dat (T p)), some (.own false (q.map D.int)), x, y] = some (.nx [some (.dat (T p)), some (.own false (q'.map D.int)), x', y']) ∧ q'.length = n ∧ ∀ i, i < p.length → q'.getD (p.getD i 0).toNat 0 = (i : Nat)
  | [], pre, q, x, y, hp, hl, _, _, hq => ⟨q, x, y, rfl, hl, fun i hi => hq i (by rw [hp, List.append_nil] at hi; exact hi)⟩
  | v :: r, pre, q, x, y, hp, hl, hv, nd, hq => by
    have hvm : v ∈ p := by rw [hp]; exact List.mem_append_right _ List.mem_cons_self
    obtain ⟨v0, v1⟩ := hv v hvm
    obtain ⟨k, rfl⟩ : ∃ k : Nat, v = k := ⟨v.toNat, by omega⟩
    have hpre : p.getD pre.length 0 = (k : Nat) := by
      rw [hp, List.getD_eq_getElem?_getD, List.getElem?_append_right (Nat.le_refl _), Nat.sub_self]; rfl
    have hplen : pre.length < p.length := by rw [hp, List.length_append, List.length_cons]; omega
    obtain ⟨q', x', y', i1, i2, i3⟩ := loop_back p n r (pre ++ [(k : Int)]) (q.set k ((pre.length : Nat) : Int)) (some (.dat (.int (pre.length : Nat)))) (some (.dat (.int (k : Nat)))) (by rw [hp, List.append_assoc]; rfl) (by rw [List.length_set]; exact hl) hv nd (fun i hi => by
      rw [List.length_append, List.length_singleton] at hi
      by_cases e : i = pre.length
      · subst e
        rw [hpre, Int.toNat_natCast, List.getD_eq_getElem?_getD, List.getElem?_set_self (by omega)]; rfl
      · have hi' : i < pre.length := by omega
        have ne : (p.getD i 0).toNat ≠ k := fun z => by
          have hil : i < p.length := by omega
          have m : p.getD i 0 ∈ p := by rw [List.getD_eq_getElem?_getD, List.getElem?_eq_getElem hil]; exact List.getElem_mem _
          have b := (hv _ m).1
          have e1 : p[i] = p[pre.length] := by
            have a1 : p.getD i 0 = p[i] := by rw [List.getD_eq_getElem?_getD, List.getElem?_eq_getElem hil]; rfl
            have a2 : p.getD pre.length 0 = p[pre.length] := by rw [List.getD_eq_getElem?_getD, List.getElem?_eq_getElem hplen]; rfl
            rw [← a1, ← a2, hpre]; omega
          exact List.pairwise_iff_getElem.mp nd i pre.length hil hplen hi' e1
        rw [List.getD_eq_getElem?_getD, List.getElem?_set_ne (Ne.symm ne), ← List.getD_eq_getElem?_getD]
        exact hq i hi')
    refine ⟨q', x', y', ?_, i2, i3⟩
    rw [List.length_append, List.length_singleton] at i1
    rw [List.length_cons, List.range'_succ, List.zip_cons_cons, List.map_cons]
    unfold forGo
    have e1 : sSetI 1 (qf (fVar 2)) (fVar 3) [some (.dat (T p)), some (.own false (q.map D.int)), some (.dat (.int (pre.length : Nat))), some (.dat (.int (k : Nat)))] = some (.nx [some (.dat (T p)), some (.own false ((q.set k ((pre.length : Nat) : Int)).map D.int)), some (.dat (.int (pre.length : Nat))), some (.dat (.int (k : Nat)))]) := by
      rw [setI_eq (k := k) (t := false) (xs := q.map D.int) rfl rfl rfl (by rw [List.length_map]; omega), ← List.map_set]; rfl
    simp only [DV.sSeq, DV.sRet, DV.sRetF, DV.sIf, DV.sIfF, DV.sSet, DV.sSetF, DV.sNil, DV.sExpr, DV.sExprX, DV.sRetX, DV.flX, DV.sRaise, DV.fVar, DV.fOwn, DV.fC, DV.fB, DV.gB, DV.fCB, DV.gCB, DV.fCons, DV.fNil, DV.gCons, DV.gNil, DV.fT, DV.gT, DV.asB_bl, DV.asI_int, DV.fAnd, DV.fOr, DV.fNot, DV.gAnd, DV.gOr, DV.gNot, DV.fAndV, DV.fOrV, DV.fNotV, DV.gAndV, DV.gOrV, DV.fCall, DV.fCallR, DV.gCall, DV.fX, DV.xq, DV.okOf, DV.fTup, DV.fLst, DV.gTupE, DV.gLst, DV.fIf, DV.gIf, DV.qf, DV.qtf, DV.qa, DV.qi, DV.fChain, DV.fSl, DV.fO, DV.fONone, DV.mSl, DV.fSeq, DV.gSeq, DV.seqOf_lst, DV.seqOf_tup, DV.fEnum, DV.nLst, DV.nList, DV.nMul, DV.sOwn, DV.sApp, DV.sPar, DV.sParF, DV.sParOO, DV.sParDO, DV.sAug, DV.mAddI, DV.sFor, DV.sAsg, DV.sAsgF, DV.pName, DV.pNil, DV.pCons, DV.pTup, DV.wipeA, DV.mLen_lst, DV.mLen_tup, DV.mTuple, DV.mList, DV.mInt, DV.mAbs, DV.add_int, DV.mSub, DV.mLt, DV.mLe, DV.mGt, DV.mGe, DV.mRev, DV.fRev, DV.eq_ii, DV.ne_ii, DV.eq_tt, DV.ne_tt, DV.eq_ll, DV.ne_ll, Option.bind_some, Option.map_some, Option.bind_none, Option.map_none, List.getElem?_cons_zero, List.getElem?_cons_succ, List.set_cons_zero, List.set_cons_succ, List.length_cons, List.length_nil, List.length_map, Nat.zero_add, Nat.reduceAdd, ↓reduceIte, Bool.false_eq_true, if_true, if_false, Bool.not_true, Bool.not_false, e1]
    exact i1
theorem Ord'.nodup {n : Nat} {p : List Int} (h : Ord' n p) : p.Nodup := (h.pe.nodup_iff).mpr ((rng_sd n).imp fun h => Int.ne_of_lt h)
theorem Ord'.mem {n : Nat} {p : List Int} (h : Ord' n p) {v : Int} (hv : v ∈ p) : 0 ≤ v ∧ v < (n : Int) := mem_rng.mp (h.pe.subset hv)
theorem v_back_of {n : Nat} {p : List Int} (h : Ord' n p) : ∃ q : List Int, G_back_of [T p] = some (.ok (T q)) ∧ q.length = n ∧ ∀ i, i < n → q.getD (p.getD i 0).toNat 0 = (i : Nat) := by
  have hl := h.len
  have h60 := h.n60
  obtain ⟨q, x', y', e, q1, q2⟩ := loop_back p n p [] (List.replicate n 0) none none rfl (by simp) (fun v hv => h.mem hv) h.nodup (fun i hi => by simp at hi)
  refine ⟨q, ?_, q1, fun i hi => q2 i (by omega)⟩
  refine runP_rt ⟨[some (.dat (T p)), some (.own false (q.map D.int)), x', y'], ?_⟩
  show m_back_of [some (.dat (T p)), none, none, none] = _
  unfold m_back_of
  have e1 : nMul (fLst (fCons (fC (.int 0)) fNil)) (fCB mLen (fCons (fVar 0) fNil)) [some (.dat (T p)), none, none, none] = some (List.replicate n (.int 0), [some (.dat (T p)), none, none, none]) := nMul_rep rfl (by simp only [DV.sSeq, DV.sRet, DV.sRetF, DV.sIf, DV.sIfF, DV.sSet, DV.sSetF, DV.sNil, DV.sExpr, DV.sExprX, DV.sRetX, DV.flX, DV.sRaise, DV.fVar, DV.fOwn, DV.fC, DV.fB, DV.gB, DV.fCB, DV.gCB, DV.fCons, DV.fNil, DV.gCons, DV.gNil, DV.fT, DV.gT, DV.asB_bl, DV.asI_int, DV.fAnd, DV.fOr, DV.fNot, DV.gAnd, DV.gOr, DV.gNot, DV.fAndV, DV.fOrV, DV.fNotV, DV.gAndV, DV.gOrV, DV.fCall, DV.fCallR, DV.gCall, DV.fX, DV.xq, DV.okOf, DV.fTup, DV.fLst, DV.gTupE, DV.gLst, DV.fIf, DV.gIf, DV.qf, DV.qtf, DV.qa, DV.qi, DV.fChain, DV.fSl, DV.fO, DV.fONone, DV.mSl, DV.fSeq, DV.gSeq, DV.seqOf_lst, DV.seqOf_tup, DV.fEnum, DV.nLst, DV.nList, DV.nMul, DV.sOwn, DV.sApp, DV.sPar, DV.sParF, DV.sParOO, DV.sParDO, DV.sAug, DV.mAddI, DV.sFor, DV.sAsg, DV.sAsgF, DV.pName, DV.pNil, DV.pCons, DV.pTup, DV.wipeA, DV.mLen_lst, DV.mLen_tup, DV.mTuple, DV.mList, DV.mInt, DV.mAbs, DV.add_int, DV.mSub, DV.mLt, DV.mLe, DV.mGt, DV.mGe, DV.mRev, DV.fRev, DV.eq_ii, DV.ne_ii, DV.eq_tt, DV.ne_tt, DV.eq_ll, DV.ne_ll, Option.bind_some, Option.map_some, Option.bind_none, Option.map_none, List.getElem?_cons_zero, List.getElem?_cons_succ, List.set_cons_zero, List.set_cons_succ, List.length_cons, List.length_nil, List.length_map, Nat.zero_add, Nat.reduceAdd, ↓reduceIte, Bool.false_eq_true, if_true, if_false, Bool.not_true, Bool.not_false, hl]) (by omega)
  have e2 : (List.replicate n (0 : Int)).map D.int = List.replicate n (D.int 0) := by rw [List.map_replicate]
  rw [e2] at e
  simp only [DV.sSeq, DV.sOwn, e1, Option.map_some, Option.bind_some]
  simp only [DV.sSeq, DV.sRet, DV.sRetF, DV.sIf, DV.sIfF, DV.sSet, DV.sSetF, DV.sNil, DV.sExpr, DV.sExprX, DV.sRetX, DV.flX, DV.sRaise, DV.fVar, DV.fOwn, DV.fC, DV.fB, DV.gB, DV.fCB, DV.gCB, DV.fCons, DV.fNil, DV.gCons, DV.gNil, DV.fT, DV.gT, DV.asB_bl, DV.asI_int, DV.fAnd, DV.fOr, DV.fNot, DV.gAnd, DV.gOr, DV.gNot, DV.fAndV, DV.fOrV, DV.fNotV, DV.gAndV, DV.gOrV, DV.fCall, DV.fCallR, DV.gCall, DV.fX, DV.xq, DV.okOf, DV.fTup, DV.fLst, DV.gTupE, DV.gLst, DV.fIf, DV.gIf, DV.qf, DV.qtf, DV.qa, DV.qi, DV.fChain, DV.fSl, DV.fO, DV.fONone, DV.mSl, DV.fSeq, DV.gSeq, DV.seqOf_lst, DV.seqOf_tup, DV.fEnum, DV.nLst, DV.nList, DV.nMul, DV.sOwn, DV.sApp, DV.sPar, DV.sParF, DV.sParOO, DV.sParDO, DV.sAug, DV.mAddI, DV.sFor, DV.sAsg, DV.sAsgF, DV.pName, DV.pNil, DV.pCons, DV.pTup, DV.wipeA, DV.mLen_lst, DV.mLen_tup, DV.mTuple, DV.mList, DV.mInt, DV.mAbs, DV.add_int, DV.mSub, DV.mLt, DV.mLe, DV.mGt, DV.mGe, DV.mRev, DV.fRev, DV.eq_ii, DV.ne_ii, DV.eq_tt, DV.ne_tt, DV.eq_ll, DV.ne_ll, Option.bind_some, Option.map_some, Option.bind_none, Option.map_none, List.getElem?_cons_zero, List.getElem?_cons_succ, List.set_cons_zero, List.set_cons_succ, List.length_cons, List.length_nil, List.length_map, Nat.zero_add, Nat.reduceAdd, ↓reduceIte, Bool.false_eq_true, if_true, if_false, Bool.not_true, Bool.not_false, enum_of, List.range_eq_range']
  have e' : forGo (pTup 2 (pCons (pName 2) (pCons (pName 3) pNil))) (sSetI 1 (qf (fVar 2)) (fVar 3)) (((List.range' 0 p.length).zip p).map fun z => .tup [.int (z.1 : Nat), .int z.2]) [some (.dat (T p)), some (.own false (List.replicate n (D.int 0))), none, none] = _ := e
  rw [e']
  rfl
/-! ## falling_pairs, distance -/
theorem loop_fall (p : List Int) : ∀ (r pre : List Int) (f : Int) (x y z : Option AV), p = pre ++ r → p.length ≤ 1000 →
    ∃ x' y' z', forGo (pTup 2 (pCons (pName 2) (pCons (pName 3) pNil))) (sAug 1 mAddI (fCB mLen (fCons (fLC (fSeq (fSl (fVar 0) (fO (fB mAdd (fVar 2) (fC (.int 1)))) fONone)) ([4] : List Nat) (pName 4) (fT (fB mLt (fVar 4) (fVar 3))) (fVar 4)) fNil))) (((List.range' pre.length r.length).zip r).map fun z => .tup [.int (z.1 : Nat), .int z.2]) [some (.dat (T p)), some (.dat (.int f)), x, y, z] = some (.nx [some (.dat (T p)), some (.dat (.int (f + (codeL r).sum))), x', y', z'])
  | [], pre, f, x, y, z, hp, _ => ⟨x, y, z, by rw [show f + (codeL []).sum = f by show f + 0 = f; omega]; rfl⟩
  | v :: r, pre, f, x, y, z, hp, hz => by
    obtain ⟨x', y', z', ih⟩ := loop_fall p r (pre ++ [v]) (f + ((r.filter fun u => decide (u < v)).length : Int)) (some (.dat (.int (pre.length : Nat)))) (some (.dat (.int v))) z (by rw [hp, List.append_assoc]; rfl) hz
    refine ⟨x', y', z', ?_⟩
    rw [List.length_append, List.length_singleton] at ih
    rw [List.length_cons, List.range'_succ, List.zip_cons_cons, List.map_cons]
    unfold forGo
    have ed : p.drop (pre.length + 1) = r := by
      rw [hp, show pre.length + 1 = (pre ++ [v]).length by simp, show pre ++ v :: r = (pre ++ [v]) ++ r by simp, List.drop_left]
    have e1 : fLC (fSeq (fSl (fVar 0) (fO (fB mAdd (fVar 2) (fC (.int 1)))) fONone)) ([4] : List Nat) (pName 4) (fT (fB mLt (fVar 4) (fVar 3))) (fVar 4) [some (.dat (T p)), some (.dat (.int f)), some (.dat (.int (pre.length : Nat))), some (.dat (.int v)), z] = some (.lst ((r.filter fun u => decide (u < v)).map D.int)) :=
      fLC_of r D.int (fun u => decide (u < v)) D.int (by simp only [DV.sSeq, DV.sRet, DV.sRetF, DV.sIf, DV.sIfF, DV.sSet, DV.sSetF, DV.sNil, DV.sExpr, DV.sExprX, DV.sRetX, DV.flX, DV.sRaise, DV.fVar, DV.fOwn, DV.fC, DV.fB, DV.gB, DV.fCB, DV.gCB, DV.fCons, DV.fNil, DV.gCons, DV.gNil, DV.fT, DV.gT, DV.asB_bl, DV.asI_int, DV.fAnd, DV.fOr, DV.fNot, DV.gAnd, DV.gOr, DV.gNot, DV.fAndV, DV.fOrV, DV.fNotV, DV.gAndV, DV.gOrV, DV.fCall, DV.fCallR, DV.gCall, DV.fX, DV.xq, DV.okOf, DV.fTup, DV.fLst, DV.gTupE, DV.gLst, DV.fIf, DV.gIf, DV.qf, DV.qtf, DV.qa, DV.qi, DV.fChain, DV.fSl, DV.fO, DV.fONone, DV.mSl, DV.fSeq, DV.gSeq, DV.seqOf_lst, DV.seqOf_tup, DV.fEnum, DV.nLst, DV.nList, DV.nMul, DV.sOwn, DV.sApp, DV.sPar, DV.sParF, DV.sParOO, DV.sParDO, DV.sAug, DV.mAddI, DV.sFor, DV.sAsg, DV.sAsgF, DV.pName, DV.pNil, DV.pCons, DV.pTup, DV.wipeA, DV.mLen_lst, DV.mLen_tup, DV.mTuple, DV.mList, DV.mInt, DV.mAbs, DV.add_int, DV.mSub, DV.mLt, DV.mLe, DV.mGt, DV.mGe, DV.mRev, DV.fRev, DV.eq_ii, DV.ne_ii, DV.eq_tt, DV.ne_tt, DV.eq_ll, DV.ne_ll, Option.bind_some, Option.map_some, Option.bind_none, Option.map_none, List.getElem?_cons_zero, List.getElem?_cons_succ, List.set_cons_zero, List.set_cons_succ, List.length_cons, List.length_nil, List.length_map, Nat.zero_add, Nat.reduceAdd, ↓reduceIte, Bool.false_eq_true, if_true, if_false, Bool.not_true, Bool.not_false, cut_from1, ← List.map_drop, ed]) (by rw [hp, List.length_append, List.length_cons] at hz; omega) fun u _ => ⟨[some (.dat (T p)), some (.dat (.int f)), some (.dat (.int (pre.length : Nat))), some (.dat (.int v)), some (.dat (.int u))], rfl, rfl, fun _ => rfl⟩
    simp only [DV.sSeq, DV.sRet, DV.sRetF, DV.sIf, DV.sIfF, DV.sSet, DV.sSetF, DV.sNil, DV.sExpr, DV.sExprX, DV.sRetX, DV.flX, DV.sRaise, DV.fVar, DV.fOwn, DV.fC, DV.fB, DV.gB, DV.fCB, DV.gCB, DV.fCons, DV.fNil, DV.gCons, DV.gNil, DV.fT, DV.gT, DV.asB_bl, DV.asI_int, DV.fAnd, DV.fOr, DV.fNot, DV.gAnd, DV.gOr, DV.gNot, DV.fAndV, DV.fOrV, DV.fNotV, DV.gAndV, DV.gOrV, DV.fCall, DV.fCallR, DV.gCall, DV.fX, DV.xq, DV.okOf, DV.fTup, DV.fLst, DV.gTupE, DV.gLst, DV.fIf, DV.gIf, DV.qf, DV.qtf, DV.qa, DV.qi, DV.fChain, DV.fSl, DV.fO, DV.fONone, DV.mSl, DV.fSeq, DV.gSeq, DV.seqOf_lst, DV.seqOf_tup, DV.fEnum, DV.nLst, DV.nList, DV.nMul, DV.sOwn, DV.sApp, DV.sPar, DV.sParF, DV.sParOO, DV.sParDO, DV.sAug, DV.mAddI, DV.sFor, DV.sAsg, DV.sAsgF, DV.pName, DV.pNil, DV.pCons, DV.pTup, DV.wipeA, DV.mLen_lst, DV.mLen_tup, DV.mTuple, DV.mList, DV.mInt, DV.mAbs, DV.add_int, DV.mSub, DV.mLt, DV.mLe, DV.mGt, DV.mGe, DV.mRev, DV.fRev, DV.eq_ii, DV.ne_ii, DV.eq_tt, DV.ne_tt, DV.eq_ll, DV.ne_ll, Option.bind_some, Option.map_some, Option.bind_none, Option.map_none, List.getElem?_cons_zero, List.getElem?_cons_succ, List.set_cons_zero, List.set_cons_succ, List.length_cons, List.length_nil, List.length_map, Nat.zero_add, Nat.reduceAdd, ↓reduceIte, Bool.false_eq_true, if_true, if_false, Bool.not_true, Bool.not_false, e1]
    rw [ih]
    rw [show f + ((r.filter fun u => decide (u < v)).length : Int) + (codeL r).sum = f + (codeL (v :: r)).sum by
      show _ = f + (((r.filter fun u => decide (u < v)).length : Int) + (codeL r).sum)
      omega]
theorem v_falling_pairs (p : List Int) (hz : p.length ≤ 1000) : G_falling_pairs [T p] = some (.ok (.int (codeL p).sum)) := by
  obtain ⟨x', y', z', e⟩ := loop_fall p p [] 0 none none none rfl hz
  refine runP_rt ⟨[some (.dat (T p)), some (.dat (.int (0 + (codeL p).sum))), x', y', z'], ?_⟩
  show m_falling_pairs [some (.dat (T p)), none, none, none, none] = _
  unfold m_falling_pairs
  simp only [DV.sSeq, DV.sRet, DV.sRetF, DV.sIf, DV.sIfF, DV.sSet, DV.sSetF, DV.sNil, DV.sExpr, DV.sExprX, DV.sRetX, DV.flX, DV.sRaise, DV.fVar, DV.fOwn, DV.fC, DV.fB, DV.gB, DV.fCB, DV.gCB, DV.fCons, DV.fNil, DV.gCons, DV.gNil, DV.fT, DV.gT, DV.asB_bl, DV.asI_int, DV.fAnd, DV.fOr, DV.fNot, DV.gAnd, DV.gOr, DV.gNot, DV.fAndV, DV.fOrV, DV.fNotV, DV.gAndV, DV.gOrV, DV.fCall, DV.fCallR, DV.gCall, DV.fX, DV.xq, DV.okOf, DV.fTup, DV.fLst, DV.gTupE, DV.gLst, DV.fIf, DV.gIf, DV.qf, DV.qtf, DV.qa, DV.qi, DV.fChain, DV.fSl, DV.fO, DV.fONone, DV.mSl, DV.fSeq, DV.gSeq, DV.seqOf_lst, DV.seqOf_tup, DV.fEnum, DV.nLst, DV.nList, DV.nMul, DV.sOwn, DV.sApp, DV.sPar, DV.sParF, DV.sParOO, DV.sParDO, DV.sAug, DV.mAddI, DV.sFor, DV.sAsg, DV.sAsgF, DV.pName, DV.pNil, DV.pCons, DV.pTup, DV.wipeA, DV.mLen_lst, DV.mLen_tup, DV.mTuple, DV.mList, DV.mInt, DV.mAbs, DV.add_int, DV.mSub, DV.mLt, DV.mLe, DV.mGt, DV.mGe, DV.mRev, DV.fRev, DV.eq_ii, DV.ne_ii, DV.eq_tt, DV.ne_tt, DV.eq_ll, DV.ne_ll, Option.bind_some, Option.map_some, Option.bind_none, Option.map_none, List.getElem?_cons_zero, List.getElem?_cons_succ, List.set_cons_zero, List.set_cons_succ, List.length_cons, List.length_nil, List.length_map, Nat.zero_add, Nat.reduceAdd, ↓reduceIte, Bool.false_eq_true, if_true, if_false, Bool.not_true, Bool.not_false, enum_of, List.range_eq_range']
  rw [show ([] : List Int).length = 0 from rfl] at e
  rw [e]
  simp only [DV.sSeq, DV.sRet, DV.sRetF, DV.sIf, DV.sIfF, DV.sSet, DV.sSetF, DV.sNil, DV.sExpr, DV.sExprX, DV.sRetX, DV.flX, DV.sRaise, DV.fVar, DV.fOwn, DV.fC, DV.fB, DV.gB, DV.fCB, DV.gCB, DV.fCons, DV.fNil, DV.gCons, DV.gNil, DV.fT, DV.gT, DV.asB_bl, DV.asI_int, DV.fAnd, DV.fOr, DV.fNot, DV.gAnd, DV.gOr, DV.gNot, DV.fAndV, DV.fOrV, DV.fNotV, DV.gAndV, DV.gOrV, DV.fCall, DV.fCallR, DV.gCall, DV.fX, DV.xq, DV.okOf, DV.fTup, DV.fLst, DV.gTupE, DV.gLst, DV.fIf, DV.gIf, DV.qf, DV.qtf, DV.qa, DV.qi, DV.fChain, DV.fSl, DV.fO, DV.fONone, DV.mSl, DV.fSeq, DV.gSeq, DV.seqOf_lst, DV.seqOf_tup, DV.fEnum, DV.nLst, DV.nList, DV.nMul, DV.sOwn, DV.sApp, DV.sPar, DV.sParF, DV.sParOO, DV.sParDO, DV.sAug, DV.mAddI, DV.sFor, DV.sAsg, DV.sAsgF, DV.pName, DV.pNil, DV.pCons, DV.pTup, DV.wipeA, DV.mLen_lst, DV.mLen_tup, DV.mTuple, DV.mList, DV.mInt, DV.mAbs, DV.add_int, DV.mSub, DV.mLt, DV.mLe, DV.mGt, DV.mGe, DV.mRev, DV.fRev, DV.eq_ii, DV.ne_ii, DV.eq_tt, DV.ne_tt, DV.eq_ll, DV.ne_ll, Option.bind_some, Option.map_some, Option.bind_none, Option.map_none, List.getElem?_cons_zero, List.getElem?_cons_succ, List.set_cons_zero, List.set_cons_succ, List.length_cons, List.length_nil, List.length_map, Nat.zero_add, Nat.reduceAdd, ↓reduceIte, Bool.false_eq_true, if_true, if_false, Bool.not_true, Bool.not_false]
  rw [Int.zero_add]
theorem v_check_two {n : Nat} {p q : List Int} (h : Ord' n p) (h' : Ord' n q) : G_check_two [T p, T q] = some (.ok .non) := by
  refine runP_nx ⟨[some (.dat (T p)), some (.dat (T q))], ?_⟩
  show m_check_two [some (.dat (T p)), some (.dat (T q))] = _
  unfold m_check_two
  simp only [DV.sSeq, DV.sRet, DV.sRetF, DV.sIf, DV.sIfF, DV.sSet, DV.sSetF, DV.sNil, DV.sExpr, DV.sExprX, DV.sRetX, DV.flX, DV.sRaise, DV.fVar, DV.fOwn, DV.fC, DV.fB, DV.gB, DV.fCB, DV.gCB, DV.fCons, DV.fNil, DV.gCons, DV.gNil, DV.fT, DV.gT, DV.asB_bl, DV.asI_int, DV.fAnd, DV.fOr, DV.fNot, DV.gAnd, DV.gOr, DV.gNot, DV.fAndV, DV.fOrV, DV.fNotV, DV.gAndV, DV.gOrV, DV.fCall, DV.fCallR, DV.gCall, DV.fX, DV.xq, DV.okOf, DV.fTup, DV.fLst, DV.gTupE, DV.gLst, DV.fIf, DV.gIf, DV.qf, DV.qtf, DV.qa, DV.qi, DV.fChain, DV.fSl, DV.fO, DV.fONone, DV.mSl, DV.fSeq, DV.gSeq, DV.seqOf_lst, DV.seqOf_tup, DV.fEnum, DV.nLst, DV.nList, DV.nMul, DV.sOwn, DV.sApp, DV.sPar, DV.sParF, DV.sParOO, DV.sParDO, DV.sAug, DV.mAddI, DV.sFor, DV.sAsg, DV.sAsgF, DV.pName, DV.pNil, DV.pCons, DV.pTup, DV.wipeA, DV.mLen_lst, DV.mLen_tup, DV.mTuple, DV.mList, DV.mInt, DV.mAbs, DV.add_int, DV.mSub, DV.mLt, DV.mLe, DV.mGt, DV.mGe, DV.mRev, DV.fRev, DV.eq_ii, DV.ne_ii, DV.eq_tt, DV.ne_tt, DV.eq_ll, DV.ne_ll, Option.bind_some, Option.map_some, Option.bind_none, Option.map_none, List.getElem?_cons_zero, List.getElem?_cons_succ, List.set_cons_zero, List.set_cons_succ, List.length_cons, List.length_nil, List.length_map, Nat.zero_add, Nat.reduceAdd, ↓reduceIte, Bool.false_eq_true, if_true, if_false, Bool.not_true, Bool.not_false, v_check_order h, v_check_order h', h.len, h'.len, decide_true]
theorem rng_ord {n : Nat} (h1 : 1 ≤ n) (h60 : n ≤ 60) : Ord' n (DV.rng n) := ⟨h1, h60, .refl _⟩
theorem v_distance {n : Nat} {p : List Int} (h : Ord' n p) : G_distance [T (DV.rng n), T p] = some (.ok (.int (codeL p).sum)) := by
  obtain ⟨q, e1, q1, q2⟩ := v_back_of h
  have h60 := h.n60
  have hr := rng_ord h.n1 h.n60
  refine runP_rt ⟨[some (.dat (T (DV.rng n))), some (.dat (T p)), some (.dat (T q)), none], ?_⟩
  show m_distance [some (.dat (T (DV.rng n))), some (.dat (T p)), none, none] = _
  unfold m_distance
  simp only [DV.sSeq, DV.sRet, DV.sRetF, DV.sIf, DV.sIfF, DV.sSet, DV.sSetF, DV.sNil, DV.sExpr, DV.sExprX, DV.sRetX, DV.flX, DV.sRaise, DV.fVar, DV.fOwn, DV.fC, DV.fB, DV.gB, DV.fCB, DV.gCB, DV.fCons, DV.fNil, DV.gCons, DV.gNil, DV.fT, DV.gT, DV.asB_bl, DV.asI_int, DV.fAnd, DV.fOr, DV.fNot, DV.gAnd, DV.gOr, DV.gNot, DV.fAndV, DV.fOrV, DV.fNotV, DV.gAndV, DV.gOrV, DV.fCall, DV.fCallR, DV.gCall, DV.fX, DV.xq, DV.okOf, DV.fTup, DV.fLst, DV.gTupE, DV.gLst, DV.fIf, DV.gIf, DV.qf, DV.qtf, DV.qa, DV.qi, DV.fChain, DV.fSl, DV.fO, DV.fONone, DV.mSl, DV.fSeq, DV.gSeq, DV.seqOf_lst, DV.seqOf_tup, DV.fEnum, DV.nLst, DV.nList, DV.nMul, DV.sOwn, DV.sApp, DV.sPar, DV.sParF, DV.sParOO, DV.sParDO, DV.sAug, DV.mAddI, DV.sFor, DV.sAsg, DV.sAsgF, DV.pName, DV.pNil, DV.pCons, DV.pTup, DV.wipeA, DV.mLen_lst, DV.mLen_tup, DV.mTuple, DV.mList, DV.mInt, DV.mAbs, DV.add_int, DV.mSub, DV.mLt, DV.mLe, DV.mGt, DV.mGe, DV.mRev, DV.fRev, DV.eq_ii, DV.ne_ii, DV.eq_tt, DV.ne_tt, DV.eq_ll, DV.ne_ll, Option.bind_some, Option.map_some, Option.bind_none, Option.map_none, List.getElem?_cons_zero, List.getElem?_cons_succ, List.set_cons_zero, List.set_cons_succ, List.length_cons, List.length_nil, List.length_map, Nat.zero_add, Nat.reduceAdd, ↓reduceIte, Bool.false_eq_true, if_true, if_false, Bool.not_true, Bool.not_false, v_check_two hr h, e1]
  rw [fLC_map (List.range n) (fun i => D.int ((i : Nat) : Int)) (fun i => D.int (q.getD i 0)) (by simp only [DV.sSeq, DV.sRet, DV.sRetF, DV.sIf, DV.sIfF, DV.sSet, DV.sSetF, DV.sNil, DV.sExpr, DV.sExprX, DV.sRetX, DV.flX, DV.sRaise, DV.fVar, DV.fOwn, DV.fC, DV.fB, DV.gB, DV.fCB, DV.gCB, DV.fCons, DV.fNil, DV.gCons, DV.gNil, DV.fT, DV.gT, DV.asB_bl, DV.asI_int, DV.fAnd, DV.fOr, DV.fNot, DV.gAnd, DV.gOr, DV.gNot, DV.fAndV, DV.fOrV, DV.fNotV, DV.gAndV, DV.gOrV, DV.fCall, DV.fCallR, DV.gCall, DV.fX, DV.xq, DV.okOf, DV.fTup, DV.fLst, DV.gTupE, DV.gLst, DV.fIf, DV.gIf, DV.qf, DV.qtf, DV.qa, DV.qi, DV.fChain, DV.fSl, DV.fO, DV.fONone, DV.mSl, DV.fSeq, DV.gSeq, DV.seqOf_lst, DV.seqOf_tup, DV.fEnum, DV.nLst, DV.nList, DV.nMul, DV.sOwn, DV.sApp, DV.sPar, DV.sParF, DV.sParOO, DV.sParDO, DV.sAug, DV.mAddI, DV.sFor, DV.sAsg, DV.sAsgF, DV.pName, DV.pNil, DV.pCons, DV.pTup, DV.wipeA, DV.mLen_lst, DV.mLen_tup, DV.mTuple, DV.mList, DV.mInt, DV.mAbs, DV.add_int, DV.mSub, DV.mLt, DV.mLe, DV.mGt, DV.mGe, DV.mRev, DV.fRev, DV.eq_ii, DV.ne_ii, DV.eq_tt, DV.ne_tt, DV.eq_ll, DV.ne_ll, Option.bind_some, Option.map_some, Option.bind_none, Option.map_none, List.getElem?_cons_zero, List.getElem?_cons_succ, List.set_cons_zero, List.set_cons_succ, List.length_cons, List.length_nil, List.length_map, Nat.zero_add, Nat.reduceAdd, ↓reduceIte, Bool.false_eq_true, if_true, if_false, Bool.not_true, Bool.not_false]; rw [List.map_map]; rfl) (by rw [List.length_range]; omega) fun i hi => ⟨[some (.dat (T (DV.rng n))), some (.dat (T p)), some (.dat (T q)), some (.dat (.int (i : Nat)))], rfl, rfl, ?_⟩]
  · have e2 : (List.range n).map (fun i => D.int (q.getD i 0)) = q.map D.int := by
      refine List.ext_getElem (by simp [q1]) fun i h1 h2 => ?_
      rw [List.getElem_map, List.getElem_map, List.getElem_range, List.getD_eq_getElem?_getD, List.getElem?_eq_getElem (by simpa using h2)]; rfl
    rw [e2]
    simp only [DV.sSeq, DV.sRet, DV.sRetF, DV.sIf, DV.sIfF, DV.sSet, DV.sSetF, DV.sNil, DV.sExpr, DV.sExprX, DV.sRetX, DV.flX, DV.sRaise, DV.fVar, DV.fOwn, DV.fC, DV.fB, DV.gB, DV.fCB, DV.gCB, DV.fCons, DV.fNil, DV.gCons, DV.gNil, DV.fT, DV.gT, DV.asB_bl, DV.asI_int, DV.fAnd, DV.fOr, DV.fNot, DV.gAnd, DV.gOr, DV.gNot, DV.fAndV, DV.fOrV, DV.fNotV, DV.gAndV, DV.gOrV, DV.fCall, DV.fCallR, DV.gCall, DV.fX, DV.xq, DV.okOf, DV.fTup, DV.fLst, DV.gTupE, DV.gLst, DV.fIf, DV.gIf, DV.qf, DV.qtf, DV.qa, DV.qi, DV.fChain, DV.fSl, DV.fO, DV.fONone, DV.mSl, DV.fSeq, DV.gSeq, DV.seqOf_lst, DV.seqOf_tup, DV.fEnum, DV.nLst, DV.nList, DV.nMul, DV.sOwn, DV.sApp, DV.sPar, DV.sParF, DV.sParOO, DV.sParDO, DV.sAug, DV.mAddI, DV.sFor, DV.sAsg, DV.sAsgF, DV.pName, DV.pNil, DV.pCons, DV.pTup, DV.wipeA, DV.mLen_lst, DV.mLen_tup, DV.mTuple, DV.mList, DV.mInt, DV.mAbs, DV.add_int, DV.mSub, DV.mLt, DV.mLe, DV.mGt, DV.mGe, DV.mRev, DV.fRev, DV.eq_ii, DV.ne_ii, DV.eq_tt, DV.ne_tt, DV.eq_ll, DV.ne_ll, Option.bind_some, Option.map_some, Option.bind_none, Option.map_none, List.getElem?_cons_zero, List.getElem?_cons_succ, List.set_cons_zero, List.set_cons_succ, List.length_cons, List.length_nil, List.length_map, Nat.zero_add, Nat.reduceAdd, ↓reduceIte, Bool.false_eq_true, if_true, if_false, Bool.not_true, Bool.not_false, v_falling_pairs q (by omega), inv_inverse h.pe q1 q2]
  · have hi' : i < q.length := by rw [q1]; exact List.mem_range.mp hi
    show L2.atI (q.map D.int) (i : Nat) = _
    rw [atI_nat (by rw [List.length_map]; exact hi'), List.getElem?_map, List.getD_eq_getElem?_getD, List.getElem?_eq_getElem hi']; rfl
end W74

namespace W74
open P74 DV
variable [DV.TabC]
theorem v__law_code (ns : List Int) (hz : ns.length ≤ 1000) : G__law_code [T ns] = some (.ok (T (codeL ns))) := by
  refine runP_rt ⟨[some (.dat (T ns)), none, none, none], ?_⟩
  show m__law_code [some (.dat (T ns)), none, none, none] = _
  unfold m__law_code
  simp only [DV.sSeq, DV.sRet, DV.sRetF, DV.sIf, DV.sIfF, DV.sSet, DV.sSetF, DV.sNil, DV.sExpr, DV.sExprX, DV.sRetX, DV.flX, DV.sRaise, DV.fVar, DV.fOwn, DV.fC, DV.fB, DV.gB, DV.fCB, DV.gCB, DV.fCons, DV.fNil, DV.gCons, DV.gNil, DV.fT, DV.gT, DV.asB_bl, DV.asI_int, DV.fAnd, DV.fOr, DV.fNot, DV.gAnd, DV.gOr, DV.gNot, DV.fAndV, DV.fOrV, DV.fNotV, DV.gAndV, DV.gOrV, DV.fCall, DV.fCallR, DV.gCall, DV.fX, DV.xq, DV.okOf, DV.fTup, DV.fLst, DV.gTupE, DV.gLst, DV.fIf, DV.gIf, DV.qf, DV.qtf, DV.qa, DV.qi, DV.fChain, DV.fSl, DV.fO, DV.fONone, DV.mSl, DV.fSeq, DV.gSeq, DV.seqOf_lst, DV.seqOf_tup, DV.fEnum, DV.nLst, DV.nList, DV.nMul, DV.sOwn, DV.sApp, DV.sPar, DV.sParF, DV.sParOO, DV.sParDO, DV.sAug, DV.mAddI, DV.sFor, DV.sAsg, DV.sAsgF, DV.pName, DV.pNil, DV.pCons, DV.pTup, DV.wipeA, DV.mLen_lst, DV.mLen_tup, DV.mTuple, DV.mList, DV.mInt, DV.mAbs, DV.add_int, DV.mSub, DV.mLt, DV.mLe, DV.mGt, DV.mGe, DV.mRev, DV.fRev, DV.eq_ii, DV.ne_ii, DV.eq_tt, DV.ne_tt, DV.eq_ll, DV.ne_ll, Option.bind_some, Option.map_some, Option.bind_none, Option.map_none, List.getElem?_cons_zero, List.getElem?_cons_succ, List.set_cons_zero, List.set_cons_succ, List.length_cons, List.length_nil, List.length_map, Nat.zero_add, Nat.reduceAdd, ↓reduceIte, Bool.false_eq_true, if_true, if_false, Bool.not_true, Bool.not_false, v_codes (i0 := 0) ns hz]
theorem popAt_eq {i : Nat} {f : AE → Option (D × AE)} {A A1 : AE} {t t' : Bool} {xs xs' : List D} {k : Nat} {d : D} (h1 : A[i]? = some (some (.own t xs))) (hf : f A = some (.int (k : Nat), A1)) (h3 : A1[i]? = some (some (.own t' xs'))) (hk : xs'[k]? = some d) (hb : k < 1000000) :
    gPopAt i f A = some (d, A1.set i (some (.own t' (xs'.eraseIdx k)))) := by
  unfold gPopAt
  simp only [h1, hf, Option.bind_some, h3]
  rw [if_pos (by rw [decide_eq_true_eq]; omega), Int.toNat_natCast, hk]; rfl
theorem loop_lfc (c0 : Option AV) : ∀ (cs L found : List Int) (x : Option AV), L.length = cs.length → valid cs → L.length + found.length ≤ 1000 →
    ∃ x', forGo (pName 3) (sApp 2 (gPopAt 1 (qf (fVar 3)))) (cs.map D.int) [c0, some (.own false (L.map D.int)), some (.own false (found.map D.int)), x] = some (.nx [c0, some (.own false []), some (.own false ((found ++ obc L cs).map D.int)), x'])
  | [], L, found, x, hl, _, _ => by
    have : L = [] := List.eq_nil_of_length_eq_zero hl
    subst this
    exact ⟨x, by rw [show obc [] [] = [] from rfl, List.append_nil]; rfl⟩
  | c :: cs, L, found, x, hl, ⟨h0, h1, hv⟩, hz => by
    obtain ⟨k, rfl⟩ : ∃ k : Nat, c = k := ⟨c.toNat, by omega⟩
    have hk : k < L.length := by rw [hl, List.length_cons]; omega
    obtain ⟨x', ih⟩ := loop_lfc c0 cs (L.eraseIdx k) (found ++ [L.getD k 0]) (some (.dat (.int (k : Nat)))) (len_erase hk hl) hv (by rw [len_erase hk hl, List.length_append, List.length_singleton]; rw [hl, List.length_cons] at hz; omega)
    refine ⟨x', ?_⟩
    rw [List.map_cons]
    unfold forGo
    have e1 : gPopAt 1 (qf (fVar 3)) [c0, some (.own false (L.map D.int)), some (.own false (found.map D.int)), some (.dat (.int (k : Nat)))] = some (.int (L.getD k 0), [c0, some (.own false ((L.eraseIdx k).map D.int)), some (.own false (found.map D.int)), some (.dat (.int (k : Nat)))]) := by
      have e0 : (L.eraseIdx k).map D.int = (L.map D.int).eraseIdx k := by rw [List.eraseIdx_eq_take_drop_succ, List.eraseIdx_eq_take_drop_succ, List.map_append, List.map_take, List.map_drop]
      rw [popAt_eq (k := k) (t := false) (xs := L.map D.int) (t' := false) (xs' := L.map D.int) (d := .int (L.getD k 0)) rfl rfl rfl (by rw [List.getElem?_map, List.getD_eq_getElem?_getD, List.getElem?_eq_getElem hk]; rfl) (by omega), e0]; rfl
    have e2 : szOk (found.length + 1) = true := szOk_le (by omega)
    simp only [DV.sSeq, DV.sRet, DV.sRetF, DV.sIf, DV.sIfF, DV.sSet, DV.sSetF, DV.sNil, DV.sExpr, DV.sExprX, DV.sRetX, DV.flX, DV.sRaise, DV.fVar, DV.fOwn, DV.fC, DV.fB, DV.gB, DV.fCB, DV.gCB, DV.fCons, DV.fNil, DV.gCons, DV.gNil, DV.fT, DV.gT, DV.asB_bl, DV.asI_int, DV.fAnd, DV.fOr, DV.fNot, DV.gAnd, DV.gOr, DV.gNot, DV.fAndV, DV.fOrV, DV.fNotV, DV.gAndV, DV.gOrV, DV.fCall, DV.fCallR, DV.gCall, DV.fX, DV.xq, DV.okOf, DV.fTup, DV.fLst, DV.gTupE, DV.gLst, DV.fIf, DV.gIf, DV.qf, DV.qtf, DV.qa, DV.qi, DV.fChain, DV.fSl, DV.fO, DV.fONone, DV.mSl, DV.fSeq, DV.gSeq, DV.seqOf_lst, DV.seqOf_tup, DV.fEnum, DV.nLst, DV.nList, DV.nMul, DV.sOwn, DV.sApp, DV.sPar, DV.sParF, DV.sParOO, DV.sParDO, DV.sAug, DV.mAddI, DV.sFor, DV.sAsg, DV.sAsgF, DV.pName, DV.pNil, DV.pCons, DV.pTup, DV.wipeA, DV.mLen_lst, DV.mLen_tup, DV.mTuple, DV.mList, DV.mInt, DV.mAbs, DV.add_int, DV.mSub, DV.mLt, DV.mLe, DV.mGt, DV.mGe, DV.mRev, DV.fRev, DV.eq_ii, DV.ne_ii, DV.eq_tt, DV.ne_tt, DV.eq_ll, DV.ne_ll, Option.bind_some, Option.map_some, Option.bind_none, Option.map_none, List.getElem?_cons_zero, List.getElem?_cons_succ, List.set_cons_zero, List.set_cons_succ, List.length_cons, List.length_nil, List.length_map, Nat.zero_add, Nat.reduceAdd, ↓reduceIte, Bool.false_eq_true, if_true, if_false, Bool.not_true, Bool.not_false, e1, e2]
    have e3 : found.map D.int ++ [D.int (L.getD k 0)] = (found ++ [L.getD k 0]).map D.int := by rw [List.map_append]; rfl
    rw [e3, ih, List.append_assoc]; rfl
theorem v__law_from_code0 {cs : List Int} {d : D} (hd1 : mLen [d] = some (.int (cs.length : Nat))) (hd2 : seqOf d = some (cs.map D.int)) (hz : cs.length ≤ 500) (hv : valid cs) : G__law_from_code [d] = some (.ok (T (obc (DV.rng cs.length) cs))) := by
  obtain ⟨x', e⟩ := loop_lfc (some (.dat d)) cs (DV.rng cs.length) [] none (by simp) hv (by simp; omega)
  refine runP_rt ⟨[some (.dat d), some (.own false []), some (.own false (([] ++ obc (DV.rng cs.length) cs).map D.int)), x'], ?_⟩
  show m__law_from_code [some (.dat d), none, none, none] = _
  unfold m__law_from_code
  have e1 : nLR (fG1 (fCB mLen (fCons (fVar 0) fNil))) [some (.dat d), none, none, none] = some ((DV.rng cs.length).map D.int, [some (.dat d), none, none, none]) := nLR_n (by simp only [DV.fCB, DV.fCons, DV.fNil, DV.fVar, List.getElem?_cons_zero, Option.bind_some, Option.map_some]; exact hd1) (by omega)
  have e2 : szOk 0 = true := rfl
  have e' : forGo (pName 3) (sApp 2 (gPopAt 1 (qf (fVar 3)))) (cs.map D.int) [some (.dat d), some (.own false ((DV.rng cs.length).map D.int)), some (.own false []), none] = _ := e
  simp only [DV.sSeq, DV.sParOO, e1, Option.bind_some, Option.map_some]
  simp only [DV.sSeq, DV.sRet, DV.sRetF, DV.sIf, DV.sIfF, DV.sSet, DV.sSetF, DV.sNil, DV.sExpr, DV.sExprX, DV.sRetX, DV.flX, DV.sRaise, DV.fVar, DV.fOwn, DV.fC, DV.fB, DV.gB, DV.fCB, DV.gCB, DV.fCons, DV.fNil, DV.gCons, DV.gNil, DV.fT, DV.gT, DV.asB_bl, DV.asI_int, DV.fAnd, DV.fOr, DV.fNot, DV.gAnd, DV.gOr, DV.gNot, DV.fAndV, DV.fOrV, DV.fNotV, DV.gAndV, DV.gOrV, DV.fCall, DV.fCallR, DV.gCall, DV.fX, DV.xq, DV.okOf, DV.fTup, DV.fLst, DV.gTupE, DV.gLst, DV.fIf, DV.gIf, DV.qf, DV.qtf, DV.qa, DV.qi, DV.fChain, DV.fSl, DV.fO, DV.fONone, DV.mSl, DV.fSeq, DV.gSeq, DV.seqOf_lst, DV.seqOf_tup, DV.fEnum, DV.nLst, DV.nList, DV.nMul, DV.sOwn, DV.sApp, DV.sPar, DV.sParF, DV.sParOO, DV.sParDO, DV.sAug, DV.mAddI, DV.sFor, DV.sAsg, DV.sAsgF, DV.pName, DV.pNil, DV.pCons, DV.pTup, DV.wipeA, DV.mLen_lst, DV.mLen_tup, DV.mTuple, DV.mList, DV.mInt, DV.mAbs, DV.add_int, DV.mSub, DV.mLt, DV.mLe, DV.mGt, DV.mGe, DV.mRev, DV.fRev, DV.eq_ii, DV.ne_ii, DV.eq_tt, DV.ne_tt, DV.eq_ll, DV.ne_ll, Option.bind_some, Option.map_some, Option.bind_none, Option.map_none, List.getElem?_cons_zero, List.getElem?_cons_succ, List.set_cons_zero, List.set_cons_succ, List.length_cons, List.length_nil, List.length_map, Nat.zero_add, Nat.reduceAdd, ↓reduceIte, Bool.false_eq_true, if_true, if_false, Bool.not_true, Bool.not_false, e2, hd2]
  rw [e']
  simp only [DV.sSeq, DV.sRet, DV.sRetF, DV.sIf, DV.sIfF, DV.sSet, DV.sSetF, DV.sNil, DV.sExpr, DV.sExprX, DV.sRetX, DV.flX, DV.sRaise, DV.fVar, DV.fOwn, DV.fC, DV.fB, DV.gB, DV.fCB, DV.gCB, DV.fCons, DV.fNil, DV.gCons, DV.gNil, DV.fT, DV.gT, DV.asB_bl, DV.asI_int, DV.fAnd, DV.fOr, DV.fNot, DV.gAnd, DV.gOr, DV.gNot, DV.fAndV, DV.fOrV, DV.fNotV, DV.gAndV, DV.gOrV, DV.fCall, DV.fCallR, DV.gCall, DV.fX, DV.xq, DV.okOf, DV.fTup, DV.fLst, DV.gTupE, DV.gLst, DV.fIf, DV.gIf, DV.qf, DV.qtf, DV.qa, DV.qi, DV.fChain, DV.fSl, DV.fO, DV.fONone, DV.mSl, DV.fSeq, DV.gSeq, DV.seqOf_lst, DV.seqOf_tup, DV.fEnum, DV.nLst, DV.nList, DV.nMul, DV.sOwn, DV.sApp, DV.sPar, DV.sParF, DV.sParOO, DV.sParDO, DV.sAug, DV.mAddI, DV.sFor, DV.sAsg, DV.sAsgF, DV.pName, DV.pNil, DV.pCons, DV.pTup, DV.wipeA, DV.mLen_lst, DV.mLen_tup, DV.mTuple, DV.mList, DV.mInt, DV.mAbs, DV.add_int, DV.mSub, DV.mLt, DV.mLe, DV.mGt, DV.mGe, DV.mRev, DV.fRev, DV.eq_ii, DV.ne_ii, DV.eq_tt, DV.ne_tt, DV.eq_ll, DV.ne_ll, Option.bind_some, Option.map_some, Option.bind_none, Option.map_none, List.getElem?_cons_zero, List.getElem?_cons_succ, List.set_cons_zero, List.set_cons_succ, List.length_cons, List.length_nil, List.length_map, Nat.zero_add, Nat.reduceAdd, ↓reduceIte, Bool.false_eq_true, if_true, if_false, Bool.not_true, Bool.not_false, List.nil_append]
theorem v__law_from_code {cs : List Int} (hz : cs.length ≤ 500) (hv : valid cs) : G__law_from_code [T cs] = some (.ok (T (obc (DV.rng cs.length) cs))) := v__law_from_code0 (by simp only [DV.sSeq, DV.sRet, DV.sRetF, DV.sIf, DV.sIfF, DV.sSet, DV.sSetF, DV.sNil, DV.sExpr, DV.sExprX, DV.sRetX, DV.flX, DV.sRaise, DV.fVar, DV.fOwn, DV.fC, DV.fB, DV.gB, DV.fCB, DV.gCB, DV.fCons, DV.fNil, DV.gCons, DV.gNil, DV.fT, DV.gT, DV.asB_bl, DV.asI_int, DV.fAnd, DV.fOr, DV.fNot, DV.gAnd, DV.gOr, DV.gNot, DV.fAndV, DV.fOrV, DV.fNotV, DV.gAndV, DV.gOrV, DV.fCall, DV.fCallR, DV.gCall, DV.fX, DV.xq, DV.okOf, DV.fTup, DV.fLst, DV.gTupE, DV.gLst, DV.fIf, DV.gIf, DV.qf, DV.qtf, DV.qa, DV.qi, DV.fChain, DV.fSl, DV.fO, DV.fONone, DV.mSl, DV.fSeq, DV.gSeq, DV.seqOf_lst, DV.seqOf_tup, DV.fEnum, DV.nLst, DV.nList, DV.nMul, DV.sOwn, DV.sApp, DV.sPar, DV.sParF, DV.sParOO, DV.sParDO, DV.sAug, DV.mAddI, DV.sFor, DV.sAsg, DV.sAsgF, DV.pName, DV.pNil, DV.pCons, DV.pTup, DV.wipeA, DV.mLen_lst, DV.mLen_tup, DV.mTuple, DV.mList, DV.mInt, DV.mAbs, DV.add_int, DV.mSub, DV.mLt, DV.mLe, DV.mGt, DV.mGe, DV.mRev, DV.fRev, DV.eq_ii, DV.ne_ii, DV.eq_tt, DV.ne_tt, DV.eq_ll, DV.ne_ll, Option.bind_some, Option.map_some, Option.bind_none, Option.map_none, List.getElem?_cons_zero, List.getElem?_cons_succ, List.set_cons_zero, List.set_cons_succ, List.length_cons, List.length_nil, List.length_map, Nat.zero_add, Nat.reduceAdd, ↓reduceIte, Bool.false_eq_true, if_true, if_false, Bool.not_true, Bool.not_false]) rfl hz hv
theorem v__law_from_codeL {cs : List Int} (hz : cs.length ≤ 500) (hv : valid cs) : G__law_from_code [DV.lI cs] = some (.ok (T (obc (DV.rng cs.length) cs))) := v__law_from_code0 (by simp only [DV.sSeq, DV.sRet, DV.sRetF, DV.sIf, DV.sIfF, DV.sSet, DV.sSetF, DV.sNil, DV.sExpr, DV.sExprX, DV.sRetX, DV.flX, DV.sRaise, DV.fVar, DV.fOwn, DV.fC, DV.fB, DV.gB, DV.fCB, DV.gCB, DV.fCons, DV.fNil, DV.gCons, DV.gNil, DV.fT, DV.gT, DV.asB_bl, DV.asI_int, DV.fAnd, DV.fOr, DV.fNot, DV.gAnd, DV.gOr, DV.gNot, DV.fAndV, DV.fOrV, DV.fNotV, DV.gAndV, DV.gOrV, DV.fCall, DV.fCallR, DV.gCall, DV.fX, DV.xq, DV.okOf, DV.fTup, DV.fLst, DV.gTupE, DV.gLst, DV.fIf, DV.gIf, DV.qf, DV.qtf, DV.qa, DV.qi, DV.fChain, DV.fSl, DV.fO, DV.fONone, DV.mSl, DV.fSeq, DV.gSeq, DV.seqOf_lst, DV.seqOf_tup, DV.fEnum, DV.nLst, DV.nList, DV.nMul, DV.sOwn, DV.sApp, DV.sPar, DV.sParF, DV.sParOO, DV.sParDO, DV.sAug, DV.mAddI, DV.sFor, DV.sAsg, DV.sAsgF, DV.pName, DV.pNil, DV.pCons, DV.pTup, DV.wipeA, DV.mLen_lst, DV.mLen_tup, DV.mTuple, DV.mList, DV.mInt, DV.mAbs, DV.add_int, DV.mSub, DV.mLt, DV.mLe, DV.mGt, DV.mGe, DV.mRev, DV.fRev, DV.eq_ii, DV.ne_ii, DV.eq_tt, DV.ne_tt, DV.eq_ll, DV.ne_ll, Option.bind_some, Option.map_some, Option.bind_none, Option.map_none, List.getElem?_cons_zero, List.getElem?_cons_succ, List.set_cons_zero, List.set_cons_succ, List.length_cons, List.length_nil, List.length_map, Nat.zero_add, Nat.reduceAdd, ↓reduceIte, Bool.false_eq_true, if_true, if_false, Bool.not_true, Bool.not_false]) rfl hz hv
/-! ## factorials -/
theorem fR2_of {f g : AE → Option D} {A : AE} {i j : Int} (h : f A = some (.int i)) (h2 : g A = some (.int j)) (hi : i.natAbs ≤ 1000000) (hj : j.natAbs ≤ 1000000) : fR2 (fCons f (fCons g fNil)) A = some (rngD i j) := by
  unfold fR2 fCons fNil
  simp only [h, h2, Option.bind_some, Option.map_some]
  rw [if_pos (by unfold rgOk; rw [decide_eq_true_eq]; omega)]
theorem rngD2 (n : Nat) : rngD 2 ((n : Int) + 1) = (List.range' 1 (n - 1)).map fun (k : Nat) => D.int ((k : Int) + 1) := by
  unfold rngD
  rw [show ((n : Int) + 1 - 2).toNat = n - 1 by omega, List.range'_eq_map_range, List.map_map]
  congr 1
  funext i
  have h : (2 + ((i : Nat) : Int)) = (((1 + i : Nat) : Int) + 1) := by omega
  show D.int (2 + ((i : Nat) : Int)) = D.int (((1 + i : Nat) : Int) + 1)
  rw [h]
theorem v__law_factorial {n : Nat} (hn : n ≤ 500) : G__law_factorial [.int (n : Nat)] = some (.ok (.int (fac n))) := by
  obtain ⟨x', e⟩ := loop_fac (some (.dat (.int (n : Nat)))) 0 (n - 1) 1 none (by omega)
  have ef : fac (1 + (n - 1)) = fac n := by
    cases n with
    | zero => rfl
    | succ n => congr 1; omega
  rw [ef] at e
  refine runP_rt ⟨[some (.dat (.int (n : Nat))), some (.dat (.int (fac n))), x'], ?_⟩
  show m__law_factorial [some (.dat (.int (n : Nat))), none, none] = _
  unfold m__law_factorial
  have e1 : fR2 (fCons (fC (.int 2)) (fCons (fB mAdd (fVar 0) (fC (.int 1))) fNil)) [some (.dat (.int (n : Nat))), some (.dat (.int 1)), none] = some ((List.range' 1 (n - 1)).map fun (k : Nat) => D.int ((k : Int) + 1)) := by
    rw [fR2_of (i := 2) (j := (n : Int) + 1) rfl rfl (by omega) (by omega), rngD2]
  simp only [DV.sSeq, DV.sRet, DV.sRetF, DV.sIf, DV.sIfF, DV.sSet, DV.sSetF, DV.sNil, DV.sExpr, DV.sExprX, DV.sRetX, DV.flX, DV.sRaise, DV.fVar, DV.fOwn, DV.fC, DV.fB, DV.gB, DV.fCB, DV.gCB, DV.fCons, DV.fNil, DV.gCons, DV.gNil, DV.fT, DV.gT, DV.asB_bl, DV.asI_int, DV.fAnd, DV.fOr, DV.fNot, DV.gAnd, DV.gOr, DV.gNot, DV.fAndV, DV.fOrV, DV.fNotV, DV.gAndV, DV.gOrV, DV.fCall, DV.fCallR, DV.gCall, DV.fX, DV.xq, DV.okOf, DV.fTup, DV.fLst, DV.gTupE, DV.gLst, DV.fIf, DV.gIf, DV.qf, DV.qtf, DV.qa, DV.qi, DV.fChain, DV.fSl, DV.fO, DV.fONone, DV.mSl, DV.fSeq, DV.gSeq, DV.seqOf_lst, DV.seqOf_tup, DV.fEnum, DV.nLst, DV.nList, DV.nMul, DV.sOwn, DV.sApp, DV.sPar, DV.sParF, DV.sParOO, DV.sParDO, DV.sAug, DV.mAddI, DV.sFor, DV.sAsg, DV.sAsgF, DV.pName, DV.pNil, DV.pCons, DV.pTup, DV.wipeA, DV.mLen_lst, DV.mLen_tup, DV.mTuple, DV.mList, DV.mInt, DV.mAbs, DV.add_int, DV.mSub, DV.mLt, DV.mLe, DV.mGt, DV.mGe, DV.mRev, DV.fRev, DV.eq_ii, DV.ne_ii, DV.eq_tt, DV.ne_tt, DV.eq_ll, DV.ne_ll, Option.bind_some, Option.map_some, Option.bind_none, Option.map_none, List.getElem?_cons_zero, List.getElem?_cons_succ, List.set_cons_zero, List.set_cons_succ, List.length_cons, List.length_nil, List.length_map, Nat.zero_add, Nat.reduceAdd, ↓reduceIte, Bool.false_eq_true, if_true, if_false, Bool.not_true, Bool.not_false, e1]
  have e' : forGo (pName 2) (sSet 1 (fB mMul (fVar 1) (fVar 2))) ((List.range' 1 (n - 1)).map fun (k : Nat) => D.int ((k : Int) + 1)) [some (.dat (.int (n : Nat))), some (.dat (.int 1)), none] = _ := e
  rw [e']
  simp only [DV.sSeq, DV.sRet, DV.sRetF, DV.sIf, DV.sIfF, DV.sSet, DV.sSetF, DV.sNil, DV.sExpr, DV.sExprX, DV.sRetX, DV.flX, DV.sRaise, DV.fVar, DV.fOwn, DV.fC, DV.fB, DV.gB, DV.fCB, DV.gCB, DV.fCons, DV.fNil, DV.gCons, DV.gNil, DV.fT, DV.gT, DV.asB_bl, DV.asI_int, DV.fAnd, DV.fOr, DV.fNot, DV.gAnd, DV.gOr, DV.gNot, DV.fAndV, DV.fOrV, DV.fNotV, DV.gAndV, DV.gOrV, DV.fCall, DV.fCallR, DV.gCall, DV.fX, DV.xq, DV.okOf, DV.fTup, DV.fLst, DV.gTupE, DV.gLst, DV.fIf, DV.gIf, DV.qf, DV.qtf, DV.qa, DV.qi, DV.fChain, DV.fSl, DV.fO, DV.fONone, DV.mSl, DV.fSeq, DV.gSeq, DV.seqOf_lst, DV.seqOf_tup, DV.fEnum, DV.nLst, DV.nList, DV.nMul, DV.sOwn, DV.sApp, DV.sPar, DV.sParF, DV.sParOO, DV.sParDO, DV.sAug, DV.mAddI, DV.sFor, DV.sAsg, DV.sAsgF, DV.pName, DV.pNil, DV.pCons, DV.pTup, DV.wipeA, DV.mLen_lst, DV.mLen_tup, DV.mTuple, DV.mList, DV.mInt, DV.mAbs, DV.add_int, DV.mSub, DV.mLt, DV.mLe, DV.mGt, DV.mGe, DV.mRev, DV.fRev, DV.eq_ii, DV.ne_ii, DV.eq_tt, DV.ne_tt, DV.eq_ll, DV.ne_ll, Option.bind_some, Option.map_some, Option.bind_none, Option.map_none, List.getElem?_cons_zero, List.getElem?_cons_succ, List.set_cons_zero, List.set_cons_succ, List.length_cons, List.length_nil, List.length_map, Nat.zero_add, Nat.reduceAdd, ↓reduceIte, Bool.false_eq_true, if_true, if_false, Bool.not_true, Bool.not_false]
theorem num_sum (n : Nat) : ∀ (cs : List Int) (j : Nat), j + cs.length = n → (((List.range' j cs.length).zip cs).map fun q => q.2 * fac (n - 1 - q.1)).sum = num cs
  | [], j, _ => rfl
  | c :: cs, j, h => by
    rw [List.length_cons] at h
    rw [List.length_cons, List.range'_succ, List.zip_cons_cons, List.map_cons, List.sum_cons, num_sum n cs (j + 1) (by omega)]
    show c * fac (n - 1 - j) + num cs = c * fac cs.length + num cs
    rw [show n - 1 - j = cs.length by omega]
theorem v__law_number {p : List Int} (hz : p.length ≤ 400) : G__law_number [T p] = some (.ok (.int (num (codeL p)))) := by
  refine runP_rt ⟨[some (.dat (T p)), none, none], ?_⟩
  show m__law_number [some (.dat (T p)), none, none] = _
  unfold m__law_number
  simp only [DV.sSeq, DV.sRet, DV.sRetF, DV.sIf, DV.sIfF, DV.sSet, DV.sSetF, DV.sNil, DV.sExpr, DV.sExprX, DV.sRetX, DV.flX, DV.sRaise, DV.fVar, DV.fOwn, DV.fC, DV.fB, DV.gB, DV.fCB, DV.gCB, DV.fCons, DV.fNil, DV.gCons, DV.gNil, DV.fT, DV.gT, DV.asB_bl, DV.asI_int, DV.fAnd, DV.fOr, DV.fNot, DV.gAnd, DV.gOr, DV.gNot, DV.fAndV, DV.fOrV, DV.fNotV, DV.gAndV, DV.gOrV, DV.fCall, DV.fCallR, DV.gCall, DV.fX, DV.xq, DV.okOf, DV.fTup, DV.fLst, DV.gTupE, DV.gLst, DV.fIf, DV.gIf, DV.qf, DV.qtf, DV.qa, DV.qi, DV.fChain, DV.fSl, DV.fO, DV.fONone, DV.mSl, DV.fSeq, DV.gSeq, DV.seqOf_lst, DV.seqOf_tup, DV.fEnum, DV.nLst, DV.nList, DV.nMul, DV.sOwn, DV.sApp, DV.sPar, DV.sParF, DV.sParOO, DV.sParDO, DV.sAug, DV.mAddI, DV.sFor, DV.sAsg, DV.sAsgF, DV.pName, DV.pNil, DV.pCons, DV.pTup, DV.wipeA, DV.mLen_lst, DV.mLen_tup, DV.mTuple, DV.mList, DV.mInt, DV.mAbs, DV.add_int, DV.mSub, DV.mLt, DV.mLe, DV.mGt, DV.mGe, DV.mRev, DV.fRev, DV.eq_ii, DV.ne_ii, DV.eq_tt, DV.ne_tt, DV.eq_ll, DV.ne_ll, Option.bind_some, Option.map_some, Option.bind_none, Option.map_none, List.getElem?_cons_zero, List.getElem?_cons_succ, List.set_cons_zero, List.set_cons_succ, List.length_cons, List.length_nil, List.length_map, Nat.zero_add, Nat.reduceAdd, ↓reduceIte, Bool.false_eq_true, if_true, if_false, Bool.not_true, Bool.not_false, v__law_code p (show p.length ≤ 1000 by omega)]
  rw [fLC_map ((List.range (codeL p).length).zip (codeL p)) (fun q => .tup [.int (q.1 : Nat), .int q.2]) (fun q => D.int (q.2 * fac (p.length - 1 - q.1))) (by simp only [DV.sSeq, DV.sRet, DV.sRetF, DV.sIf, DV.sIfF, DV.sSet, DV.sSetF, DV.sNil, DV.sExpr, DV.sExprX, DV.sRetX, DV.flX, DV.sRaise, DV.fVar, DV.fOwn, DV.fC, DV.fB, DV.gB, DV.fCB, DV.gCB, DV.fCons, DV.fNil, DV.gCons, DV.gNil, DV.fT, DV.gT, DV.asB_bl, DV.asI_int, DV.fAnd, DV.fOr, DV.fNot, DV.gAnd, DV.gOr, DV.gNot, DV.fAndV, DV.fOrV, DV.fNotV, DV.gAndV, DV.gOrV, DV.fCall, DV.fCallR, DV.gCall, DV.fX, DV.xq, DV.okOf, DV.fTup, DV.fLst, DV.gTupE, DV.gLst, DV.fIf, DV.gIf, DV.qf, DV.qtf, DV.qa, DV.qi, DV.fChain, DV.fSl, DV.fO, DV.fONone, DV.mSl, DV.fSeq, DV.gSeq, DV.seqOf_lst, DV.seqOf_tup, DV.fEnum, DV.nLst, DV.nList, DV.nMul, DV.sOwn, DV.sApp, DV.sPar, DV.sParF, DV.sParOO, DV.sParDO, DV.sAug, DV.mAddI, DV.sFor, DV.sAsg, DV.sAsgF, DV.pName, DV.pNil, DV.pCons, DV.pTup, DV.wipeA, DV.mLen_lst, DV.mLen_tup, DV.mTuple, DV.mList, DV.mInt, DV.mAbs, DV.add_int, DV.mSub, DV.mLt, DV.mLe, DV.mGt, DV.mGe, DV.mRev, DV.fRev, DV.eq_ii, DV.ne_ii, DV.eq_tt, DV.ne_tt, DV.eq_ll, DV.ne_ll, Option.bind_some, Option.map_some, Option.bind_none, Option.map_none, List.getElem?_cons_zero, List.getElem?_cons_succ, List.set_cons_zero, List.set_cons_succ, List.length_cons, List.length_nil, List.length_map, Nat.zero_add, Nat.reduceAdd, ↓reduceIte, Bool.false_eq_true, if_true, if_false, Bool.not_true, Bool.not_false, v__law_code p (show p.length ≤ 1000 by omega), enum_of]) (by rw [List.length_zip, List.length_range, codeL_len]; omega) fun q hq => ⟨[some (.dat (T p)), some (.dat (.int (q.1 : Nat))), some (.dat (.int q.2))], rfl, rfl, ?_⟩]
  · simp only [DV.sSeq, DV.sRet, DV.sRetF, DV.sIf, DV.sIfF, DV.sSet, DV.sSetF, DV.sNil, DV.sExpr, DV.sExprX, DV.sRetX, DV.flX, DV.sRaise, DV.fVar, DV.fOwn, DV.fC, DV.fB, DV.gB, DV.fCB, DV.gCB, DV.fCons, DV.fNil, DV.gCons, DV.gNil, DV.fT, DV.gT, DV.asB_bl, DV.asI_int, DV.fAnd, DV.fOr, DV.fNot, DV.gAnd, DV.gOr, DV.gNot, DV.fAndV, DV.fOrV, DV.fNotV, DV.gAndV, DV.gOrV, DV.fCall, DV.fCallR, DV.gCall, DV.fX, DV.xq, DV.okOf, DV.fTup, DV.fLst, DV.gTupE, DV.gLst, DV.fIf, DV.gIf, DV.qf, DV.qtf, DV.qa, DV.qi, DV.fChain, DV.fSl, DV.fO, DV.fONone, DV.mSl, DV.fSeq, DV.gSeq, DV.seqOf_lst, DV.seqOf_tup, DV.fEnum, DV.nLst, DV.nList, DV.nMul, DV.sOwn, DV.sApp, DV.sPar, DV.sParF, DV.sParOO, DV.sParDO, DV.sAug, DV.mAddI, DV.sFor, DV.sAsg, DV.sAsgF, DV.pName, DV.pNil, DV.pCons, DV.pTup, DV.wipeA, DV.mLen_lst, DV.mLen_tup, DV.mTuple, DV.mList, DV.mInt, DV.mAbs, DV.add_int, DV.mSub, DV.mLt, DV.mLe, DV.mGt, DV.mGe, DV.mRev, DV.fRev, DV.eq_ii, DV.ne_ii, DV.eq_tt, DV.ne_tt, DV.eq_ll, DV.ne_ll, Option.bind_some, Option.map_some, Option.bind_none, Option.map_none, List.getElem?_cons_zero, List.getElem?_cons_succ, List.set_cons_zero, List.set_cons_succ, List.length_cons, List.length_nil, List.length_map, Nat.zero_add, Nat.reduceAdd, ↓reduceIte, Bool.false_eq_true, if_true, if_false, Bool.not_true, Bool.not_false]
    have e : (((List.range (codeL p).length).zip (codeL p)).map fun q => D.int (q.2 * fac (p.length - 1 - q.1))) = (((List.range (codeL p).length).zip (codeL p)).map fun q => q.2 * fac (p.length - 1 - q.1)).map D.int := by rw [List.map_map]; rfl
    rw [e]
    simp only [DV.mSumA, intsOf_map, Option.map_some]
    rw [List.range_eq_range', num_sum p.length (codeL p) 0 (by rw [codeL_len]; omega)]
  · have hm := zip_range_mem hq
    have hb := valid_get _ (codeL_valid p) _ _ hm
    have hi : q.1 < p.length := by
      have := (List.getElem?_eq_some_iff.mp hm).1
      rwa [codeL_len] at this
    rw [codeL_len] at hb
    simp only [DV.sSeq, DV.sRet, DV.sRetF, DV.sIf, DV.sIfF, DV.sSet, DV.sSetF, DV.sNil, DV.sExpr, DV.sExprX, DV.sRetX, DV.flX, DV.sRaise, DV.fVar, DV.fOwn, DV.fC, DV.fB, DV.gB, DV.fCB, DV.gCB, DV.fCons, DV.fNil, DV.gCons, DV.gNil, DV.fT, DV.gT, DV.asB_bl, DV.asI_int, DV.fAnd, DV.fOr, DV.fNot, DV.gAnd, DV.gOr, DV.gNot, DV.fAndV, DV.fOrV, DV.fNotV, DV.gAndV, DV.gOrV, DV.fCall, DV.fCallR, DV.gCall, DV.fX, DV.xq, DV.okOf, DV.fTup, DV.fLst, DV.gTupE, DV.gLst, DV.fIf, DV.gIf, DV.qf, DV.qtf, DV.qa, DV.qi, DV.fChain, DV.fSl, DV.fO, DV.fONone, DV.mSl, DV.fSeq, DV.gSeq, DV.seqOf_lst, DV.seqOf_tup, DV.fEnum, DV.nLst, DV.nList, DV.nMul, DV.sOwn, DV.sApp, DV.sPar, DV.sParF, DV.sParOO, DV.sParDO, DV.sAug, DV.mAddI, DV.sFor, DV.sAsg, DV.sAsgF, DV.pName, DV.pNil, DV.pCons, DV.pTup, DV.wipeA, DV.mLen_lst, DV.mLen_tup, DV.mTuple, DV.mList, DV.mInt, DV.mAbs, DV.add_int, DV.mSub, DV.mLt, DV.mLe, DV.mGt, DV.mGe, DV.mRev, DV.fRev, DV.eq_ii, DV.ne_ii, DV.eq_tt, DV.ne_tt, DV.eq_ll, DV.ne_ll, Option.bind_some, Option.map_some, Option.bind_none, Option.map_none, List.getElem?_cons_zero, List.getElem?_cons_succ, List.set_cons_zero, List.set_cons_succ, List.length_cons, List.length_nil, List.length_map, Nat.zero_add, Nat.reduceAdd, ↓reduceIte, Bool.false_eq_true, if_true, if_false, Bool.not_true, Bool.not_false]
    rw [show ((p.length : Nat) : Int) - 1 - (q.1 : Nat) = ((p.length - 1 - q.1 : Nat) : Int) by omega, v__law_factorial (by omega)]
    simp only [DV.sSeq, DV.sRet, DV.sRetF, DV.sIf, DV.sIfF, DV.sSet, DV.sSetF, DV.sNil, DV.sExpr, DV.sExprX, DV.sRetX, DV.flX, DV.sRaise, DV.fVar, DV.fOwn, DV.fC, DV.fB, DV.gB, DV.fCB, DV.gCB, DV.fCons, DV.fNil, DV.gCons, DV.gNil, DV.fT, DV.gT, DV.asB_bl, DV.asI_int, DV.fAnd, DV.fOr, DV.fNot, DV.gAnd, DV.gOr, DV.gNot, DV.fAndV, DV.fOrV, DV.fNotV, DV.gAndV, DV.gOrV, DV.fCall, DV.fCallR, DV.gCall, DV.fX, DV.xq, DV.okOf, DV.fTup, DV.fLst, DV.gTupE, DV.gLst, DV.fIf, DV.gIf, DV.qf, DV.qtf, DV.qa, DV.qi, DV.fChain, DV.fSl, DV.fO, DV.fONone, DV.mSl, DV.fSeq, DV.gSeq, DV.seqOf_lst, DV.seqOf_tup, DV.fEnum, DV.nLst, DV.nList, DV.nMul, DV.sOwn, DV.sApp, DV.sPar, DV.sParF, DV.sParOO, DV.sParDO, DV.sAug, DV.mAddI, DV.sFor, DV.sAsg, DV.sAsgF, DV.pName, DV.pNil, DV.pCons, DV.pTup, DV.wipeA, DV.mLen_lst, DV.mLen_tup, DV.mTuple, DV.mList, DV.mInt, DV.mAbs, DV.add_int, DV.mSub, DV.mLt, DV.mLe, DV.mGt, DV.mGe, DV.mRev, DV.fRev, DV.eq_ii, DV.ne_ii, DV.eq_tt, DV.ne_tt, DV.eq_ll, DV.ne_ll, Option.bind_some, Option.map_some, Option.bind_none, Option.map_none, List.getElem?_cons_zero, List.getElem?_cons_succ, List.set_cons_zero, List.set_cons_succ, List.length_cons, List.length_nil, List.length_map, Nat.zero_add, Nat.reduceAdd, ↓reduceIte, Bool.false_eq_true, if_true, if_false, Bool.not_true, Bool.not_false]
    exact mul_small' (by omega)
/-! ## _law_numbered -/
theorem fac_le : ∀ n : Nat, n ≤ 64 → fac n ≤ 2 ^ (6 * n)
  | 0, _ => by decide
  | n + 1, h => by
    have ih := fac_le n (by omega)
    have fp := fac_pos n
    show fac n * ((n : Int) + 1) ≤ _
    rw [show 6 * (n + 1) = 6 * n + 6 by omega, Int.pow_add]
    exact Int.mul_le_mul ih (by have : (2 : Int) ^ 6 = 64 := rfl; omega) (by omega) (by omega)
theorem fac_log {n : Nat} (h : n ≤ 64) : (fac n).natAbs.log2 < 9000 := by
  have fp := fac_pos n
  have h1 := fac_le n h
  rw [Nat.log2_lt (by omega)]
  have h2 : ((2 : Int) ^ (6 * n)) = ((2 ^ (6 * n) : Nat) : Int) := by rw [Int.natCast_pow]; rfl
  rw [h2] at h1
  have h3 : (2 : Nat) ^ (6 * n) ≤ 2 ^ 384 := Nat.pow_le_pow_right (by omega) (by omega)
  have h4 : (2 : Nat) ^ 384 < 2 ^ 9000 := Nat.pow_lt_pow_right (by omega) (by omega)
  exact Nat.lt_of_le_of_lt (Nat.le_trans (by omega) h3) h4
theorem dig_mod (m : Nat) (x : Int) : dig m (x % fac m) = dig m x := num_inj _ _ (by rw [dig_len, dig_len]) (dig_valid _ _) (dig_valid _ _) (by rw [num_dig, num_dig, Int.emod_emod_of_dvd _ (Int.dvd_refl _)])
theorem loop_lnum (n : Nat) (hn : n ≤ 60) : ∀ (m j : Nat) (x : Int) (st : List Int) (y z : Option AV), j + m = n → st.length = j → 0 ≤ x → x < fac m →
    ∃ x' y' z', forGo (pName 3) (sSeq (sSet 4 (fCall 1 G__law_factorial (fCons (fB mSub (fB mSub (fVar 0) (fC (.int 1))) (fVar 3)) fNil))) (sSeq (sApp 2 (qf (fB mDiv (fVar 1) (fVar 4)))) (sSet 1 (fB mMod (fCB mInt (fCons (fVar 1) fNil)) (fVar 4))))) ((List.range' j m).map fun (k : Nat) => D.int (k : Int)) [some (.dat (.int (n : Nat))), some (.dat (.int x)), some (.own false (st.map D.int)), y, z] = some (.nx [some (.dat (.int (n : Nat))), x', some (.own false ((st ++ dig m x).map D.int)), y', z'])
  | 0, j, x, st, y, z, _, _, _, _ => ⟨_, y, z, by rw [show dig 0 x = [] from rfl, List.append_nil]; rfl⟩
  | m + 1, j, x, st, y, z, h, hs, x0, x1 => by
    have fp := fac_pos m
    obtain ⟨x', y', z', ih⟩ := loop_lnum n hn m (j + 1) (x % fac m) (st ++ [x / fac m]) (some (.dat (.int (j : Nat)))) (some (.dat (.int (fac m)))) (by omega) (by rw [List.length_append, List.length_singleton]; omega) (Int.emod_nonneg _ (by omega)) (Int.emod_lt_of_pos _ fp)
    refine ⟨x', y', z', ?_⟩
    rw [List.range'_succ, List.map_cons]
    unfold forGo
    have e1 : G__law_factorial [.int ((n : Int) - 1 - (j : Int))] = some (.ok (.int (fac m))) := by
      rw [show ((n : Int) - 1 - (j : Int)) = ((m : Nat) : Int) by omega]; exact v__law_factorial (by omega)
    have e2 : mDiv (.int x) (.int (fac m)) = some (.int (x / fac m)) := div_pos fp (fac_log (by omega))
    have e3 : mMod (.int x) (.int (fac m)) = some (.int (x % fac m)) := mod_pos fp
    have e4 : szOk (st.length + 1) = true := szOk_le (by omega)
    simp only [DV.sSeq, DV.sRet, DV.sRetF, DV.sIf, DV.sIfF, DV.sSet, DV.sSetF, DV.sNil, DV.sExpr, DV.sExprX, DV.sRetX, DV.flX, DV.sRaise, DV.fVar, DV.fOwn, DV.fC, DV.fB, DV.gB, DV.fCB, DV.gCB, DV.fCons, DV.fNil, DV.gCons, DV.gNil, DV.fT, DV.gT, DV.asB_bl, DV.asI_int, DV.fAnd, DV.fOr, DV.fNot, DV.gAnd, DV.gOr, DV.gNot, DV.fAndV, DV.fOrV, DV.fNotV, DV.gAndV, DV.gOrV, DV.fCall, DV.fCallR, DV.gCall, DV.fX, DV.xq, DV.okOf, DV.fTup, DV.fLst, DV.gTupE, DV.gLst, DV.fIf, DV.gIf, DV.qf, DV.qtf, DV.qa, DV.qi, DV.fChain, DV.fSl, DV.fO, DV.fONone, DV.mSl, DV.fSeq, DV.gSeq, DV.seqOf_lst, DV.seqOf_tup, DV.fEnum, DV.nLst, DV.nList, DV.nMul, DV.sOwn, DV.sApp, DV.sPar, DV.sParF, DV.sParOO, DV.sParDO, DV.sAug, DV.mAddI, DV.sFor, DV.sAsg, DV.sAsgF, DV.pName, DV.pNil, DV.pCons, DV.pTup, DV.wipeA, DV.mLen_lst, DV.mLen_tup, DV.mTuple, DV.mList, DV.mInt, DV.mAbs, DV.add_int, DV.mSub, DV.mLt, DV.mLe, DV.mGt, DV.mGe, DV.mRev, DV.fRev, DV.eq_ii, DV.ne_ii, DV.eq_tt, DV.ne_tt, DV.eq_ll, DV.ne_ll, Option.bind_some, Option.map_some, Option.bind_none, Option.map_none, List.getElem?_cons_zero, List.getElem?_cons_succ, List.set_cons_zero, List.set_cons_succ, List.length_cons, List.length_nil, List.length_map, Nat.zero_add, Nat.reduceAdd, ↓reduceIte, Bool.false_eq_true, if_true, if_false, Bool.not_true, Bool.not_false, e1, e2, e3, e4]
    have e5 : st.map D.int ++ [D.int (x / fac m)] = (st ++ [x / fac m]).map D.int := by rw [List.map_append]; rfl
    rw [e5, ih, List.append_assoc, dig_mod]
    have e6 : (x / fac m) % ((m : Int) + 1) = x / fac m := by
      refine Int.emod_eq_of_lt (Int.ediv_nonneg x0 (Int.le_of_lt fp)) ?_
      refine Int.ediv_lt_of_lt_mul fp ?_
      rw [Int.mul_comm]; exact x1
    show some (Fl.nx [_, _, some (.own false ((st ++ ([x / fac m] ++ dig m x)).map D.int)), _, _]) = some (Fl.nx [_, _, some (.own false ((st ++ ((x / fac m) % ((m : Int) + 1) :: dig m x)).map D.int)), _, _])
    rw [e6]; rfl
theorem lf_ints : ∀ ns : List Int, lfL (ns.map D.int) = true
  | [] => rfl
  | n :: ns => by
    show (lf (D.int n) && lfL (ns.map D.int)) = true
    rw [lf_ints ns]; rfl
theorem v__law_numbered {n : Nat} {x : Int} (hn : n ≤ 60) (x0 : 0 ≤ x) (x1 : x < fac n) : G__law_numbered [.int (n : Nat), .int x] = some (.ok (T (obc (DV.rng n) (dig n x)))) := by
  obtain ⟨x', y', z', e⟩ := loop_lnum n hn n 0 x [] none none (by omega) rfl x0 x1
  refine runP_rt ⟨[some (.dat (.int (n : Nat))), x', some (.own false (([] ++ dig n x).map D.int)), y', z'], ?_⟩
  show m__law_numbered [some (.dat (.int (n : Nat))), some (.dat (.int x)), none, none, none] = _
  unfold m__law_numbered
  have e2 : szOk 0 = true := rfl
  have e3 : fR1 (fCons (fVar 0) fNil) [some (.dat (.int (n : Nat))), some (.dat (.int x)), some (.own false []), none, none] = some ((List.range' 0 n).map fun (k : Nat) => D.int (k : Int)) := by
    rw [fR1_n (n := n) rfl (by omega)]
    show some (((List.range n).map fun i => ((i : Nat) : Int)).map D.int) = _
    rw [List.map_map, List.range_eq_range']; rfl
  have e5 := v__law_from_codeL (cs := dig n x) (by rw [dig_len]; omega) (dig_valid n x)
  rw [dig_len] at e5
  have e6 : lf (T (obc (DV.rng n) (dig n x))) = true := lf_ints _
  simp only [DV.sSeq, DV.sRet, DV.sRetF, DV.sIf, DV.sIfF, DV.sSet, DV.sSetF, DV.sNil, DV.sExpr, DV.sExprX, DV.sRetX, DV.flX, DV.sRaise, DV.fVar, DV.fOwn, DV.fC, DV.fB, DV.gB, DV.fCB, DV.gCB, DV.fCons, DV.fNil, DV.gCons, DV.gNil, DV.fT, DV.gT, DV.asB_bl, DV.asI_int, DV.fAnd, DV.fOr, DV.fNot, DV.gAnd, DV.gOr, DV.gNot, DV.fAndV, DV.fOrV, DV.fNotV, DV.gAndV, DV.gOrV, DV.fCall, DV.fCallR, DV.gCall, DV.fX, DV.xq, DV.okOf, DV.fTup, DV.fLst, DV.gTupE, DV.gLst, DV.fIf, DV.gIf, DV.qf, DV.qtf, DV.qa, DV.qi, DV.fChain, DV.fSl, DV.fO, DV.fONone, DV.mSl, DV.fSeq, DV.gSeq, DV.seqOf_lst, DV.seqOf_tup, DV.fEnum, DV.nLst, DV.nList, DV.nMul, DV.sOwn, DV.sApp, DV.sPar, DV.sParF, DV.sParOO, DV.sParDO, DV.sAug, DV.mAddI, DV.sFor, DV.sAsg, DV.sAsgF, DV.pName, DV.pNil, DV.pCons, DV.pTup, DV.wipeA, DV.mLen_lst, DV.mLen_tup, DV.mTuple, DV.mList, DV.mInt, DV.mAbs, DV.add_int, DV.mSub, DV.mLt, DV.mLe, DV.mGt, DV.mGe, DV.mRev, DV.fRev, DV.eq_ii, DV.ne_ii, DV.eq_tt, DV.ne_tt, DV.eq_ll, DV.ne_ll, Option.bind_some, Option.map_some, Option.bind_none, Option.map_none, List.getElem?_cons_zero, List.getElem?_cons_succ, List.set_cons_zero, List.set_cons_succ, List.length_cons, List.length_nil, List.length_map, Nat.zero_add, Nat.reduceAdd, ↓reduceIte, Bool.false_eq_true, if_true, if_false, Bool.not_true, Bool.not_false, e2, e3]
  have e' : forGo (pName 3) (sSeq (sSet 4 (fCall 1 G__law_factorial (fCons (fB mSub (fB mSub (fVar 0) (fC (.int 1))) (fVar 3)) fNil))) (sSeq (sApp 2 (qf (fB mDiv (fVar 1) (fVar 4)))) (sSet 1 (fB mMod (fCB mInt (fCons (fVar 1) fNil)) (fVar 4))))) ((List.range' 0 n).map fun (k : Nat) => D.int (k : Int)) [some (.dat (.int (n : Nat))), some (.dat (.int x)), some (.own false []), none, none] = _ := e
  rw [e']
  simp only [DV.sSeq, DV.sRet, DV.sRetF, DV.sIf, DV.sIfF, DV.sSet, DV.sSetF, DV.sNil, DV.sExpr, DV.sExprX, DV.sRetX, DV.flX, DV.sRaise, DV.fVar, DV.fOwn, DV.fC, DV.fB, DV.gB, DV.fCB, DV.gCB, DV.fCons, DV.fNil, DV.gCons, DV.gNil, DV.fT, DV.gT, DV.asB_bl, DV.asI_int, DV.fAnd, DV.fOr, DV.fNot, DV.gAnd, DV.gOr, DV.gNot, DV.fAndV, DV.fOrV, DV.fNotV, DV.gAndV, DV.gOrV, DV.fCall, DV.fCallR, DV.gCall, DV.fX, DV.xq, DV.okOf, DV.fTup, DV.fLst, DV.gTupE, DV.gLst, DV.fIf, DV.gIf, DV.qf, DV.qtf, DV.qa, DV.qi, DV.fChain, DV.fSl, DV.fO, DV.fONone, DV.mSl, DV.fSeq, DV.gSeq, DV.seqOf_lst, DV.seqOf_tup, DV.fEnum, DV.nLst, DV.nList, DV.nMul, DV.sOwn, DV.sApp, DV.sPar, DV.sParF, DV.sParOO, DV.sParDO, DV.sAug, DV.mAddI, DV.sFor, DV.sAsg, DV.sAsgF, DV.pName, DV.pNil, DV.pCons, DV.pTup, DV.wipeA, DV.mLen_lst, DV.mLen_tup, DV.mTuple, DV.mList, DV.mInt, DV.mAbs, DV.add_int, DV.mSub, DV.mLt, DV.mLe, DV.mGt, DV.mGe, DV.mRev, DV.fRev, DV.eq_ii, DV.ne_ii, DV.eq_tt, DV.ne_tt, DV.eq_ll, DV.ne_ll, Option.bind_some, Option.map_some, Option.bind_none, Option.map_none, List.getElem?_cons_zero, List.getElem?_cons_succ, List.set_cons_zero, List.set_cons_succ, List.length_cons, List.length_nil, List.length_map, Nat.zero_add, Nat.reduceAdd, ↓reduceIte, Bool.false_eq_true, if_true, if_false, Bool.not_true, Bool.not_false, List.nil_append, e5, e6]
end W74

namespace W74
open P74 DV
variable [DV.TabC]
theorem draw_eq : G__law_draw = DH.Gdraw := rfl
theorem some_eq : G__law_some = DH.Gsome := rfl
theorem mixed_eq : G__law_mixed = DH.Gmixed := rfl
theorem laid_eq : G__law_laid = DH.Glaid := rfl
theorem some_all {P : D → Prop} {xs items : List D} (h : DH.HandOk xs) (h1 : 1 ≤ items.length) (h2 : items.length ≤ 1000) (hP : ∀ d ∈ items, P d) : ∃ (d : D) (xs' : List D), G__law_some xs [.lst items] = some (d, xs') ∧ P d ∧ DH.HandOk xs' := by
  obtain ⟨k, hk, xs', e, h'⟩ := DH.some_ok h h1 h2
  exact ⟨items[k], xs', e, hP _ (List.getElem_mem _), h'⟩
/-! ## what is refused -/
theorem v_is_order_gen {p : List Int} (h1 : 1 ≤ p.length) (h2 : p.length ≤ 60) : G_is_order [T p] = some (.ok (.bl (decide (sortI p = DV.rng p.length)))) := by
  have e1 : decide ((1 : Int) ≤ (p.length : Int)) = true := by rw [decide_eq_true_eq]; omega
  have e2 : decide ((p.length : Int) ≤ 60) = true := by rw [decide_eq_true_eq]; omega
  refine runP_rt ⟨[some (.dat (T p))], ?_⟩
  show m_is_order [some (.dat (T p))] = _
  unfold m_is_order
  have e3 := v_is_ints p (by omega)
  have e5 : mSorted [T p] = some (.lst ((sortI p).map D.int)) := by
    show (intsOf (p.map D.int)).bind _ = _
    rw [intsOf_map, Option.bind_some, if_pos (by rw [decide_eq_true_eq]; omega)]
  have e6 : fLR (fG1 (fCB mLen (fCons (fVar 0) fNil))) [some (.dat (T p))] = some (.lst ((DV.rng p.length).map D.int)) := fLR_n (by simp only [DV.sSeq, DV.sRet, DV.sRetF, DV.sIf, DV.sIfF, DV.sSet, DV.sSetF, DV.sNil, DV.sExpr, DV.sExprX, DV.sRetX, DV.flX, DV.sRaise, DV.fVar, DV.fOwn, DV.fC, DV.fB, DV.gB, DV.fCB, DV.gCB, DV.fCons, DV.fNil, DV.gCons, DV.gNil, DV.fT, DV.gT, DV.asB_bl, DV.asI_int, DV.fAnd, DV.fOr, DV.fNot, DV.gAnd, DV.gOr, DV.gNot, DV.fAndV, DV.fOrV, DV.fNotV, DV.gAndV, DV.gOrV, DV.fCall, DV.fCallR, DV.gCall, DV.fX, DV.xq, DV.okOf, DV.fTup, DV.fLst, DV.gTupE, DV.gLst, DV.fIf, DV.gIf, DV.qf, DV.qtf, DV.qa, DV.qi, DV.fChain, DV.fSl, DV.fO, DV.fONone, DV.mSl, DV.fSeq, DV.gSeq, DV.seqOf_lst, DV.seqOf_tup, DV.fEnum, DV.nLst, DV.nList, DV.nMul, DV.sOwn, DV.sApp, DV.sPar, DV.sParF, DV.sParOO, DV.sParDO, DV.sAug, DV.mAddI, DV.sFor, DV.sAsg, DV.sAsgF, DV.pName, DV.pNil, DV.pCons, DV.pTup, DV.wipeA, DV.mLen_lst, DV.mLen_tup, DV.mTuple, DV.mList, DV.mInt, DV.mAbs, DV.add_int, DV.mSub, DV.mLt, DV.mLe, DV.mGt, DV.mGe, DV.mRev, DV.fRev, DV.eq_ii, DV.ne_ii, DV.eq_tt, DV.ne_tt, DV.eq_ll, DV.ne_ll, Option.bind_some, Option.map_some, Option.bind_none, Option.map_none, List.getElem?_cons_zero, List.getElem?_cons_succ, List.set_cons_zero, List.set_cons_succ, List.length_cons, List.length_nil, List.length_map, Nat.zero_add, Nat.reduceAdd, ↓reduceIte, Bool.false_eq_true, if_true, if_false, Bool.not_true, Bool.not_false]) (by omega)
  simp only [DV.sSeq, DV.sRet, DV.sRetF, DV.sIf, DV.sIfF, DV.sSet, DV.sSetF, DV.sNil, DV.sExpr, DV.sExprX, DV.sRetX, DV.flX, DV.sRaise, DV.fVar, DV.fOwn, DV.fC, DV.fB, DV.gB, DV.fCB, DV.gCB, DV.fCons, DV.fNil, DV.gCons, DV.gNil, DV.fT, DV.gT, DV.asB_bl, DV.asI_int, DV.fAnd, DV.fOr, DV.fNot, DV.gAnd, DV.gOr, DV.gNot, DV.fAndV, DV.fOrV, DV.fNotV, DV.gAndV, DV.gOrV, DV.fCall, DV.fCallR, DV.gCall, DV.fX, DV.xq, DV.okOf, DV.fTup, DV.fLst, DV.gTupE, DV.gLst, DV.fIf, DV.gIf, DV.qf, DV.qtf, DV.qa, DV.qi, DV.fChain, DV.fSl, DV.fO, DV.fONone, DV.mSl, DV.fSeq, DV.gSeq, DV.seqOf_lst, DV.seqOf_tup, DV.fEnum, DV.nLst, DV.nList, DV.nMul, DV.sOwn, DV.sApp, DV.sPar, DV.sParF, DV.sParOO, DV.sParDO, DV.sAug, DV.mAddI, DV.sFor, DV.sAsg, DV.sAsgF, DV.pName, DV.pNil, DV.pCons, DV.pTup, DV.wipeA, DV.mLen_lst, DV.mLen_tup, DV.mTuple, DV.mList, DV.mInt, DV.mAbs, DV.add_int, DV.mSub, DV.mLt, DV.mLe, DV.mGt, DV.mGe, DV.mRev, DV.fRev, DV.eq_ii, DV.ne_ii, DV.eq_tt, DV.ne_tt, DV.eq_ll, DV.ne_ll, Option.bind_some, Option.map_some, Option.bind_none, Option.map_none, List.getElem?_cons_zero, List.getElem?_cons_succ, List.set_cons_zero, List.set_cons_succ, List.length_cons, List.length_nil, List.length_map, Nat.zero_add, Nat.reduceAdd, ↓reduceIte, Bool.false_eq_true, if_true, if_false, Bool.not_true, Bool.not_false, e3, e1, e2, e5, e6]
theorem order_no {d : D} (h : G_is_order [d] = some (.ok (.bl false))) : G_code [d] = some (.exc "BadOrder" []) ∧ G_order_number [d] = some (.exc "BadOrder" []) := by
  have e : G_check_order [d] = some (.exc "BadOrder" []) := by
    refine runP_ex ⟨[some (.dat d)], ?_⟩
    show m_check_order [some (.dat d)] = _
    unfold m_check_order
    simp only [DV.sSeq, DV.sRet, DV.sRetF, DV.sIf, DV.sIfF, DV.sSet, DV.sSetF, DV.sNil, DV.sExpr, DV.sExprX, DV.sRetX, DV.flX, DV.sRaise, DV.fVar, DV.fOwn, DV.fC, DV.fB, DV.gB, DV.fCB, DV.gCB, DV.fCons, DV.fNil, DV.gCons, DV.gNil, DV.fT, DV.gT, DV.asB_bl, DV.asI_int, DV.fAnd, DV.fOr, DV.fNot, DV.gAnd, DV.gOr, DV.gNot, DV.fAndV, DV.fOrV, DV.fNotV, DV.gAndV, DV.gOrV, DV.fCall, DV.fCallR, DV.gCall, DV.fX, DV.xq, DV.okOf, DV.fTup, DV.fLst, DV.gTupE, DV.gLst, DV.fIf, DV.gIf, DV.qf, DV.qtf, DV.qa, DV.qi, DV.fChain, DV.fSl, DV.fO, DV.fONone, DV.mSl, DV.fSeq, DV.gSeq, DV.seqOf_lst, DV.seqOf_tup, DV.fEnum, DV.nLst, DV.nList, DV.nMul, DV.sOwn, DV.sApp, DV.sPar, DV.sParF, DV.sParOO, DV.sParDO, DV.sAug, DV.mAddI, DV.sFor, DV.sAsg, DV.sAsgF, DV.pName, DV.pNil, DV.pCons, DV.pTup, DV.wipeA, DV.mLen_lst, DV.mLen_tup, DV.mTuple, DV.mList, DV.mInt, DV.mAbs, DV.add_int, DV.mSub, DV.mLt, DV.mLe, DV.mGt, DV.mGe, DV.mRev, DV.fRev, DV.eq_ii, DV.ne_ii, DV.eq_tt, DV.ne_tt, DV.eq_ll, DV.ne_ll, Option.bind_some, Option.map_some, Option.bind_none, Option.map_none, List.getElem?_cons_zero, List.getElem?_cons_succ, List.set_cons_zero, List.set_cons_succ, List.length_cons, List.length_nil, List.length_map, Nat.zero_add, Nat.reduceAdd, ↓reduceIte, Bool.false_eq_true, if_true, if_false, Bool.not_true, Bool.not_false, h]
  refine ⟨runP_ex ⟨[some (.dat d)], ?_⟩, runP_ex ⟨[some (.dat d), none, none, none], ?_⟩⟩
  · show m_code [some (.dat d)] = _
    unfold m_code
    simp only [DV.sSeq, DV.sRet, DV.sRetF, DV.sIf, DV.sIfF, DV.sSet, DV.sSetF, DV.sNil, DV.sExpr, DV.sExprX, DV.sRetX, DV.flX, DV.sRaise, DV.fVar, DV.fOwn, DV.fC, DV.fB, DV.gB, DV.fCB, DV.gCB, DV.fCons, DV.fNil, DV.gCons, DV.gNil, DV.fT, DV.gT, DV.asB_bl, DV.asI_int, DV.fAnd, DV.fOr, DV.fNot, DV.gAnd, DV.gOr, DV.gNot, DV.fAndV, DV.fOrV, DV.fNotV, DV.gAndV, DV.gOrV, DV.fCall, DV.fCallR, DV.gCall, DV.fX, DV.xq, DV.okOf, DV.fTup, DV.fLst, DV.gTupE, DV.gLst, DV.fIf, DV.gIf, DV.qf, DV.qtf, DV.qa, DV.qi, DV.fChain, DV.fSl, DV.fO, DV.fONone, DV.mSl, DV.fSeq, DV.gSeq, DV.seqOf_lst, DV.seqOf_tup, DV.fEnum, DV.nLst, DV.nList, DV.nMul, DV.sOwn, DV.sApp, DV.sPar, DV.sParF, DV.sParOO, DV.sParDO, DV.sAug, DV.mAddI, DV.sFor, DV.sAsg, DV.sAsgF, DV.pName, DV.pNil, DV.pCons, DV.pTup, DV.wipeA, DV.mLen_lst, DV.mLen_tup, DV.mTuple, DV.mList, DV.mInt, DV.mAbs, DV.add_int, DV.mSub, DV.mLt, DV.mLe, DV.mGt, DV.mGe, DV.mRev, DV.fRev, DV.eq_ii, DV.ne_ii, DV.eq_tt, DV.ne_tt, DV.eq_ll, DV.ne_ll, Option.bind_some, Option.map_some, Option.bind_none, Option.map_none, List.getElem?_cons_zero, List.getElem?_cons_succ, List.set_cons_zero, List.set_cons_succ, List.length_cons, List.length_nil, List.length_map, Nat.zero_add, Nat.reduceAdd, ↓reduceIte, Bool.false_eq_true, if_true, if_false, Bool.not_true, Bool.not_false, e]
  · show m_order_number [some (.dat d), none, none, none] = _
    unfold m_order_number
    simp only [DV.sSeq, DV.sRet, DV.sRetF, DV.sIf, DV.sIfF, DV.sSet, DV.sSetF, DV.sNil, DV.sExpr, DV.sExprX, DV.sRetX, DV.flX, DV.sRaise, DV.fVar, DV.fOwn, DV.fC, DV.fB, DV.gB, DV.fCB, DV.gCB, DV.fCons, DV.fNil, DV.gCons, DV.gNil, DV.fT, DV.gT, DV.asB_bl, DV.asI_int, DV.fAnd, DV.fOr, DV.fNot, DV.gAnd, DV.gOr, DV.gNot, DV.fAndV, DV.fOrV, DV.fNotV, DV.gAndV, DV.gOrV, DV.fCall, DV.fCallR, DV.gCall, DV.fX, DV.xq, DV.okOf, DV.fTup, DV.fLst, DV.gTupE, DV.gLst, DV.fIf, DV.gIf, DV.qf, DV.qtf, DV.qa, DV.qi, DV.fChain, DV.fSl, DV.fO, DV.fONone, DV.mSl, DV.fSeq, DV.gSeq, DV.seqOf_lst, DV.seqOf_tup, DV.fEnum, DV.nLst, DV.nList, DV.nMul, DV.sOwn, DV.sApp, DV.sPar, DV.sParF, DV.sParOO, DV.sParDO, DV.sAug, DV.mAddI, DV.sFor, DV.sAsg, DV.sAsgF, DV.pName, DV.pNil, DV.pCons, DV.pTup, DV.wipeA, DV.mLen_lst, DV.mLen_tup, DV.mTuple, DV.mList, DV.mInt, DV.mAbs, DV.add_int, DV.mSub, DV.mLt, DV.mLe, DV.mGt, DV.mGe, DV.mRev, DV.fRev, DV.eq_ii, DV.ne_ii, DV.eq_tt, DV.ne_tt, DV.eq_ll, DV.ne_ll, Option.bind_some, Option.map_some, Option.bind_none, Option.map_none, List.getElem?_cons_zero, List.getElem?_cons_succ, List.set_cons_zero, List.set_cons_succ, List.length_cons, List.length_nil, List.length_map, Nat.zero_add, Nat.reduceAdd, ↓reduceIte, Bool.false_eq_true, if_true, if_false, Bool.not_true, Bool.not_false, e]
theorem sort_1 : sortI [1] = [1] := (sortI_eq (.refl _) (by simp)).symm
theorem sort_00 : sortI [0, 0] = [0, 0] := (sortI_eq (.refl _) (by simp)).symm
theorem refused_orders : ∀ d ∈ [D.non, .tup [], T [1], T [0, 0], .lst [.int 0], .tup [.bl false, .int 1], T (DV.rng 61)], G_code [d] = some (.exc "BadOrder" []) ∧ G_order_number [d] = some (.exc "BadOrder" []) := by
  intro d hd
  refine order_no ?_
  simp only [List.mem_cons, List.not_mem_nil, or_false] at hd
  rcases hd with rfl | rfl | rfl | rfl | rfl | rfl | rfl
  · rfl
  · rfl
  · rw [v_is_order_gen (by decide) (by decide), sort_1]; rfl
  · rw [v_is_order_gen (by decide) (by decide), sort_00]; rfl
  · rfl
  · rfl
  · rfl
theorem refused_codes (a : Ad) : ∀ d ∈ [D.non, .tup [], T [1], .lst [.int 0], T [0, 1], .tup [.bl true], T [-1, 0], .tup (List.replicate 61 (D.int 0)), .str "0"], G_from_code a [d] = some (.exc "BadCode" []) := by
  intro d hd
  simp only [List.mem_cons, List.not_mem_nil, or_false] at hd
  rcases hd with rfl | rfl | rfl | rfl | rfl | rfl | rfl | rfl | rfl <;> rfl
theorem refused_many (a : Ad) : ∀ d ∈ [D.non, .int 0, .int 61, .bl true, .str "3", .int (-1)], G_numbered_order a [d, .int 0] = some (.exc "NoNumber" []) := by
  intro d hd
  simp only [List.mem_cons, List.not_mem_nil, or_false] at hd
  rcases hd with rfl | rfl | rfl | rfl | rfl | rfl <;> rfl
end W74

namespace W74
open P74 DV
variable [DV.TabC]
structure Apart1 (a : Ad) : Prop where
  n : a.f_order_number ≠ a.f_code
theorem within_no {d : D} {l g : Int} (h : G_is_int [d] = some (.ok (.bl false))) : G_check_within [d, .int l, .int g] = some (.exc "NoNumber" []) := by
  have e : G_is_within [d, .int l, .int g] = some (.ok (.bl false)) := by
    refine runP_rt ⟨[some (.dat d), some (.dat (.int l)), some (.dat (.int g))], ?_⟩
    show m_is_within [some (.dat d), some (.dat (.int l)), some (.dat (.int g))] = _
    unfold m_is_within
    simp only [DV.sSeq, DV.sRet, DV.sRetF, DV.sIf, DV.sIfF, DV.sSet, DV.sSetF, DV.sNil, DV.sExpr, DV.sExprX, DV.sRetX, DV.flX, DV.sRaise, DV.fVar, DV.fOwn, DV.fC, DV.fB, DV.gB, DV.fCB, DV.gCB, DV.fCons, DV.fNil, DV.gCons, DV.gNil, DV.fT, DV.gT, DV.asB_bl, DV.asI_int, DV.fAnd, DV.fOr, DV.fNot, DV.gAnd, DV.gOr, DV.gNot, DV.fAndV, DV.fOrV, DV.fNotV, DV.gAndV, DV.gOrV, DV.fCall, DV.fCallR, DV.gCall, DV.fX, DV.xq, DV.okOf, DV.fTup, DV.fLst, DV.gTupE, DV.gLst, DV.fIf, DV.gIf, DV.qf, DV.qtf, DV.qa, DV.qi, DV.fChain, DV.fSl, DV.fO, DV.fONone, DV.mSl, DV.fSeq, DV.gSeq, DV.seqOf_lst, DV.seqOf_tup, DV.fEnum, DV.nLst, DV.nList, DV.nMul, DV.sOwn, DV.sApp, DV.sPar, DV.sParF, DV.sParOO, DV.sParDO, DV.sAug, DV.mAddI, DV.sFor, DV.sAsg, DV.sAsgF, DV.pName, DV.pNil, DV.pCons, DV.pTup, DV.wipeA, DV.mLen_lst, DV.mLen_tup, DV.mTuple, DV.mList, DV.mInt, DV.mAbs, DV.add_int, DV.mSub, DV.mLt, DV.mLe, DV.mGt, DV.mGe, DV.mRev, DV.fRev, DV.eq_ii, DV.ne_ii, DV.eq_tt, DV.ne_tt, DV.eq_ll, DV.ne_ll, Option.bind_some, Option.map_some, Option.bind_none, Option.map_none, List.getElem?_cons_zero, List.getElem?_cons_succ, List.set_cons_zero, List.set_cons_succ, List.length_cons, List.length_nil, List.length_map, Nat.zero_add, Nat.reduceAdd, ↓reduceIte, Bool.false_eq_true, if_true, if_false, Bool.not_true, Bool.not_false, h]
  refine runP_ex ⟨[some (.dat d), some (.dat (.int l)), some (.dat (.int g))], ?_⟩
  show m_check_within [some (.dat d), some (.dat (.int l)), some (.dat (.int g))] = _
  unfold m_check_within
  simp only [DV.sSeq, DV.sRet, DV.sRetF, DV.sIf, DV.sIfF, DV.sSet, DV.sSetF, DV.sNil, DV.sExpr, DV.sExprX, DV.sRetX, DV.flX, DV.sRaise, DV.fVar, DV.fOwn, DV.fC, DV.fB, DV.gB, DV.fCB, DV.gCB, DV.fCons, DV.fNil, DV.gCons, DV.gNil, DV.fT, DV.gT, DV.asB_bl, DV.asI_int, DV.fAnd, DV.fOr, DV.fNot, DV.gAnd, DV.gOr, DV.gNot, DV.fAndV, DV.fOrV, DV.fNotV, DV.gAndV, DV.gOrV, DV.fCall, DV.fCallR, DV.gCall, DV.fX, DV.xq, DV.okOf, DV.fTup, DV.fLst, DV.gTupE, DV.gLst, DV.fIf, DV.gIf, DV.qf, DV.qtf, DV.qa, DV.qi, DV.fChain, DV.fSl, DV.fO, DV.fONone, DV.mSl, DV.fSeq, DV.gSeq, DV.seqOf_lst, DV.seqOf_tup, DV.fEnum, DV.nLst, DV.nList, DV.nMul, DV.sOwn, DV.sApp, DV.sPar, DV.sParF, DV.sParOO, DV.sParDO, DV.sAug, DV.mAddI, DV.sFor, DV.sAsg, DV.sAsgF, DV.pName, DV.pNil, DV.pCons, DV.pTup, DV.wipeA, DV.mLen_lst, DV.mLen_tup, DV.mTuple, DV.mList, DV.mInt, DV.mAbs, DV.add_int, DV.mSub, DV.mLt, DV.mLe, DV.mGt, DV.mGe, DV.mRev, DV.fRev, DV.eq_ii, DV.ne_ii, DV.eq_tt, DV.ne_tt, DV.eq_ll, DV.ne_ll, Option.bind_some, Option.map_some, Option.bind_none, Option.map_none, List.getElem?_cons_zero, List.getElem?_cons_succ, List.set_cons_zero, List.set_cons_succ, List.length_cons, List.length_nil, List.length_map, Nat.zero_add, Nat.reduceAdd, ↓reduceIte, Bool.false_eq_true, if_true, if_false, Bool.not_true, Bool.not_false, e]
theorem refused_off (a : Ad) {n : Nat} (h1 : 1 ≤ n) (h2 : n ≤ 60) : ∀ d ∈ [D.non, .int (-1), .int (fac n), .bl true, .str "0"], G_numbered_order a [.int (n : Nat), d] = some (.exc "NoNumber" []) := by
  intro d hd
  have e1 : G_check_within [.int (n : Nat), .int 1, .int 60] = some (.ok .non) := v_check_within (by omega) (by omega)
  have key : G_check_within [d, .int 0, .int (fac n - 1)] = some (.exc "NoNumber" []) := by
    simp only [List.mem_cons, List.not_mem_nil, or_false] at hd
    rcases hd with rfl | rfl | rfl | rfl | rfl
    · exact within_no rfl
    · exact v_check_within_no (by omega)
    · exact v_check_within_no (by omega)
    · exact within_no rfl
    · exact within_no rfl
  refine runP_ex ⟨[some (.dat (.int (n : Nat))), some (.dat d), none, none], ?_⟩
  show m_numbered_order a [some (.dat (.int (n : Nat))), some (.dat d), none, none] = _
  unfold m_numbered_order
  simp only [DV.sSeq, DV.sRet, DV.sRetF, DV.sIf, DV.sIfF, DV.sSet, DV.sSetF, DV.sNil, DV.sExpr, DV.sExprX, DV.sRetX, DV.flX, DV.sRaise, DV.fVar, DV.fOwn, DV.fC, DV.fB, DV.gB, DV.fCB, DV.gCB, DV.fCons, DV.fNil, DV.gCons, DV.gNil, DV.fT, DV.gT, DV.asB_bl, DV.asI_int, DV.fAnd, DV.fOr, DV.fNot, DV.gAnd, DV.gOr, DV.gNot, DV.fAndV, DV.fOrV, DV.fNotV, DV.gAndV, DV.gOrV, DV.fCall, DV.fCallR, DV.gCall, DV.fX, DV.xq, DV.okOf, DV.fTup, DV.fLst, DV.gTupE, DV.gLst, DV.fIf, DV.gIf, DV.qf, DV.qtf, DV.qa, DV.qi, DV.fChain, DV.fSl, DV.fO, DV.fONone, DV.mSl, DV.fSeq, DV.gSeq, DV.seqOf_lst, DV.seqOf_tup, DV.fEnum, DV.nLst, DV.nList, DV.nMul, DV.sOwn, DV.sApp, DV.sPar, DV.sParF, DV.sParOO, DV.sParDO, DV.sAug, DV.mAddI, DV.sFor, DV.sAsg, DV.sAsgF, DV.pName, DV.pNil, DV.pCons, DV.pTup, DV.wipeA, DV.mLen_lst, DV.mLen_tup, DV.mTuple, DV.mList, DV.mInt, DV.mAbs, DV.add_int, DV.mSub, DV.mLt, DV.mLe, DV.mGt, DV.mGe, DV.mRev, DV.fRev, DV.eq_ii, DV.ne_ii, DV.eq_tt, DV.ne_tt, DV.eq_ll, DV.ne_ll, Option.bind_some, Option.map_some, Option.bind_none, Option.map_none, List.getElem?_cons_zero, List.getElem?_cons_succ, List.set_cons_zero, List.set_cons_succ, List.length_cons, List.length_nil, List.length_map, Nat.zero_add, Nat.reduceAdd, ↓reduceIte, Bool.false_eq_true, if_true, if_false, Bool.not_true, Bool.not_false, e1, v_orders_many (show n ≤ 500 by omega), key]
theorem word_eq {n : Nat} {G : List D → Option Rs} {fs : AE → Option (List D)} {A : AE} {ds : List D} {c w : PySem.Str} (h1 : fs A = some ds) (h2 : ds.length = n) (h3 : G ds = some (.exc c [])) (h4 : W_exc c = some (.v (.str w))) : gWord W_word (fX n G fs) A = some (.v (.str w), A) := by
  unfold gWord fX
  rw [h1, Option.bind_some, if_pos h2, h3, Option.bind_some]
  show (W_exc c).bind _ = _
  rw [h4]; rfl
theorem wordL_eq {i n : Nat} {disp' : PySem.Addr → Option (Nat × (List D → Option Rs))} {G : List D → Option Rs} {fs : AE → Option (List D)} {A : AE} {ds : List D} {f : PySem.Addr} {c w : PySem.Str} (h0 : A[i]? = some (some (.dat (.v (.ref f))))) (hd : disp' f = some (n, G)) (h1 : fs A = some ds) (h2 : ds.length = n) (h3 : G ds = some (.exc c [])) (h4 : W_exc c = some (.v (.str w))) : gWord W_word (fXL i disp' fs) A = some (.v (.str w), A) := by
  unfold gWord fXL
  simp only [h0, hd, h1, Option.bind_some]
  rw [if_pos h2, h3, Option.bind_some]
  show (W_exc c).bind _ = _
  rw [h4]; rfl
theorem callO {i n : Nat} {G : List D → List D → Option (D × List D)} {fs : AE → Option (List D × AE)} {A : AE} {t : Bool} {xs ys ds : List D} {d : D} (h1 : A[i]? = some (some (.own t xs))) (hf : fs A = some (ds, A)) (hn : ds.length = n) (hG : G xs ds = some (d, ys)) :
    gCallO i n G fs A = some (d, A.set i (some (.own t ys))) := DH.callO_eq h1 hf h1 hn hG
theorem we_code : W_exc "BadCode" = some (.v (.str "code")) := rfl
theorem we_order : W_exc "BadOrder" = some (.v (.str "order")) := rfl
theorem we_number : W_exc "NoNumber" = some (.v (.str "number")) := rfl
theorem rep61 : mMul (.tup [D.int 0]) (.v (.int 61)) = some (.tup (List.replicate 61 (D.int 0))) := rfl
theorem setF_eq {i : Nat} {q : AE → Option (D × AE)} {A A1 : AE} {d : D} (h : q A = some (d, A1)) : sSetF i q A = some (.nx (A1.set i (some (.dat d)))) := by unfold sSetF; rw [h]; rfl
theorem app_eq {i : Nat} {q : AE → Option (D × AE)} {A : AE} {t : Bool} {xs : List D} {d : D} (h1 : A[i]? = some (some (.own t xs))) (hq : q A = some (d, A)) (hz : szOk (xs.length + 1) = true) {A2 : AE} (h2 : A.set i (some (.own t (xs ++ [d]))) = A2) : sApp i q A = some (.nx A2) := by
  unfold sApp
  simp only [h1, hq, Option.bind_some]
  rw [if_pos hz, h2]
theorem seq_nx {f g : AE → Option Fl} {A A1 : AE} (h : f A = some (.nx A1)) : sSeq f g A = g A1 := by
  show (f A).bind _ = _
  rw [h]; rfl
abbrev rs1 (a : Ad) : AE → Option Fl := (DV.sSetF 1 (DV.gCallO 0 1 G__law_some (DV.qa (DV.fCons (DV.fLst (DV.fCons (DV.fC .non) (DV.fCons (DV.fTup DV.fNil) (DV.fCons (DV.fTup (DV.fCons (DV.fC (.int 1)) DV.fNil)) (DV.fCons (DV.fLst (DV.fCons (DV.fC (.int 0)) DV.fNil)) (DV.fCons (DV.fTup (DV.fCons (DV.fC (.int 0)) (DV.fCons (DV.fC (.int 1)) DV.fNil))) (DV.fCons (DV.fTup (DV.fCons (DV.fC (.bl true)) DV.fNil)) (DV.fCons (DV.fTup (DV.fCons (DV.fNeg (DV.fC (.int 1))) (DV.fCons (DV.fC (.int 0)) DV.fNil))) (DV.fCons (DV.fB DV.mMul (DV.fTup (DV.fCons (DV.fC (.int 0)) DV.fNil)) (DV.fC (.int 61))) (DV.fCons (DV.fC (.str "0")) DV.fNil)))))))))) DV.fNil))))
abbrev rs2 (a : Ad) : AE → Option Fl := (DV.sSetF 2 (DV.gCallO 0 1 G__law_some (DV.qa (DV.fCons (DV.fLst (DV.fCons (DV.fC .non) (DV.fCons (DV.fTup DV.fNil) (DV.fCons (DV.fTup (DV.fCons (DV.fC (.int 1)) DV.fNil)) (DV.fCons (DV.fTup (DV.fCons (DV.fC (.int 0)) (DV.fCons (DV.fC (.int 0)) DV.fNil))) (DV.fCons (DV.fLst (DV.fCons (DV.fC (.int 0)) DV.fNil)) (DV.fCons (DV.fTup (DV.fCons (DV.fC (.bl false)) (DV.fCons (DV.fC (.int 1)) DV.fNil))) (DV.fCons (DV.fTR (DV.fG1 (DV.fC (.int 61)))) DV.fNil)))))))) DV.fNil))))
abbrev rs3 (a : Ad) : AE → Option Fl := (DV.sAsgF (DV.pTup 2 (DV.pCons (DV.pName 3) (DV.pCons (DV.pName 4) DV.pNil))) (DV.gTupE (DV.gCons (DV.gB DV.mAdd (DV.qf (DV.fC (.int 1))) (DV.gCallO 0 1 G__law_draw (DV.qa (DV.fCons (DV.fC (.int 9)) DV.fNil)))) (DV.gCons (DV.gCallO 0 1 G__law_some (DV.qa (DV.fCons (DV.fLst (DV.fCons (DV.fC .non) (DV.fCons (DV.fC (.int 0)) (DV.fCons (DV.fC (.int 61)) (DV.fCons (DV.fC (.bl true)) (DV.fCons (DV.fC (.str "3")) (DV.fCons (DV.fNeg (DV.fC (.int 1))) DV.fNil))))))) DV.fNil))) DV.gNil))))
abbrev rs4 (a : Ad) : AE → Option Fl := (DV.sOwn 5 (DV.nLst (DV.gCons (DV.gWord W_word (DV.fX 1 (G_from_code a) (DV.fCons (DV.fVar 1) DV.fNil))) DV.gNil)))
abbrev rs5 (a : Ad) : AE → Option Fl := (DV.sOwn 5 (DV.nCat 5 (DV.gLC (DV.qi (DV.fSeq (DV.fTup (DV.fCons (DV.fC (.ref a.f_code)) (DV.fCons (DV.fC (.ref a.f_order_number)) DV.fNil))))) ([6] : List Nat) (DV.pName 6) (fun _ => some true) (DV.gWord W_word (DV.fXL 6 (disp a) (DV.fCons (DV.fVar 2) DV.fNil))))))
abbrev rs6 (a : Ad) : AE → Option Fl := (DV.sApp 5 (DV.gWord W_word (DV.fX 2 (G_numbered_order a) (DV.fCons (DV.fVar 4) (DV.fCons (DV.fC (.int 0)) DV.fNil)))))
abbrev rs7 (a : Ad) : AE → Option Fl := (DV.sSetF 7 (DV.gCallO 0 1 G__law_some (DV.qa (DV.fCons (DV.fLst (DV.fCons (DV.fC .non) (DV.fCons (DV.fNeg (DV.fC (.int 1))) (DV.fCons (DV.fCall 1 G__law_factorial (DV.fCons (DV.fVar 3) DV.fNil)) (DV.fCons (DV.fC (.bl true)) (DV.fCons (DV.fC (.str "0")) DV.fNil)))))) DV.fNil))))
abbrev rs8 (a : Ad) : AE → Option Fl := (DV.sApp 5 (DV.gWord W_word (DV.fX 2 (G_numbered_order a) (DV.fCons (DV.fVar 3) (DV.fCons (DV.fVar 7) DV.fNil)))))
abbrev rs9 (a : Ad) : AE → Option Fl := (DV.sRet (DV.fB DV.mEq (DV.fOwn 5) (DV.fLst (DV.fCons (DV.fC (.str "code")) (DV.fCons (DV.fC (.str "order")) (DV.fCons (DV.fC (.str "order")) (DV.fCons (DV.fC (.str "number")) (DV.fCons (DV.fC (.str "number")) DV.fNil))))))))
abbrev ir1 (a : Ad) : AE → Option Fl := (DV.sSetF 1 (DV.gCallO 0 1 G__law_some (DV.gCons (DV.gLst (DV.gCons (DV.gB DV.mAdd (DV.qf (DV.fC (.int 1))) (DV.gCallO 0 1 G__law_draw (DV.qa (DV.fCons (DV.fC (.int 8)) DV.fNil)))) (DV.gCons (DV.gB DV.mAdd (DV.qf (DV.fC (.int 1))) (DV.gCallO 0 1 G__law_draw (DV.qa (DV.fCons (DV.fC (.int 60)) DV.fNil)))) (DV.gCons (DV.qf (DV.fC (.int 60))) DV.gNil)))) DV.gNil)))
abbrev ir2 (a : Ad) : AE → Option Fl := (DV.sSetF 2 (DV.gIf (DV.gT (DV.gB DV.mEq (DV.gCallO 0 1 G__law_draw (DV.qa (DV.fCons (DV.fC (.int 2)) DV.fNil))) (DV.qf (DV.fC (.int 0))))) (DV.gCallO 0 1 G__law_mixed (DV.qa (DV.fCons (DV.fVar 1) DV.fNil))) (DV.gB DV.mIx (DV.gCallO 0 1 G__law_laid (DV.qa (DV.fCons (DV.fVar 1) DV.fNil))) (DV.qf (DV.fC (.int 0))))))
abbrev ir3 (a : Ad) : AE → Option Fl := (DV.sPar 3 4 (DV.fCons (DV.fCall 1 G__law_code (DV.fCons (DV.fVar 2) DV.fNil)) (DV.fCons (DV.fCall 1 G__law_number (DV.fCons (DV.fVar 2) DV.fNil)) DV.fNil)))
abbrev ir4 (a : Ad) : AE → Option Fl := (DV.sIf (DV.fOr (DV.fT (DV.fB DV.mNe (DV.fCall 1 G_code (DV.fCons (DV.fVar 2) DV.fNil)) (DV.fVar 3))) (DV.fOr (DV.fT (DV.fB DV.mNe (DV.fCall 1 (G_from_code a) (DV.fCons (DV.fVar 3) DV.fNil)) (DV.fVar 2))) (DV.fT (DV.fB DV.mNe (DV.fCB DV.mSumA (DV.fCons (DV.fVar 3) DV.fNil)) (DV.fCall 2 G_distance (DV.fCons (DV.fTR (DV.fG1 (DV.fVar 1))) (DV.fCons (DV.fVar 2) DV.fNil))))))) (DV.sRet (DV.fC (.bl false))) DV.sNil)
abbrev ir5 (a : Ad) : AE → Option Fl := (DV.sIf (DV.fOr (DV.fT (DV.fB DV.mNe (DV.fCall 1 G_order_number (DV.fCons (DV.fVar 2) DV.fNil)) (DV.fVar 4))) (DV.fT (DV.fB DV.mNe (DV.fCall 2 (G_numbered_order a) (DV.fCons (DV.fVar 1) (DV.fCons (DV.fVar 4) DV.fNil))) (DV.fVar 2)))) (DV.sRet (DV.fC (.bl false))) DV.sNil)
abbrev ir6 (a : Ad) : AE → Option Fl := (DV.sIf (DV.fAnd (DV.fT (DV.fB DV.mLt (DV.fVar 1) (DV.fC (.int 34)))) (DV.fAnd (DV.fT (DV.fB DV.mGt (DV.fVar 4) (DV.fC (.int 0)))) (DV.fNot (DV.fT (DV.fB DV.mLt (DV.fCall 2 (G_numbered_order a) (DV.fCons (DV.fVar 1) (DV.fCons (DV.fB DV.mSub (DV.fVar 4) (DV.fC (.int 1))) DV.fNil))) (DV.fVar 2)))))) (DV.sRet (DV.fC (.bl false))) DV.sNil)
abbrev ir7 (a : Ad) : AE → Option Fl := (DV.sIf (DV.fAnd (DV.fT (DV.fB DV.mLt (DV.fVar 1) (DV.fC (.int 34)))) (DV.fAnd (DV.fT (DV.fB DV.mLt (DV.fB DV.mAdd (DV.fVar 4) (DV.fC (.int 1))) (DV.fCall 1 G__law_factorial (DV.fCons (DV.fVar 1) DV.fNil)))) (DV.fNot (DV.fT (DV.fB DV.mLt (DV.fVar 2) (DV.fCall 2 (G_numbered_order a) (DV.fCons (DV.fVar 1) (DV.fCons (DV.fB DV.mAdd (DV.fVar 4) (DV.fC (.int 1))) DV.fNil)))))))) (DV.sRet (DV.fC (.bl false))) DV.sNil)
abbrev ir8 (a : Ad) : AE → Option Fl := (DV.sSetF 6 (DV.gCB DV.mTuple (DV.gCons (DV.gLC (DV.qi (DV.fR1 (DV.fCons (DV.fVar 1) DV.fNil))) ([5] : List Nat) (DV.pName 5) (fun _ => some true) (DV.gCallO 0 1 G__law_draw (DV.qa (DV.fCons (DV.fB DV.mSub (DV.fVar 1) (DV.fVar 5)) DV.fNil)))) DV.gNil)))
abbrev ir9 (a : Ad) : AE → Option Fl := (DV.sIf (DV.fOr (DV.fT (DV.fB DV.mNe (DV.fCall 1 (G_from_code a) (DV.fCons (DV.fVar 6) DV.fNil)) (DV.fCall 1 G__law_from_code (DV.fCons (DV.fVar 6) DV.fNil)))) (DV.fT (DV.fB DV.mNe (DV.fCall 1 G_code (DV.fCons (DV.fCall 1 (G_from_code a) (DV.fCons (DV.fVar 6) DV.fNil)) DV.fNil)) (DV.fVar 6)))) (DV.sRet (DV.fC (.bl false))) DV.sNil)
abbrev ir10 (a : Ad) : AE → Option Fl := (DV.sSet 7 (DV.fRev (DV.fTR (DV.fG1 (DV.fVar 1)))))
abbrev ir11 (a : Ad) : AE → Option Fl := (DV.sSet 8 (DV.fCall 1 G_order_number (DV.fCons (DV.fVar 7) DV.fNil)))
abbrev ir12 (a : Ad) : AE → Option Fl := (DV.sIf (DV.fOr (DV.fT (DV.fB DV.mNe (DV.fVar 8) (DV.fB DV.mSub (DV.fCall 1 G__law_factorial (DV.fCons (DV.fVar 1) DV.fNil)) (DV.fC (.int 1))))) (DV.fOr (DV.fT (DV.fB DV.mNe (DV.fCall 2 (G_numbered_order a) (DV.fCons (DV.fVar 1) (DV.fCons (DV.fVar 8) DV.fNil))) (DV.fVar 7))) (DV.fT (DV.fB DV.mNe (DV.fCall 2 (G_numbered_order a) (DV.fCons (DV.fVar 1) (DV.fCons (DV.fC (.int 0)) DV.fNil))) (DV.fRev (DV.fVar 7)))))) (DV.sRet (DV.fC (.bl false))) DV.sNil)
abbrev ir13 (a : Ad) : AE → Option Fl := (DV.sIf (DV.fT (DV.fB DV.mLt (DV.fVar 1) (DV.fC (.int 24)))) (DV.sSeq (DV.sSetF 5 (DV.gCallO 0 1 G__law_draw (DV.qa (DV.fCons (DV.fCall 1 G__law_factorial (DV.fCons (DV.fVar 1) DV.fNil)) DV.fNil))))
  (DV.sIf (DV.fT (DV.fB DV.mNe (DV.fCall 2 (G_numbered_order a) (DV.fCons (DV.fVar 1) (DV.fCons (DV.fVar 5) DV.fNil))) (DV.fCall 2 G__law_numbered (DV.fCons (DV.fVar 1) (DV.fCons (DV.fVar 5) DV.fNil))))) (DV.sRet (DV.fC (.bl false))) DV.sNil)) DV.sNil)
abbrev ir14 (a : Ad) : AE → Option Fl := (DV.sRetF (DV.gCallO 0 0 (G__law_are_refused a) (DV.qa DV.fNil)))
abbrev rs3a : AE → Option (D × AE) := (DV.gB DV.mAdd (DV.qf (DV.fC (.int 1))) (DV.gCallO 0 1 G__law_draw (DV.qa (DV.fCons (DV.fC (.int 9)) DV.fNil))))
abbrev rs3b : AE → Option (D × AE) := (DV.gCallO 0 1 G__law_some (DV.qa (DV.fCons (DV.fLst (DV.fCons (DV.fC .non) (DV.fCons (DV.fC (.int 0)) (DV.fCons (DV.fC (.int 61)) (DV.fCons (DV.fC (.bl true)) (DV.fCons (DV.fC (.str "3")) (DV.fCons (DV.fNeg (DV.fC (.int 1))) DV.fNil))))))) DV.fNil)))
theorem str_ok (x : PySem.Str) (h : PySem.PyData.strOk x = true) : PySem.PyData.canLay0 (.str x) = true := by simp only [PySem.PyData.canLay0]; exact h
theorem words5 : mEq (.lst [D.v (.str "code"), D.v (.str "order"), D.v (.str "order"), D.v (.str "number"), D.v (.str "number")]) (.lst [D.v (.str "code"), D.v (.str "order"), D.v (.str "order"), D.v (.str "number"), D.v (.str "number")]) = some (.bl true) := by
  have k1 : PySem.PyData.strOk "code" = true := by decide +kernel
  have k2 : PySem.PyData.strOk "order" = true := by decide +kernel
  have k3 : PySem.PyData.strOk "number" = true := by decide +kernel
  simp [mEq, mEqB, toP, toPL, PySem.SeqAt.shaped, PySem.PyData.canLay0, PySem.PyData.canLayAll0, PySem.PyData.depth, PySem.PyData.depthAll, PySem.PyData.eqv, PySem.PyData.eqvAll, k1, k2, k3]
theorem refused_ok (a : Ad) (ap : a.f_order_number ≠ a.f_code) {xs : List D} (h : DH.HandOk xs) : ∃ xs', G__law_are_refused a xs [] = some (.bl true, xs') ∧ DH.HandOk xs' := by
  obtain ⟨odd, xs1, e1, p1, h1⟩ := some_all (P := fun d => G_from_code a [d] = some (.exc "BadCode" [])) h (by decide) (by decide) (refused_codes a)
  obtain ⟨bad, xs2, e2, p2, h2⟩ := some_all (P := fun d => G_code [d] = some (.exc "BadOrder" []) ∧ G_order_number [d] = some (.exc "BadOrder" [])) h1 (by decide) (by decide) refused_orders
  obtain ⟨r, xs3, e3, r0, r1, h3⟩ := DH.draw_ok h2 (DH.many_nat (n := 9) (by decide) (by decide))
  obtain ⟨nn, hnn⟩ : ∃ n : Nat, (1 : Int) + r = n := ⟨(1 + r).toNat, by omega⟩
  obtain ⟨none', xs4, e4, p4, h4⟩ := some_all (P := fun d => G_numbered_order a [d, .int 0] = some (.exc "NoNumber" [])) h3 (by decide) (by decide) (refused_many a)
  obtain ⟨off, xs5, e5, p5, h5⟩ := some_all (P := fun d => G_numbered_order a [.int (nn : Nat), d] = some (.exc "NoNumber" [])) h4 (by simp) (by simp) (refused_off a (n := nn) (by omega) (by omega))
  refine ⟨xs5, ?_, h5⟩
  unfold G__law_are_refused
  rw [DH.runO_eq]
  refine DH.outO_rt (A := [some (.dat odd), some (.dat bad), some (.dat (.int (nn : Nat))), some (.dat none'), some (.own false [.v (.str "code"), .v (.str "order"), .v (.str "order"), .v (.str "number"), .v (.str "number")]), none, some (.dat off)]) ?_
  have s1 : rs1 a [some (.own true xs), none, none, none, none, none, none, none] = some (.nx [some (.own true xs1), some (.dat odd), none, none, none, none, none, none]) :=
    setF_eq (callO (t := true) (xs := xs) rfl rfl rfl e1)
  have s2 : rs2 a [some (.own true xs1), some (.dat odd), none, none, none, none, none, none] = some (.nx [some (.own true xs2), some (.dat odd), some (.dat bad), none, none, none, none, none]) :=
    setF_eq (callO (t := true) (xs := xs1) rfl rfl rfl e2)
  have s3a : rs3a [some (.own true xs2), some (.dat odd), some (.dat bad), none, none, none, none, none] = some (.int (nn : Nat), [some (.own true xs3), some (.dat odd), some (.dat bad), none, none, none, none, none]) := by
    have c : gCallO 0 1 G__law_draw (qa (fCons (fC (.int 9)) fNil)) [some (.own true xs2), some (.dat odd), some (.dat bad), none, none, none, none, none] = some (.int r, [some (.own true xs3), some (.dat odd), some (.dat bad), none, none, none, none, none]) := callO (t := true) (xs := xs2) rfl rfl rfl e3
    simp only [DV.sSeq, DV.sRet, DV.sRetF, DV.sIf, DV.sIfF, DV.sSet, DV.sSetF, DV.sNil, DV.sExpr, DV.sExprX, DV.sRetX, DV.flX, DV.sRaise, DV.fVar, DV.fOwn, DV.fC, DV.fB, DV.gB, DV.fCB, DV.gCB, DV.fCons, DV.fNil, DV.gCons, DV.gNil, DV.fT, DV.gT, DV.asB_bl, DV.asI_int, DV.fAnd, DV.fOr, DV.fNot, DV.gAnd, DV.gOr, DV.gNot, DV.fAndV, DV.fOrV, DV.fNotV, DV.gAndV, DV.gOrV, DV.fCall, DV.fCallR, DV.gCall, DV.fX, DV.xq, DV.okOf, DV.fTup, DV.fLst, DV.gTupE, DV.gLst, DV.fIf, DV.gIf, DV.qf, DV.qtf, DV.qa, DV.qi, DV.fChain, DV.fSl, DV.fO, DV.fONone, DV.mSl, DV.fSeq, DV.gSeq, DV.seqOf_lst, DV.seqOf_tup, DV.fEnum, DV.nLst, DV.nList, DV.nMul, DV.sOwn, DV.sApp, DV.sPar, DV.sParF, DV.sParOO, DV.sParDO, DV.sAug, DV.mAddI, DV.sFor, DV.sAsg, DV.sAsgF, DV.pName, DV.pNil, DV.pCons, DV.pTup, DV.wipeA, DV.mLen_lst, DV.mLen_tup, DV.mTuple, DV.mList, DV.mInt, DV.mAbs, DV.add_int, DV.mSub, DV.mLt, DV.mLe, DV.mGt, DV.mGe, DV.mRev, DV.fRev, DV.eq_ii, DV.ne_ii, DV.eq_tt, DV.ne_tt, DV.eq_ll, DV.ne_ll, Option.bind_some, Option.map_some, Option.bind_none, Option.map_none, List.getElem?_cons_zero, List.getElem?_cons_succ, List.set_cons_zero, List.set_cons_succ, List.length_cons, List.length_nil, List.length_map, Nat.zero_add, Nat.reduceAdd, ↓reduceIte, Bool.false_eq_true, if_true, if_false, Bool.not_true, Bool.not_false, c, hnn]
  have s3b : rs3b [some (.own true xs3), some (.dat odd), some (.dat bad), none, none, none, none, none] = some (none', [some (.own true xs4), some (.dat odd), some (.dat bad), none, none, none, none, none]) :=
    callO (t := true) (xs := xs3) rfl rfl rfl e4
  have s3 : rs3 a [some (.own true xs2), some (.dat odd), some (.dat bad), none, none, none, none, none] = some (.nx [some (.own true xs4), some (.dat odd), some (.dat bad), some (.dat (.int (nn : Nat))), some (.dat none'), none, none, none]) := by
    show sAsgF _ (gTupE (gCons rs3a (gCons rs3b gNil))) _ = _
    have z2 : szOk 2 = true := rfl
    simp only [DV.sSeq, DV.sRet, DV.sRetF, DV.sIf, DV.sIfF, DV.sSet, DV.sSetF, DV.sNil, DV.sExpr, DV.sExprX, DV.sRetX, DV.flX, DV.sRaise, DV.fVar, DV.fOwn, DV.fC, DV.fB, DV.gB, DV.fCB, DV.gCB, DV.fCons, DV.fNil, DV.gCons, DV.gNil, DV.fT, DV.gT, DV.asB_bl, DV.asI_int, DV.fAnd, DV.fOr, DV.fNot, DV.gAnd, DV.gOr, DV.gNot, DV.fAndV, DV.fOrV, DV.fNotV, DV.gAndV, DV.gOrV, DV.fCall, DV.fCallR, DV.gCall, DV.fX, DV.xq, DV.okOf, DV.fTup, DV.fLst, DV.gTupE, DV.gLst, DV.fIf, DV.gIf, DV.qf, DV.qtf, DV.qa, DV.qi, DV.fChain, DV.fSl, DV.fO, DV.fONone, DV.mSl, DV.fSeq, DV.gSeq, DV.seqOf_lst, DV.seqOf_tup, DV.fEnum, DV.nLst, DV.nList, DV.nMul, DV.sOwn, DV.sApp, DV.sPar, DV.sParF, DV.sParOO, DV.sParDO, DV.sAug, DV.mAddI, DV.sFor, DV.sAsg, DV.sAsgF, DV.pName, DV.pNil, DV.pCons, DV.pTup, DV.wipeA, DV.mLen_lst, DV.mLen_tup, DV.mTuple, DV.mList, DV.mInt, DV.mAbs, DV.add_int, DV.mSub, DV.mLt, DV.mLe, DV.mGt, DV.mGe, DV.mRev, DV.fRev, DV.eq_ii, DV.ne_ii, DV.eq_tt, DV.ne_tt, DV.eq_ll, DV.ne_ll, Option.bind_some, Option.map_some, Option.bind_none, Option.map_none, List.getElem?_cons_zero, List.getElem?_cons_succ, List.set_cons_zero, List.set_cons_succ, List.length_cons, List.length_nil, List.length_map, Nat.zero_add, Nat.reduceAdd, ↓reduceIte, Bool.false_eq_true, if_true, if_false, Bool.not_true, Bool.not_false, s3a, s3b, z2]
  have s4 : rs4 a [some (.own true xs4), some (.dat odd), some (.dat bad), some (.dat (.int (nn : Nat))), some (.dat none'), none, none, none] = some (.nx [some (.own true xs4), some (.dat odd), some (.dat bad), some (.dat (.int (nn : Nat))), some (.dat none'), some (.own false [.v (.str "code")]), none, none]) := by
    have z1 : szOk 1 = true := rfl
    have c : gWord W_word (fX 1 (G_from_code a) (fCons (fVar 1) fNil)) [some (.own true xs4), some (.dat odd), some (.dat bad), some (.dat (.int (nn : Nat))), some (.dat none'), none, none, none] = some (.v (.str "code"), [some (.own true xs4), some (.dat odd), some (.dat bad), some (.dat (.int (nn : Nat))), some (.dat none'), none, none, none]) := word_eq (ds := [odd]) rfl rfl p1 we_code
    simp only [DV.sSeq, DV.sRet, DV.sRetF, DV.sIf, DV.sIfF, DV.sSet, DV.sSetF, DV.sNil, DV.sExpr, DV.sExprX, DV.sRetX, DV.flX, DV.sRaise, DV.fVar, DV.fOwn, DV.fC, DV.fB, DV.gB, DV.fCB, DV.gCB, DV.fCons, DV.fNil, DV.gCons, DV.gNil, DV.fT, DV.gT, DV.asB_bl, DV.asI_int, DV.fAnd, DV.fOr, DV.fNot, DV.gAnd, DV.gOr, DV.gNot, DV.fAndV, DV.fOrV, DV.fNotV, DV.gAndV, DV.gOrV, DV.fCall, DV.fCallR, DV.gCall, DV.fX, DV.xq, DV.okOf, DV.fTup, DV.fLst, DV.gTupE, DV.gLst, DV.fIf, DV.gIf, DV.qf, DV.qtf, DV.qa, DV.qi, DV.fChain, DV.fSl, DV.fO, DV.fONone, DV.mSl, DV.fSeq, DV.gSeq, DV.seqOf_lst, DV.seqOf_tup, DV.fEnum, DV.nLst, DV.nList, DV.nMul, DV.sOwn, DV.sApp, DV.sPar, DV.sParF, DV.sParOO, DV.sParDO, DV.sAug, DV.mAddI, DV.sFor, DV.sAsg, DV.sAsgF, DV.pName, DV.pNil, DV.pCons, DV.pTup, DV.wipeA, DV.mLen_lst, DV.mLen_tup, DV.mTuple, DV.mList, DV.mInt, DV.mAbs, DV.add_int, DV.mSub, DV.mLt, DV.mLe, DV.mGt, DV.mGe, DV.mRev, DV.fRev, DV.eq_ii, DV.ne_ii, DV.eq_tt, DV.ne_tt, DV.eq_ll, DV.ne_ll, Option.bind_some, Option.map_some, Option.bind_none, Option.map_none, List.getElem?_cons_zero, List.getElem?_cons_succ, List.set_cons_zero, List.set_cons_succ, List.length_cons, List.length_nil, List.length_map, Nat.zero_add, Nat.reduceAdd, ↓reduceIte, Bool.false_eq_true, if_true, if_false, Bool.not_true, Bool.not_false, c, z1]
  have s5 : rs5 a [some (.own true xs4), some (.dat odd), some (.dat bad), some (.dat (.int (nn : Nat))), some (.dat none'), some (.own false [.v (.str "code")]), none, none] = some (.nx [some (.own true xs4), some (.dat odd), some (.dat bad), some (.dat (.int (nn : Nat))), some (.dat none'), some (.own false [.v (.str "code"), .v (.str "order"), .v (.str "order")]), none, none]) := by
    have d1 : disp a a.f_code = some (1, G_code) := by unfold disp; rw [if_pos rfl]
    have d2 : disp a a.f_order_number = some (1, G_order_number) := by unfold disp; rw [if_neg ap, if_pos rfl]
    have c1 : gWord W_word (fXL 6 (disp a) (fCons (fVar 2) fNil)) [some (.own true xs4), some (.dat odd), some (.dat bad), some (.dat (.int (nn : Nat))), some (.dat none'), some (.own false [.v (.str "code")]), some (.dat (.v (.ref a.f_code))), none] = some (.v (.str "order"), [some (.own true xs4), some (.dat odd), some (.dat bad), some (.dat (.int (nn : Nat))), some (.dat none'), some (.own false [.v (.str "code")]), some (.dat (.v (.ref a.f_code))), none]) := wordL_eq (ds := [bad]) rfl d1 rfl rfl p2.1 we_order
    have c2 : gWord W_word (fXL 6 (disp a) (fCons (fVar 2) fNil)) [some (.own true xs4), some (.dat odd), some (.dat bad), some (.dat (.int (nn : Nat))), some (.dat none'), some (.own false [.v (.str "code")]), some (.dat (.v (.ref a.f_order_number))), none] = some (.v (.str "order"), [some (.own true xs4), some (.dat odd), some (.dat bad), some (.dat (.int (nn : Nat))), some (.dat none'), some (.own false [.v (.str "code")]), some (.dat (.v (.ref a.f_order_number))), none]) := wordL_eq (ds := [bad]) rfl d2 rfl rfl p2.2 we_order
    have g : gLC (qi (fSeq (fTup (fCons (fC (.ref a.f_code)) (fCons (fC (.ref a.f_order_number)) fNil))))) ([6] : List Nat) (pName 6) (fun _ => some true) (gWord W_word (fXL 6 (disp a) (fCons (fVar 2) fNil))) [some (.own true xs4), some (.dat odd), some (.dat bad), some (.dat (.int (nn : Nat))), some (.dat none'), some (.own false [.v (.str "code")]), none, none] = some (.lst [.v (.str "order"), .v (.str "order")], [some (.own true xs4), some (.dat odd), some (.dat bad), some (.dat (.int (nn : Nat))), some (.dat none'), some (.own false [.v (.str "code")]), none, none]) := by
      have z2 : szOk 2 = true := rfl
      unfold gLC
      simp only [DV.sSeq, DV.sRet, DV.sRetF, DV.sIf, DV.sIfF, DV.sSet, DV.sSetF, DV.sNil, DV.sExpr, DV.sExprX, DV.sRetX, DV.flX, DV.sRaise, DV.fVar, DV.fOwn, DV.fC, DV.fB, DV.gB, DV.fCB, DV.gCB, DV.fCons, DV.fNil, DV.gCons, DV.gNil, DV.fT, DV.gT, DV.asB_bl, DV.asI_int, DV.fAnd, DV.fOr, DV.fNot, DV.gAnd, DV.gOr, DV.gNot, DV.fAndV, DV.fOrV, DV.fNotV, DV.gAndV, DV.gOrV, DV.fCall, DV.fCallR, DV.gCall, DV.fX, DV.xq, DV.okOf, DV.fTup, DV.fLst, DV.gTupE, DV.gLst, DV.fIf, DV.gIf, DV.qf, DV.qtf, DV.qa, DV.qi, DV.fChain, DV.fSl, DV.fO, DV.fONone, DV.mSl, DV.fSeq, DV.gSeq, DV.seqOf_lst, DV.seqOf_tup, DV.fEnum, DV.nLst, DV.nList, DV.nMul, DV.sOwn, DV.sApp, DV.sPar, DV.sParF, DV.sParOO, DV.sParDO, DV.sAug, DV.mAddI, DV.sFor, DV.sAsg, DV.sAsgF, DV.pName, DV.pNil, DV.pCons, DV.pTup, DV.wipeA, DV.mLen_lst, DV.mLen_tup, DV.mTuple, DV.mList, DV.mInt, DV.mAbs, DV.add_int, DV.mSub, DV.mLt, DV.mLe, DV.mGt, DV.mGe, DV.mRev, DV.fRev, DV.eq_ii, DV.ne_ii, DV.eq_tt, DV.ne_tt, DV.eq_ll, DV.ne_ll, Option.bind_some, Option.map_some, Option.bind_none, Option.map_none, List.getElem?_cons_zero, List.getElem?_cons_succ, List.set_cons_zero, List.set_cons_succ, List.length_cons, List.length_nil, List.length_map, Nat.zero_add, Nat.reduceAdd, ↓reduceIte, Bool.false_eq_true, if_true, if_false, Bool.not_true, Bool.not_false, z2, lcGoF, c1, c2, List.getD_cons_succ, List.getD_cons_zero, isOwn, List.all_cons, List.all_nil, Bool.and_true, Bool.and_self, restA]
    have z3 : szOk 3 = true := rfl
    unfold rs5
    unfold sOwn nCat
    simp only [List.getElem?_cons_zero, List.getElem?_cons_succ, g, Option.bind_some]
    rw [show szOk ([D.v (.str "code")].length + [D.v (.str "order"), D.v (.str "order")].length) = true from rfl]
    rfl
  have s6 : rs6 a [some (.own true xs4), some (.dat odd), some (.dat bad), some (.dat (.int (nn : Nat))), some (.dat none'), some (.own false [.v (.str "code"), .v (.str "order"), .v (.str "order")]), none, none] = some (.nx [some (.own true xs4), some (.dat odd), some (.dat bad), some (.dat (.int (nn : Nat))), some (.dat none'), some (.own false [.v (.str "code"), .v (.str "order"), .v (.str "order"), .v (.str "number")]), none, none]) :=
    app_eq (t := false) (xs := [.v (.str "code"), .v (.str "order"), .v (.str "order")]) rfl (word_eq (ds := [none', .int 0]) rfl rfl p4 we_number) rfl rfl
  have s7 : rs7 a [some (.own true xs4), some (.dat odd), some (.dat bad), some (.dat (.int (nn : Nat))), some (.dat none'), some (.own false [.v (.str "code"), .v (.str "order"), .v (.str "order"), .v (.str "number")]), none, none] = some (.nx [some (.own true xs5), some (.dat odd), some (.dat bad), some (.dat (.int (nn : Nat))), some (.dat none'), some (.own false [.v (.str "code"), .v (.str "order"), .v (.str "order"), .v (.str "number")]), none, some (.dat off)]) :=
    setF_eq (callO (t := true) (xs := xs4) (ds := [.lst [D.non, .int (-1), .int (fac nn), .bl true, .str "0"]]) rfl (by
      have f : G__law_factorial [.int (nn : Nat)] = some (.ok (.int (fac nn))) := v__law_factorial (by omega)
      have z5 : szOk 5 = true := rfl
      simp only [DV.sSeq, DV.sRet, DV.sRetF, DV.sIf, DV.sIfF, DV.sSet, DV.sSetF, DV.sNil, DV.sExpr, DV.sExprX, DV.sRetX, DV.flX, DV.sRaise, DV.fVar, DV.fOwn, DV.fC, DV.fB, DV.gB, DV.fCB, DV.gCB, DV.fCons, DV.fNil, DV.gCons, DV.gNil, DV.fT, DV.gT, DV.asB_bl, DV.asI_int, DV.fAnd, DV.fOr, DV.fNot, DV.gAnd, DV.gOr, DV.gNot, DV.fAndV, DV.fOrV, DV.fNotV, DV.gAndV, DV.gOrV, DV.fCall, DV.fCallR, DV.gCall, DV.fX, DV.xq, DV.okOf, DV.fTup, DV.fLst, DV.gTupE, DV.gLst, DV.fIf, DV.gIf, DV.qf, DV.qtf, DV.qa, DV.qi, DV.fChain, DV.fSl, DV.fO, DV.fONone, DV.mSl, DV.fSeq, DV.gSeq, DV.seqOf_lst, DV.seqOf_tup, DV.fEnum, DV.nLst, DV.nList, DV.nMul, DV.sOwn, DV.sApp, DV.sPar, DV.sParF, DV.sParOO, DV.sParDO, DV.sAug, DV.mAddI, DV.sFor, DV.sAsg, DV.sAsgF, DV.pName, DV.pNil, DV.pCons, DV.pTup, DV.wipeA, DV.mLen_lst, DV.mLen_tup, DV.mTuple, DV.mList, DV.mInt, DV.mAbs, DV.add_int, DV.mSub, DV.mLt, DV.mLe, DV.mGt, DV.mGe, DV.mRev, DV.fRev, DV.eq_ii, DV.ne_ii, DV.eq_tt, DV.ne_tt, DV.eq_ll, DV.ne_ll, Option.bind_some, Option.map_some, Option.bind_none, Option.map_none, List.getElem?_cons_zero, List.getElem?_cons_succ, List.set_cons_zero, List.set_cons_succ, List.length_cons, List.length_nil, List.length_map, Nat.zero_add, Nat.reduceAdd, ↓reduceIte, Bool.false_eq_true, if_true, if_false, Bool.not_true, Bool.not_false, f, z5, fNeg]) rfl e5)
  have s8 : rs8 a [some (.own true xs5), some (.dat odd), some (.dat bad), some (.dat (.int (nn : Nat))), some (.dat none'), some (.own false [.v (.str "code"), .v (.str "order"), .v (.str "order"), .v (.str "number")]), none, some (.dat off)] = some (.nx [some (.own true xs5), some (.dat odd), some (.dat bad), some (.dat (.int (nn : Nat))), some (.dat none'), some (.own false [.v (.str "code"), .v (.str "order"), .v (.str "order"), .v (.str "number"), .v (.str "number")]), none, some (.dat off)]) :=
    app_eq (t := false) (xs := [.v (.str "code"), .v (.str "order"), .v (.str "order"), .v (.str "number")]) rfl (word_eq (ds := [.int (nn : Nat), off]) rfl rfl p5 we_number) rfl rfl
  show (sSeq (rs1 a) (sSeq (rs2 a) (sSeq (rs3 a) (sSeq (rs4 a) (sSeq (rs5 a) (sSeq (rs6 a) (sSeq (rs7 a) (sSeq (rs8 a) (rs9 a))))))))) [some (.own true xs), none, none, none, none, none, none, none] = _
  rw [seq_nx s1, seq_nx s2, seq_nx s3, seq_nx s4, seq_nx s5, seq_nx s6, seq_nx s7, seq_nx s8]
  have z5 : szOk 5 = true := rfl
  simp only [DV.sSeq, DV.sRet, DV.sRetF, DV.sIf, DV.sIfF, DV.sSet, DV.sSetF, DV.sNil, DV.sExpr, DV.sExprX, DV.sRetX, DV.flX, DV.sRaise, DV.fVar, DV.fOwn, DV.fC, DV.fB, DV.gB, DV.fCB, DV.gCB, DV.fCons, DV.fNil, DV.gCons, DV.gNil, DV.fT, DV.gT, DV.asB_bl, DV.asI_int, DV.fAnd, DV.fOr, DV.fNot, DV.gAnd, DV.gOr, DV.gNot, DV.fAndV, DV.fOrV, DV.fNotV, DV.gAndV, DV.gOrV, DV.fCall, DV.fCallR, DV.gCall, DV.fX, DV.xq, DV.okOf, DV.fTup, DV.fLst, DV.gTupE, DV.gLst, DV.fIf, DV.gIf, DV.qf, DV.qtf, DV.qa, DV.qi, DV.fChain, DV.fSl, DV.fO, DV.fONone, DV.mSl, DV.fSeq, DV.gSeq, DV.seqOf_lst, DV.seqOf_tup, DV.fEnum, DV.nLst, DV.nList, DV.nMul, DV.sOwn, DV.sApp, DV.sPar, DV.sParF, DV.sParOO, DV.sParDO, DV.sAug, DV.mAddI, DV.sFor, DV.sAsg, DV.sAsgF, DV.pName, DV.pNil, DV.pCons, DV.pTup, DV.wipeA, DV.mLen_lst, DV.mLen_tup, DV.mTuple, DV.mList, DV.mInt, DV.mAbs, DV.add_int, DV.mSub, DV.mLt, DV.mLe, DV.mGt, DV.mGe, DV.mRev, DV.fRev, DV.eq_ii, DV.ne_ii, DV.eq_tt, DV.ne_tt, DV.eq_ll, DV.ne_ll, Option.bind_some, Option.map_some, Option.bind_none, Option.map_none, List.getElem?_cons_zero, List.getElem?_cons_succ, List.set_cons_zero, List.set_cons_succ, List.length_cons, List.length_nil, List.length_map, Nat.zero_add, Nat.reduceAdd, ↓reduceIte, Bool.false_eq_true, if_true, if_false, Bool.not_true, Bool.not_false, words5, z5]
end W74

namespace W74
open P74 DV
variable [DV.TabC]
theorem callO' {i n : Nat} {G : List D → List D → Option (D × List D)} {fs : AE → Option (List D × AE)} {A A1 : AE} {t t' : Bool} {xs xs' ys ds : List D} {d : D} (h1 : A[i]? = some (some (.own t xs))) (hf : fs A = some (ds, A1)) (h3 : A1[i]? = some (some (.own t' xs'))) (hn : ds.length = n) (hG : G xs' ds = some (d, ys)) {A2 : AE} (h2 : A1.set i (some (.own t' ys)) = A2) :
    gCallO i n G fs A = some (d, A2) := by rw [← h2]; exact DH.callO_eq h1 hf h3 hn hG
theorem lt_tt (ns ms : List Int) : mLt (T ns) (T ms) = some (.bl (HT.lexLt ns ms)) := by
  show (intsOf (ns.map D.int)).bind _ = _
  rw [intsOf_map, Option.bind_some, intsOf_map]; rfl
theorem sum_ints (ns : List Int) : mSumA [T ns] = some (.int ns.sum) := by
  show (intsOf (ns.map D.int)).map _ = _
  rw [intsOf_map]; rfl
theorem Ord'.cd {n : Nat} {p : List Int} (h : Ord' n p) : obc (DV.rng n) (codeL p) = p := obc_code p _ (rng_sd n) h.pe
theorem Ord'.nb {n : Nat} {p : List Int} (h : Ord' n p) : 0 ≤ num (codeL p) ∧ num (codeL p) < fac n := by
  have := num_bound (codeL p) (codeL_valid p)
  rw [codeL_len, h.len] at this
  exact this
theorem Ord'.dg {n : Nat} {p : List Int} (h : Ord' n p) : dig n (num (codeL p)) = codeL p := by
  have := dig_num (codeL p) (codeL_valid p)
  rw [codeL_len, h.len] at this
  exact this
theorem obc_ord {n : Nat} {cs : List Int} (h1 : 1 ≤ n) (h60 : n ≤ 60) (hl : cs.length = n) (hv : valid cs) : Ord' n (obc (DV.rng n) cs) ∧ codeL (obc (DV.rng n) cs) = cs := by
  have := obc_ok cs (DV.rng n) (rng_sd n) (by rw [rng_len, hl]) hv
  exact ⟨⟨h1, h60, this.1⟩, this.2⟩
theorem rev_ord {n : Nat} (h1 : 1 ≤ n) (h60 : n ≤ 60) : Ord' n (DV.rng n).reverse := ⟨h1, h60, List.reverse_perm _⟩
theorem rev_num (n : Nat) : num (codeL (DV.rng n).reverse) = fac n - 1 := by
  have h : ((DV.rng n).reverse).Pairwise (· > ·) := List.pairwise_reverse.mpr (rng_sd n)
  rw [code_fall _ h, List.length_reverse, rng_len]
/-- the neighbours in the list of all orders -/
theorem lex_near {n : Nat} {p : List Int} (h : Ord' n p) {x : Int} (x0 : 0 ≤ x) (x1 : x < fac n) : (x < num (codeL p) → HT.lexLt (obc (DV.rng n) (dig n x)) p = true) ∧ (num (codeL p) < x → HT.lexLt p (obc (DV.rng n) (dig n x)) = true) := by
  have e : num (dig n x) = x := by rw [num_dig, Int.emod_eq_of_lt x0 x1]
  have hl : (dig n x).length = (codeL p).length := by rw [dig_len, codeL_len, h.len]
  refine ⟨fun hx => ?_, fun hx => ?_⟩
  · have := obc_lex (dig n x) (codeL p) (DV.rng n) (rng_sd n) (by rw [rng_len, dig_len]) hl (dig_valid _ _) (codeL_valid p) (num_lex _ _ hl (dig_valid _ _) (codeL_valid p) (by rw [e]; exact hx))
    rwa [h.cd] at this
  · have := obc_lex (codeL p) (dig n x) (DV.rng n) (rng_sd n) (by rw [rng_len, codeL_len, h.len]) hl.symm (codeL_valid p) (dig_valid _ _) (num_lex _ _ hl.symm (codeL_valid p) (dig_valid _ _) (by rw [e]; exact hx))
    rwa [h.cd] at this
/-! ## the stages -/
theorem st1 (a : Ad) {xs : List D} (h : DH.HandOk xs) : ∃ (n : Nat) (xs' : List D), ir1 a [some (.own true xs), none, none, none, none, none, none, none, none] = some (.nx [some (.own true xs'), some (.dat (.int (n : Nat))), none, none, none, none, none, none, none]) ∧ 1 ≤ n ∧ n ≤ 60 ∧ DH.HandOk xs' := by
  obtain ⟨r, xs1, e1, r0, r1, h1⟩ := DH.draw_ok h (DH.many_nat (n := 8) (by decide) (by decide))
  obtain ⟨q, xs2, e2, q0, q1, h2⟩ := DH.draw_ok h1 (DH.many_nat (n := 60) (by decide) (by decide))
  obtain ⟨d, xs3, e3, ⟨n, rfl, n1, n2⟩, h3⟩ := some_all (P := fun d => ∃ n : Nat, d = .int (n : Nat) ∧ 1 ≤ n ∧ n ≤ 60) (items := [.int (1 + r), .int (1 + q), .int 60]) h2 (by simp) (by simp) (fun d hd => by
    simp only [List.mem_cons, List.not_mem_nil, or_false] at hd
    rcases hd with rfl | rfl | rfl
    · exact ⟨(1 + r).toNat, by rw [Int.toNat_of_nonneg (by omega)], by omega, by omega⟩
    · exact ⟨(1 + q).toNat, by rw [Int.toNat_of_nonneg (by omega)], by omega, by omega⟩
    · exact ⟨60, rfl, by decide, by decide⟩)
  refine ⟨n, xs3, ?_, n1, n2, h3⟩
  have c1 : gCallO 0 1 G__law_draw (qa (fCons (fC (.int 8)) fNil)) [some (.own true xs), none, none, none, none, none, none, none, none] = some (.int r, [some (.own true xs1), none, none, none, none, none, none, none, none]) := callO (t := true) (xs := xs) rfl rfl rfl e1
  have c2 : gCallO 0 1 G__law_draw (qa (fCons (fC (.int 60)) fNil)) [some (.own true xs1), none, none, none, none, none, none, none, none] = some (.int q, [some (.own true xs2), none, none, none, none, none, none, none, none]) := callO (t := true) (xs := xs1) rfl rfl rfl e2
  have z3 : szOk 3 = true := rfl
  exact setF_eq (callO' (A1 := [some (.own true xs2), none, none, none, none, none, none, none, none]) (t := true) (xs := xs) (t' := true) (xs' := xs2) rfl (by simp only [DV.sSeq, DV.sRet, DV.sRetF, DV.sIf, DV.sIfF, DV.sSet, DV.sSetF, DV.sNil, DV.sExpr, DV.sExprX, DV.sRetX, DV.flX, DV.sRaise, DV.fVar, DV.fOwn, DV.fC, DV.fB, DV.gB, DV.fCB, DV.gCB, DV.fCons, DV.fNil, DV.gCons, DV.gNil, DV.fT, DV.gT, DV.asB_bl, DV.asI_int, DV.fAnd, DV.fOr, DV.fNot, DV.gAnd, DV.gOr, DV.gNot, DV.fAndV, DV.fOrV, DV.fNotV, DV.gAndV, DV.gOrV, DV.fCall, DV.fCallR, DV.gCall, DV.fX, DV.xq, DV.okOf, DV.fTup, DV.fLst, DV.gTupE, DV.gLst, DV.fIf, DV.gIf, DV.qf, DV.qtf, DV.qa, DV.qi, DV.fChain, DV.fSl, DV.fO, DV.fONone, DV.mSl, DV.fSeq, DV.gSeq, DV.seqOf_lst, DV.seqOf_tup, DV.fEnum, DV.nLst, DV.nList, DV.nMul, DV.sOwn, DV.sApp, DV.sPar, DV.sParF, DV.sParOO, DV.sParDO, DV.sAug, DV.mAddI, DV.sFor, DV.sAsg, DV.sAsgF, DV.pName, DV.pNil, DV.pCons, DV.pTup, DV.wipeA, DV.mLen_lst, DV.mLen_tup, DV.mTuple, DV.mList, DV.mInt, DV.mAbs, DV.add_int, DV.mSub, DV.mLt, DV.mLe, DV.mGt, DV.mGe, DV.mRev, DV.fRev, DV.eq_ii, DV.ne_ii, DV.eq_tt, DV.ne_tt, DV.eq_ll, DV.ne_ll, Option.bind_some, Option.map_some, Option.bind_none, Option.map_none, List.getElem?_cons_zero, List.getElem?_cons_succ, List.set_cons_zero, List.set_cons_succ, List.length_cons, List.length_nil, List.length_map, Nat.zero_add, Nat.reduceAdd, ↓reduceIte, Bool.false_eq_true, if_true, if_false, Bool.not_true, Bool.not_false, c1, c2, z3]) rfl rfl e3 rfl)
theorem st2 (a : Ad) {xs : List D} {n : Nat} (h : DH.HandOk xs) (n1 : 1 ≤ n) (n2 : n ≤ 60) : ∃ (p : List Int) (xs' : List D), ir2 a [some (.own true xs), some (.dat (.int (n : Nat))), none, none, none, none, none, none, none] = some (.nx [some (.own true xs'), some (.dat (.int (n : Nat))), some (.dat (T p)), none, none, none, none, none, none]) ∧ Ord' n p ∧ DH.HandOk xs' := by
  obtain ⟨r, xs1, e1, r0, r1, h1⟩ := DH.draw_ok h (DH.many_nat (n := 2) (by decide) (by decide))
  have c1 : gCallO 0 1 G__law_draw (qa (fCons (fC (.int 2)) fNil)) [some (.own true xs), some (.dat (.int (n : Nat))), none, none, none, none, none, none, none] = some (.int r, [some (.own true xs1), some (.dat (.int (n : Nat))), none, none, none, none, none, none, none]) := callO (t := true) (xs := xs) rfl rfl rfl e1
  by_cases c : r = 0
  · obtain ⟨p, xs2, e2, h2, pe⟩ := DH.mixed_ok h1 (n := n) (by omega)
    refine ⟨p, xs2, ?_, ⟨n1, n2, pe⟩, h2⟩
    have c2 : gCallO 0 1 G__law_mixed (qa (fCons (fVar 1) fNil)) [some (.own true xs1), some (.dat (.int (n : Nat))), none, none, none, none, none, none, none] = some (T p, [some (.own true xs2), some (.dat (.int (n : Nat))), none, none, none, none, none, none, none]) := callO (t := true) (xs := xs1) rfl rfl rfl e2
    simp only [DV.sSeq, DV.sRet, DV.sRetF, DV.sIf, DV.sIfF, DV.sSet, DV.sSetF, DV.sNil, DV.sExpr, DV.sExprX, DV.sRetX, DV.flX, DV.sRaise, DV.fVar, DV.fOwn, DV.fC, DV.fB, DV.gB, DV.fCB, DV.gCB, DV.fCons, DV.fNil, DV.gCons, DV.gNil, DV.fT, DV.gT, DV.asB_bl, DV.asI_int, DV.fAnd, DV.fOr, DV.fNot, DV.gAnd, DV.gOr, DV.gNot, DV.fAndV, DV.fOrV, DV.fNotV, DV.gAndV, DV.gOrV, DV.fCall, DV.fCallR, DV.gCall, DV.fX, DV.xq, DV.okOf, DV.fTup, DV.fLst, DV.gTupE, DV.gLst, DV.fIf, DV.gIf, DV.qf, DV.qtf, DV.qa, DV.qi, DV.fChain, DV.fSl, DV.fO, DV.fONone, DV.mSl, DV.fSeq, DV.gSeq, DV.seqOf_lst, DV.seqOf_tup, DV.fEnum, DV.nLst, DV.nList, DV.nMul, DV.sOwn, DV.sApp, DV.sPar, DV.sParF, DV.sParOO, DV.sParDO, DV.sAug, DV.mAddI, DV.sFor, DV.sAsg, DV.sAsgF, DV.pName, DV.pNil, DV.pCons, DV.pTup, DV.wipeA, DV.mLen_lst, DV.mLen_tup, DV.mTuple, DV.mList, DV.mInt, DV.mAbs, DV.add_int, DV.mSub, DV.mLt, DV.mLe, DV.mGt, DV.mGe, DV.mRev, DV.fRev, DV.eq_ii, DV.ne_ii, DV.eq_tt, DV.ne_tt, DV.eq_ll, DV.ne_ll, Option.bind_some, Option.map_some, Option.bind_none, Option.map_none, List.getElem?_cons_zero, List.getElem?_cons_succ, List.set_cons_zero, List.set_cons_succ, List.length_cons, List.length_nil, List.length_map, Nat.zero_add, Nat.reduceAdd, ↓reduceIte, Bool.false_eq_true, if_true, if_false, Bool.not_true, Bool.not_false, c1, decide_eq_true c, c2]
  · obtain ⟨p, t, xs2, e2, h2, lp, ll⟩ := DH.laid_ok h1 (n := n) n1 (by omega)
    have pe := lp.perm
    rw [ll] at pe
    refine ⟨p, xs2, ?_, ⟨n1, n2, pe⟩, h2⟩
    have c2 : gCallO 0 1 G__law_laid (qa (fCons (fVar 1) fNil)) [some (.own true xs1), some (.dat (.int (n : Nat))), none, none, none, none, none, none, none] = some (.tup [DV.tI' p, t], [some (.own true xs2), some (.dat (.int (n : Nat))), none, none, none, none, none, none, none]) := callO (t := true) (xs := xs1) rfl rfl rfl e2
    have i0 : mIx (.tup [DV.tI' p, t]) (.v (.int 0)) = some (DV.tI' p) := rfl
    simp only [DV.sSeq, DV.sRet, DV.sRetF, DV.sIf, DV.sIfF, DV.sSet, DV.sSetF, DV.sNil, DV.sExpr, DV.sExprX, DV.sRetX, DV.flX, DV.sRaise, DV.fVar, DV.fOwn, DV.fC, DV.fB, DV.gB, DV.fCB, DV.gCB, DV.fCons, DV.fNil, DV.gCons, DV.gNil, DV.fT, DV.gT, DV.asB_bl, DV.asI_int, DV.fAnd, DV.fOr, DV.fNot, DV.gAnd, DV.gOr, DV.gNot, DV.fAndV, DV.fOrV, DV.fNotV, DV.gAndV, DV.gOrV, DV.fCall, DV.fCallR, DV.gCall, DV.fX, DV.xq, DV.okOf, DV.fTup, DV.fLst, DV.gTupE, DV.gLst, DV.fIf, DV.gIf, DV.qf, DV.qtf, DV.qa, DV.qi, DV.fChain, DV.fSl, DV.fO, DV.fONone, DV.mSl, DV.fSeq, DV.gSeq, DV.seqOf_lst, DV.seqOf_tup, DV.fEnum, DV.nLst, DV.nList, DV.nMul, DV.sOwn, DV.sApp, DV.sPar, DV.sParF, DV.sParOO, DV.sParDO, DV.sAug, DV.mAddI, DV.sFor, DV.sAsg, DV.sAsgF, DV.pName, DV.pNil, DV.pCons, DV.pTup, DV.wipeA, DV.mLen_lst, DV.mLen_tup, DV.mTuple, DV.mList, DV.mInt, DV.mAbs, DV.add_int, DV.mSub, DV.mLt, DV.mLe, DV.mGt, DV.mGe, DV.mRev, DV.fRev, DV.eq_ii, DV.ne_ii, DV.eq_tt, DV.ne_tt, DV.eq_ll, DV.ne_ll, Option.bind_some, Option.map_some, Option.bind_none, Option.map_none, List.getElem?_cons_zero, List.getElem?_cons_succ, List.set_cons_zero, List.set_cons_succ, List.length_cons, List.length_nil, List.length_map, Nat.zero_add, Nat.reduceAdd, ↓reduceIte, Bool.false_eq_true, if_true, if_false, Bool.not_true, Bool.not_false, c1, decide_eq_false c, c2, i0]
section
variable (a : Ad) {xs : List D} {n : Nat} {p : List Int} (h : Ord' n p) (x5 x6 x7 x8 : Option AV)
include h
theorem st3 : ir3 a [some (.own true xs), some (.dat (.int (n : Nat))), some (.dat (T p)), none, none, x5, x6, x7, x8] = some (.nx [some (.own true xs), some (.dat (.int (n : Nat))), some (.dat (T p)), some (.dat (T (codeL p))), some (.dat (.int (num (codeL p)))), x5, x6, x7, x8]) := by
  have hl := h.len
  have h60 := h.n60
  have e1 := v__law_code p (show p.length ≤ 1000 by omega)
  have e2 := v__law_number (show p.length ≤ 400 by omega)
  simp only [DV.sSeq, DV.sRet, DV.sRetF, DV.sIf, DV.sIfF, DV.sSet, DV.sSetF, DV.sNil, DV.sExpr, DV.sExprX, DV.sRetX, DV.flX, DV.sRaise, DV.fVar, DV.fOwn, DV.fC, DV.fB, DV.gB, DV.fCB, DV.gCB, DV.fCons, DV.fNil, DV.gCons, DV.gNil, DV.fT, DV.gT, DV.asB_bl, DV.asI_int, DV.fAnd, DV.fOr, DV.fNot, DV.gAnd, DV.gOr, DV.gNot, DV.fAndV, DV.fOrV, DV.fNotV, DV.gAndV, DV.gOrV, DV.fCall, DV.fCallR, DV.gCall, DV.fX, DV.xq, DV.okOf, DV.fTup, DV.fLst, DV.gTupE, DV.gLst, DV.fIf, DV.gIf, DV.qf, DV.qtf, DV.qa, DV.qi, DV.fChain, DV.fSl, DV.fO, DV.fONone, DV.mSl, DV.fSeq, DV.gSeq, DV.seqOf_lst, DV.seqOf_tup, DV.fEnum, DV.nLst, DV.nList, DV.nMul, DV.sOwn, DV.sApp, DV.sPar, DV.sParF, DV.sParOO, DV.sParDO, DV.sAug, DV.mAddI, DV.sFor, DV.sAsg, DV.sAsgF, DV.pName, DV.pNil, DV.pCons, DV.pTup, DV.wipeA, DV.mLen_lst, DV.mLen_tup, DV.mTuple, DV.mList, DV.mInt, DV.mAbs, DV.add_int, DV.mSub, DV.mLt, DV.mLe, DV.mGt, DV.mGe, DV.mRev, DV.fRev, DV.eq_ii, DV.ne_ii, DV.eq_tt, DV.ne_tt, DV.eq_ll, DV.ne_ll, Option.bind_some, Option.map_some, Option.bind_none, Option.map_none, List.getElem?_cons_zero, List.getElem?_cons_succ, List.set_cons_zero, List.set_cons_succ, List.length_cons, List.length_nil, List.length_map, Nat.zero_add, Nat.reduceAdd, ↓reduceIte, Bool.false_eq_true, if_true, if_false, Bool.not_true, Bool.not_false, e1, e2]
theorem st4 : ir4 a [some (.own true xs), some (.dat (.int (n : Nat))), some (.dat (T p)), some (.dat (T (codeL p))), some (.dat (.int (num (codeL p)))), x5, x6, x7, x8] = some (.nx [some (.own true xs), some (.dat (.int (n : Nat))), some (.dat (T p)), some (.dat (T (codeL p))), some (.dat (.int (num (codeL p)))), x5, x6, x7, x8]) := by
  have hl := h.len
  have h1 := h.n1
  have h60 := h.n60
  have e1 := v_from_code a (cs := codeL p) (by rw [codeL_len]; omega) (by rw [codeL_len]; omega) (codeL_valid p)
  rw [codeL_len, hl, h.cd] at e1
  have e2 : fTR (fG1 (fVar 1)) [some (.own true xs), some (.dat (.int (n : Nat))), some (.dat (T p)), some (.dat (T (codeL p))), some (.dat (.int (num (codeL p)))), x5, x6, x7, x8] = some (T (DV.rng n)) := fTR_n rfl (by omega)
  simp only [DV.sSeq, DV.sRet, DV.sRetF, DV.sIf, DV.sIfF, DV.sSet, DV.sSetF, DV.sNil, DV.sExpr, DV.sExprX, DV.sRetX, DV.flX, DV.sRaise, DV.fVar, DV.fOwn, DV.fC, DV.fB, DV.gB, DV.fCB, DV.gCB, DV.fCons, DV.fNil, DV.gCons, DV.gNil, DV.fT, DV.gT, DV.asB_bl, DV.asI_int, DV.fAnd, DV.fOr, DV.fNot, DV.gAnd, DV.gOr, DV.gNot, DV.fAndV, DV.fOrV, DV.fNotV, DV.gAndV, DV.gOrV, DV.fCall, DV.fCallR, DV.gCall, DV.fX, DV.xq, DV.okOf, DV.fTup, DV.fLst, DV.gTupE, DV.gLst, DV.fIf, DV.gIf, DV.qf, DV.qtf, DV.qa, DV.qi, DV.fChain, DV.fSl, DV.fO, DV.fONone, DV.mSl, DV.fSeq, DV.gSeq, DV.seqOf_lst, DV.seqOf_tup, DV.fEnum, DV.nLst, DV.nList, DV.nMul, DV.sOwn, DV.sApp, DV.sPar, DV.sParF, DV.sParOO, DV.sParDO, DV.sAug, DV.mAddI, DV.sFor, DV.sAsg, DV.sAsgF, DV.pName, DV.pNil, DV.pCons, DV.pTup, DV.wipeA, DV.mLen_lst, DV.mLen_tup, DV.mTuple, DV.mList, DV.mInt, DV.mAbs, DV.add_int, DV.mSub, DV.mLt, DV.mLe, DV.mGt, DV.mGe, DV.mRev, DV.fRev, DV.eq_ii, DV.ne_ii, DV.eq_tt, DV.ne_tt, DV.eq_ll, DV.ne_ll, Option.bind_some, Option.map_some, Option.bind_none, Option.map_none, List.getElem?_cons_zero, List.getElem?_cons_succ, List.set_cons_zero, List.set_cons_succ, List.length_cons, List.length_nil, List.length_map, Nat.zero_add, Nat.reduceAdd, ↓reduceIte, Bool.false_eq_true, if_true, if_false, Bool.not_true, Bool.not_false, v_code h, e1, e2, sum_ints, v_distance h, decide_true]
theorem st5 : ir5 a [some (.own true xs), some (.dat (.int (n : Nat))), some (.dat (T p)), some (.dat (T (codeL p))), some (.dat (.int (num (codeL p)))), x5, x6, x7, x8] = some (.nx [some (.own true xs), some (.dat (.int (n : Nat))), some (.dat (T p)), some (.dat (T (codeL p))), some (.dat (.int (num (codeL p)))), x5, x6, x7, x8]) := by
  have e1 := v_numbered_order a h.n1 h.n60 h.nb.1 h.nb.2
  rw [h.dg, h.cd] at e1
  simp only [DV.sSeq, DV.sRet, DV.sRetF, DV.sIf, DV.sIfF, DV.sSet, DV.sSetF, DV.sNil, DV.sExpr, DV.sExprX, DV.sRetX, DV.flX, DV.sRaise, DV.fVar, DV.fOwn, DV.fC, DV.fB, DV.gB, DV.fCB, DV.gCB, DV.fCons, DV.fNil, DV.gCons, DV.gNil, DV.fT, DV.gT, DV.asB_bl, DV.asI_int, DV.fAnd, DV.fOr, DV.fNot, DV.gAnd, DV.gOr, DV.gNot, DV.fAndV, DV.fOrV, DV.fNotV, DV.gAndV, DV.gOrV, DV.fCall, DV.fCallR, DV.gCall, DV.fX, DV.xq, DV.okOf, DV.fTup, DV.fLst, DV.gTupE, DV.gLst, DV.fIf, DV.gIf, DV.qf, DV.qtf, DV.qa, DV.qi, DV.fChain, DV.fSl, DV.fO, DV.fONone, DV.mSl, DV.fSeq, DV.gSeq, DV.seqOf_lst, DV.seqOf_tup, DV.fEnum, DV.nLst, DV.nList, DV.nMul, DV.sOwn, DV.sApp, DV.sPar, DV.sParF, DV.sParOO, DV.sParDO, DV.sAug, DV.mAddI, DV.sFor, DV.sAsg, DV.sAsgF, DV.pName, DV.pNil, DV.pCons, DV.pTup, DV.wipeA, DV.mLen_lst, DV.mLen_tup, DV.mTuple, DV.mList, DV.mInt, DV.mAbs, DV.add_int, DV.mSub, DV.mLt, DV.mLe, DV.mGt, DV.mGe, DV.mRev, DV.fRev, DV.eq_ii, DV.ne_ii, DV.eq_tt, DV.ne_tt, DV.eq_ll, DV.ne_ll, Option.bind_some, Option.map_some, Option.bind_none, Option.map_none, List.getElem?_cons_zero, List.getElem?_cons_succ, List.set_cons_zero, List.set_cons_succ, List.length_cons, List.length_nil, List.length_map, Nat.zero_add, Nat.reduceAdd, ↓reduceIte, Bool.false_eq_true, if_true, if_false, Bool.not_true, Bool.not_false, v_order_number h, e1, decide_true]
theorem st6 : ir6 a [some (.own true xs), some (.dat (.int (n : Nat))), some (.dat (T p)), some (.dat (T (codeL p))), some (.dat (.int (num (codeL p)))), x5, x6, x7, x8] = some (.nx [some (.own true xs), some (.dat (.int (n : Nat))), some (.dat (T p)), some (.dat (T (codeL p))), some (.dat (.int (num (codeL p)))), x5, x6, x7, x8]) := by
  have b := h.nb
  by_cases c1 : (n : Int) < 34
  · by_cases c2 : 0 < num (codeL p)
    · have e1 := v_numbered_order a (n := n) (x := num (codeL p) - 1) h.n1 h.n60 (by omega) (by omega)
      have e2 := (lex_near h (x := num (codeL p) - 1) (by omega) (by omega)).1 (by omega)
      simp only [DV.sSeq, DV.sRet, DV.sRetF, DV.sIf, DV.sIfF, DV.sSet, DV.sSetF, DV.sNil, DV.sExpr, DV.sExprX, DV.sRetX, DV.flX, DV.sRaise, DV.fVar, DV.fOwn, DV.fC, DV.fB, DV.gB, DV.fCB, DV.gCB, DV.fCons, DV.fNil, DV.gCons, DV.gNil, DV.fT, DV.gT, DV.asB_bl, DV.asI_int, DV.fAnd, DV.fOr, DV.fNot, DV.gAnd, DV.gOr, DV.gNot, DV.fAndV, DV.fOrV, DV.fNotV, DV.gAndV, DV.gOrV, DV.fCall, DV.fCallR, DV.gCall, DV.fX, DV.xq, DV.okOf, DV.fTup, DV.fLst, DV.gTupE, DV.gLst, DV.fIf, DV.gIf, DV.qf, DV.qtf, DV.qa, DV.qi, DV.fChain, DV.fSl, DV.fO, DV.fONone, DV.mSl, DV.fSeq, DV.gSeq, DV.seqOf_lst, DV.seqOf_tup, DV.fEnum, DV.nLst, DV.nList, DV.nMul, DV.sOwn, DV.sApp, DV.sPar, DV.sParF, DV.sParOO, DV.sParDO, DV.sAug, DV.mAddI, DV.sFor, DV.sAsg, DV.sAsgF, DV.pName, DV.pNil, DV.pCons, DV.pTup, DV.wipeA, DV.mLen_lst, DV.mLen_tup, DV.mTuple, DV.mList, DV.mInt, DV.mAbs, DV.add_int, DV.mSub, DV.mLt, DV.mLe, DV.mGt, DV.mGe, DV.mRev, DV.fRev, DV.eq_ii, DV.ne_ii, DV.eq_tt, DV.ne_tt, DV.eq_ll, DV.ne_ll, Option.bind_some, Option.map_some, Option.bind_none, Option.map_none, List.getElem?_cons_zero, List.getElem?_cons_succ, List.set_cons_zero, List.set_cons_succ, List.length_cons, List.length_nil, List.length_map, Nat.zero_add, Nat.reduceAdd, ↓reduceIte, Bool.false_eq_true, if_true, if_false, Bool.not_true, Bool.not_false, decide_eq_true c1, decide_eq_true c2, e1, intsOf_map, e2]
    · simp only [DV.sSeq, DV.sRet, DV.sRetF, DV.sIf, DV.sIfF, DV.sSet, DV.sSetF, DV.sNil, DV.sExpr, DV.sExprX, DV.sRetX, DV.flX, DV.sRaise, DV.fVar, DV.fOwn, DV.fC, DV.fB, DV.gB, DV.fCB, DV.gCB, DV.fCons, DV.fNil, DV.gCons, DV.gNil, DV.fT, DV.gT, DV.asB_bl, DV.asI_int, DV.fAnd, DV.fOr, DV.fNot, DV.gAnd, DV.gOr, DV.gNot, DV.fAndV, DV.fOrV, DV.fNotV, DV.gAndV, DV.gOrV, DV.fCall, DV.fCallR, DV.gCall, DV.fX, DV.xq, DV.okOf, DV.fTup, DV.fLst, DV.gTupE, DV.gLst, DV.fIf, DV.gIf, DV.qf, DV.qtf, DV.qa, DV.qi, DV.fChain, DV.fSl, DV.fO, DV.fONone, DV.mSl, DV.fSeq, DV.gSeq, DV.seqOf_lst, DV.seqOf_tup, DV.fEnum, DV.nLst, DV.nList, DV.nMul, DV.sOwn, DV.sApp, DV.sPar, DV.sParF, DV.sParOO, DV.sParDO, DV.sAug, DV.mAddI, DV.sFor, DV.sAsg, DV.sAsgF, DV.pName, DV.pNil, DV.pCons, DV.pTup, DV.wipeA, DV.mLen_lst, DV.mLen_tup, DV.mTuple, DV.mList, DV.mInt, DV.mAbs, DV.add_int, DV.mSub, DV.mLt, DV.mLe, DV.mGt, DV.mGe, DV.mRev, DV.fRev, DV.eq_ii, DV.ne_ii, DV.eq_tt, DV.ne_tt, DV.eq_ll, DV.ne_ll, Option.bind_some, Option.map_some, Option.bind_none, Option.map_none, List.getElem?_cons_zero, List.getElem?_cons_succ, List.set_cons_zero, List.set_cons_succ, List.length_cons, List.length_nil, List.length_map, Nat.zero_add, Nat.reduceAdd, ↓reduceIte, Bool.false_eq_true, if_true, if_false, Bool.not_true, Bool.not_false, decide_eq_true c1, decide_eq_false c2]
  · simp only [DV.sSeq, DV.sRet, DV.sRetF, DV.sIf, DV.sIfF, DV.sSet, DV.sSetF, DV.sNil, DV.sExpr, DV.sExprX, DV.sRetX, DV.flX, DV.sRaise, DV.fVar, DV.fOwn, DV.fC, DV.fB, DV.gB, DV.fCB, DV.gCB, DV.fCons, DV.fNil, DV.gCons, DV.gNil, DV.fT, DV.gT, DV.asB_bl, DV.asI_int, DV.fAnd, DV.fOr, DV.fNot, DV.gAnd, DV.gOr, DV.gNot, DV.fAndV, DV.fOrV, DV.fNotV, DV.gAndV, DV.gOrV, DV.fCall, DV.fCallR, DV.gCall, DV.fX, DV.xq, DV.okOf, DV.fTup, DV.fLst, DV.gTupE, DV.gLst, DV.fIf, DV.gIf, DV.qf, DV.qtf, DV.qa, DV.qi, DV.fChain, DV.fSl, DV.fO, DV.fONone, DV.mSl, DV.fSeq, DV.gSeq, DV.seqOf_lst, DV.seqOf_tup, DV.fEnum, DV.nLst, DV.nList, DV.nMul, DV.sOwn, DV.sApp, DV.sPar, DV.sParF, DV.sParOO, DV.sParDO, DV.sAug, DV.mAddI, DV.sFor, DV.sAsg, DV.sAsgF, DV.pName, DV.pNil, DV.pCons, DV.pTup, DV.wipeA, DV.mLen_lst, DV.mLen_tup, DV.mTuple, DV.mList, DV.mInt, DV.mAbs, DV.add_int, DV.mSub, DV.mLt, DV.mLe, DV.mGt, DV.mGe, DV.mRev, DV.fRev, DV.eq_ii, DV.ne_ii, DV.eq_tt, DV.ne_tt, DV.eq_ll, DV.ne_ll, Option.bind_some, Option.map_some, Option.bind_none, Option.map_none, List.getElem?_cons_zero, List.getElem?_cons_succ, List.set_cons_zero, List.set_cons_succ, List.length_cons, List.length_nil, List.length_map, Nat.zero_add, Nat.reduceAdd, ↓reduceIte, Bool.false_eq_true, if_true, if_false, Bool.not_true, Bool.not_false, decide_eq_false c1]
theorem st7 : ir7 a [some (.own true xs), some (.dat (.int (n : Nat))), some (.dat (T p)), some (.dat (T (codeL p))), some (.dat (.int (num (codeL p)))), x5, x6, x7, x8] = some (.nx [some (.own true xs), some (.dat (.int (n : Nat))), some (.dat (T p)), some (.dat (T (codeL p))), some (.dat (.int (num (codeL p)))), x5, x6, x7, x8]) := by
  have b := h.nb
  have h60 := h.n60
  have ef := v__law_factorial (show n ≤ 500 by omega)
  by_cases c1 : (n : Int) < 34
  · by_cases c2 : num (codeL p) + 1 < fac n
    · have e1 := v_numbered_order a (n := n) (x := num (codeL p) + 1) h.n1 h.n60 (by omega) (by omega)
      have e2 := (lex_near h (x := num (codeL p) + 1) (by omega) (by omega)).2 (by omega)
      simp only [DV.sSeq, DV.sRet, DV.sRetF, DV.sIf, DV.sIfF, DV.sSet, DV.sSetF, DV.sNil, DV.sExpr, DV.sExprX, DV.sRetX, DV.flX, DV.sRaise, DV.fVar, DV.fOwn, DV.fC, DV.fB, DV.gB, DV.fCB, DV.gCB, DV.fCons, DV.fNil, DV.gCons, DV.gNil, DV.fT, DV.gT, DV.asB_bl, DV.asI_int, DV.fAnd, DV.fOr, DV.fNot, DV.gAnd, DV.gOr, DV.gNot, DV.fAndV, DV.fOrV, DV.fNotV, DV.gAndV, DV.gOrV, DV.fCall, DV.fCallR, DV.gCall, DV.fX, DV.xq, DV.okOf, DV.fTup, DV.fLst, DV.gTupE, DV.gLst, DV.fIf, DV.gIf, DV.qf, DV.qtf, DV.qa, DV.qi, DV.fChain, DV.fSl, DV.fO, DV.fONone, DV.mSl, DV.fSeq, DV.gSeq, DV.seqOf_lst, DV.seqOf_tup, DV.fEnum, DV.nLst, DV.nList, DV.nMul, DV.sOwn, DV.sApp, DV.sPar, DV.sParF, DV.sParOO, DV.sParDO, DV.sAug, DV.mAddI, DV.sFor, DV.sAsg, DV.sAsgF, DV.pName, DV.pNil, DV.pCons, DV.pTup, DV.wipeA, DV.mLen_lst, DV.mLen_tup, DV.mTuple, DV.mList, DV.mInt, DV.mAbs, DV.add_int, DV.mSub, DV.mLt, DV.mLe, DV.mGt, DV.mGe, DV.mRev, DV.fRev, DV.eq_ii, DV.ne_ii, DV.eq_tt, DV.ne_tt, DV.eq_ll, DV.ne_ll, Option.bind_some, Option.map_some, Option.bind_none, Option.map_none, List.getElem?_cons_zero, List.getElem?_cons_succ, List.set_cons_zero, List.set_cons_succ, List.length_cons, List.length_nil, List.length_map, Nat.zero_add, Nat.reduceAdd, ↓reduceIte, Bool.false_eq_true, if_true, if_false, Bool.not_true, Bool.not_false, decide_eq_true c1, ef, decide_eq_true c2, e1, intsOf_map, e2]
    · simp only [DV.sSeq, DV.sRet, DV.sRetF, DV.sIf, DV.sIfF, DV.sSet, DV.sSetF, DV.sNil, DV.sExpr, DV.sExprX, DV.sRetX, DV.flX, DV.sRaise, DV.fVar, DV.fOwn, DV.fC, DV.fB, DV.gB, DV.fCB, DV.gCB, DV.fCons, DV.fNil, DV.gCons, DV.gNil, DV.fT, DV.gT, DV.asB_bl, DV.asI_int, DV.fAnd, DV.fOr, DV.fNot, DV.gAnd, DV.gOr, DV.gNot, DV.fAndV, DV.fOrV, DV.fNotV, DV.gAndV, DV.gOrV, DV.fCall, DV.fCallR, DV.gCall, DV.fX, DV.xq, DV.okOf, DV.fTup, DV.fLst, DV.gTupE, DV.gLst, DV.fIf, DV.gIf, DV.qf, DV.qtf, DV.qa, DV.qi, DV.fChain, DV.fSl, DV.fO, DV.fONone, DV.mSl, DV.fSeq, DV.gSeq, DV.seqOf_lst, DV.seqOf_tup, DV.fEnum, DV.nLst, DV.nList, DV.nMul, DV.sOwn, DV.sApp, DV.sPar, DV.sParF, DV.sParOO, DV.sParDO, DV.sAug, DV.mAddI, DV.sFor, DV.sAsg, DV.sAsgF, DV.pName, DV.pNil, DV.pCons, DV.pTup, DV.wipeA, DV.mLen_lst, DV.mLen_tup, DV.mTuple, DV.mList, DV.mInt, DV.mAbs, DV.add_int, DV.mSub, DV.mLt, DV.mLe, DV.mGt, DV.mGe, DV.mRev, DV.fRev, DV.eq_ii, DV.ne_ii, DV.eq_tt, DV.ne_tt, DV.eq_ll, DV.ne_ll, Option.bind_some, Option.map_some, Option.bind_none, Option.map_none, List.getElem?_cons_zero, List.getElem?_cons_succ, List.set_cons_zero, List.set_cons_succ, List.length_cons, List.length_nil, List.length_map, Nat.zero_add, Nat.reduceAdd, ↓reduceIte, Bool.false_eq_true, if_true, if_false, Bool.not_true, Bool.not_false, decide_eq_true c1, ef, decide_eq_false c2]
  · simp only [DV.sSeq, DV.sRet, DV.sRetF, DV.sIf, DV.sIfF, DV.sSet, DV.sSetF, DV.sNil, DV.sExpr, DV.sExprX, DV.sRetX, DV.flX, DV.sRaise, DV.fVar, DV.fOwn, DV.fC, DV.fB, DV.gB, DV.fCB, DV.gCB, DV.fCons, DV.fNil, DV.gCons, DV.gNil, DV.fT, DV.gT, DV.asB_bl, DV.asI_int, DV.fAnd, DV.fOr, DV.fNot, DV.gAnd, DV.gOr, DV.gNot, DV.fAndV, DV.fOrV, DV.fNotV, DV.gAndV, DV.gOrV, DV.fCall, DV.fCallR, DV.gCall, DV.fX, DV.xq, DV.okOf, DV.fTup, DV.fLst, DV.gTupE, DV.gLst, DV.fIf, DV.gIf, DV.qf, DV.qtf, DV.qa, DV.qi, DV.fChain, DV.fSl, DV.fO, DV.fONone, DV.mSl, DV.fSeq, DV.gSeq, DV.seqOf_lst, DV.seqOf_tup, DV.fEnum, DV.nLst, DV.nList, DV.nMul, DV.sOwn, DV.sApp, DV.sPar, DV.sParF, DV.sParOO, DV.sParDO, DV.sAug, DV.mAddI, DV.sFor, DV.sAsg, DV.sAsgF, DV.pName, DV.pNil, DV.pCons, DV.pTup, DV.wipeA, DV.mLen_lst, DV.mLen_tup, DV.mTuple, DV.mList, DV.mInt, DV.mAbs, DV.add_int, DV.mSub, DV.mLt, DV.mLe, DV.mGt, DV.mGe, DV.mRev, DV.fRev, DV.eq_ii, DV.ne_ii, DV.eq_tt, DV.ne_tt, DV.eq_ll, DV.ne_ll, Option.bind_some, Option.map_some, Option.bind_none, Option.map_none, List.getElem?_cons_zero, List.getElem?_cons_succ, List.set_cons_zero, List.set_cons_succ, List.length_cons, List.length_nil, List.length_map, Nat.zero_add, Nat.reduceAdd, ↓reduceIte, Bool.false_eq_true, if_true, if_false, Bool.not_true, Bool.not_false, decide_eq_false c1]
end
end W74

namespace W74
open P74 DV
variable [DV.TabC]
abbrev dF : AE → Option (D × AE) := (DV.gCallO 0 1 G__law_draw (DV.qa (DV.fCons (DV.fB DV.mSub (DV.fVar 1) (DV.fVar 5)) DV.fNil)))
theorem loop_drawn (n : Nat) (hn : n ≤ 60) (x2 x3 x4 x6 x7 x8 : Option AV) : ∀ (m j : Nat) (xs : List D), DH.HandOk xs → j + m = n →
    ∃ (cs : List Int) (xs' : List D), lcGoF (pName 5) (fun _ => some true) dF [5] ((List.range' j m).map fun (k : Nat) => D.int (k : Int)) [some (.own true xs), some (.dat (.int (n : Nat))), x2, x3, x4, none, x6, x7, x8] = some (cs.map D.int, [some (.own true xs'), some (.dat (.int (n : Nat))), x2, x3, x4, none, x6, x7, x8]) ∧ DH.HandOk xs' ∧ cs.length = m ∧ valid cs
  | 0, j, xs, h, _ => ⟨[], xs, rfl, h, rfl, trivial⟩
  | m + 1, j, xs, h, hj => by
    obtain ⟨r, xs1, e1, r0, r1, h1⟩ := DH.draw_ok h (DH.many_nat (n := m + 1) (by omega) (by omega))
    obtain ⟨cs, xs', e, h', hl, hv⟩ := loop_drawn n hn x2 x3 x4 x6 x7 x8 m (j + 1) xs1 h1 (by omega)
    refine ⟨r :: cs, xs', ?_, h', by rw [List.length_cons, hl], r0, by rw [hl]; omega, hv⟩
    rw [List.range'_succ, List.map_cons]
    unfold lcGoF
    have c1 : dF [some (.own true xs), some (.dat (.int (n : Nat))), x2, x3, x4, some (.dat (.int (j : Nat))), x6, x7, x8] = some (.int r, [some (.own true xs1), some (.dat (.int (n : Nat))), x2, x3, x4, some (.dat (.int (j : Nat))), x6, x7, x8]) :=
      callO (t := true) (xs := xs) (ds := [.int ((m + 1 : Nat) : Int)]) rfl (by
        have q : ((n : Nat) : Int) - (j : Nat) = ((m + 1 : Nat) : Int) := by omega
        simp only [DV.sSeq, DV.sRet, DV.sRetF, DV.sIf, DV.sIfF, DV.sSet, DV.sSetF, DV.sNil, DV.sExpr, DV.sExprX, DV.sRetX, DV.flX, DV.sRaise, DV.fVar, DV.fOwn, DV.fC, DV.fB, DV.gB, DV.fCB, DV.gCB, DV.fCons, DV.fNil, DV.gCons, DV.gNil, DV.fT, DV.gT, DV.asB_bl, DV.asI_int, DV.fAnd, DV.fOr, DV.fNot, DV.gAnd, DV.gOr, DV.gNot, DV.fAndV, DV.fOrV, DV.fNotV, DV.gAndV, DV.gOrV, DV.fCall, DV.fCallR, DV.gCall, DV.fX, DV.xq, DV.okOf, DV.fTup, DV.fLst, DV.gTupE, DV.gLst, DV.fIf, DV.gIf, DV.qf, DV.qtf, DV.qa, DV.qi, DV.fChain, DV.fSl, DV.fO, DV.fONone, DV.mSl, DV.fSeq, DV.gSeq, DV.seqOf_lst, DV.seqOf_tup, DV.fEnum, DV.nLst, DV.nList, DV.nMul, DV.sOwn, DV.sApp, DV.sPar, DV.sParF, DV.sParOO, DV.sParDO, DV.sAug, DV.mAddI, DV.sFor, DV.sAsg, DV.sAsgF, DV.pName, DV.pNil, DV.pCons, DV.pTup, DV.wipeA, DV.mLen_lst, DV.mLen_tup, DV.mTuple, DV.mList, DV.mInt, DV.mAbs, DV.add_int, DV.mSub, DV.mLt, DV.mLe, DV.mGt, DV.mGe, DV.mRev, DV.fRev, DV.eq_ii, DV.ne_ii, DV.eq_tt, DV.ne_tt, DV.eq_ll, DV.ne_ll, Option.bind_some, Option.map_some, Option.bind_none, Option.map_none, List.getElem?_cons_zero, List.getElem?_cons_succ, List.set_cons_zero, List.set_cons_succ, List.length_cons, List.length_nil, List.length_map, Nat.zero_add, Nat.reduceAdd, ↓reduceIte, Bool.false_eq_true, if_true, if_false, Bool.not_true, Bool.not_false, q]) rfl e1
    simp only [DV.sSeq, DV.sRet, DV.sRetF, DV.sIf, DV.sIfF, DV.sSet, DV.sSetF, DV.sNil, DV.sExpr, DV.sExprX, DV.sRetX, DV.flX, DV.sRaise, DV.fVar, DV.fOwn, DV.fC, DV.fB, DV.gB, DV.fCB, DV.gCB, DV.fCons, DV.fNil, DV.gCons, DV.gNil, DV.fT, DV.gT, DV.asB_bl, DV.asI_int, DV.fAnd, DV.fOr, DV.fNot, DV.gAnd, DV.gOr, DV.gNot, DV.fAndV, DV.fOrV, DV.fNotV, DV.gAndV, DV.gOrV, DV.fCall, DV.fCallR, DV.gCall, DV.fX, DV.xq, DV.okOf, DV.fTup, DV.fLst, DV.gTupE, DV.gLst, DV.fIf, DV.gIf, DV.qf, DV.qtf, DV.qa, DV.qi, DV.fChain, DV.fSl, DV.fO, DV.fONone, DV.mSl, DV.fSeq, DV.gSeq, DV.seqOf_lst, DV.seqOf_tup, DV.fEnum, DV.nLst, DV.nList, DV.nMul, DV.sOwn, DV.sApp, DV.sPar, DV.sParF, DV.sParOO, DV.sParDO, DV.sAug, DV.mAddI, DV.sFor, DV.sAsg, DV.sAsgF, DV.pName, DV.pNil, DV.pCons, DV.pTup, DV.wipeA, DV.mLen_lst, DV.mLen_tup, DV.mTuple, DV.mList, DV.mInt, DV.mAbs, DV.add_int, DV.mSub, DV.mLt, DV.mLe, DV.mGt, DV.mGe, DV.mRev, DV.fRev, DV.eq_ii, DV.ne_ii, DV.eq_tt, DV.ne_tt, DV.eq_ll, DV.ne_ll, Option.bind_some, Option.map_some, Option.bind_none, Option.map_none, List.getElem?_cons_zero, List.getElem?_cons_succ, List.set_cons_zero, List.set_cons_succ, List.length_cons, List.length_nil, List.length_map, Nat.zero_add, Nat.reduceAdd, ↓reduceIte, Bool.false_eq_true, if_true, if_false, Bool.not_true, Bool.not_false, c1]
    rw [e]
    rfl
section
variable (a : Ad) {xs : List D} {n : Nat} (n1 : 1 ≤ n) (n2 : n ≤ 60) (x2 x3 x4 x5 x6 x7 x8 : Option AV)
include n1 n2
theorem st8 (h : DH.HandOk xs) : ∃ (cs : List Int) (xs' : List D), ir8 a [some (.own true xs), some (.dat (.int (n : Nat))), x2, x3, x4, none, none, x7, x8] = some (.nx [some (.own true xs'), some (.dat (.int (n : Nat))), x2, x3, x4, none, some (.dat (T cs)), x7, x8]) ∧ DH.HandOk xs' ∧ cs.length = n ∧ valid cs := by
  obtain ⟨cs, xs', e, h', hl, hv⟩ := loop_drawn n n2 x2 x3 x4 none x7 x8 n 0 xs h (by omega)
  refine ⟨cs, xs', ?_, h', hl, hv⟩
  have es : fR1 (fCons (fVar 1) fNil) [some (.own true xs), some (.dat (.int (n : Nat))), x2, x3, x4, none, none, x7, x8] = some ((List.range' 0 n).map fun (k : Nat) => D.int (k : Int)) := by
    rw [fR1_n (n := n) rfl (by omega)]
    show some (((List.range n).map fun i => ((i : Nat) : Int)).map D.int) = _
    rw [List.map_map, List.range_eq_range']; rfl
  have zn : szOk ((List.range' 0 n).map fun (k : Nat) => D.int (k : Int)).length = true := szOk_le (by rw [List.length_map, List.length_range']; omega)
  have g : gLC (qi (fR1 (fCons (fVar 1) fNil))) ([5] : List Nat) (pName 5) (fun _ => some true) dF [some (.own true xs), some (.dat (.int (n : Nat))), x2, x3, x4, none, none, x7, x8] = some (.lst (cs.map D.int), [some (.own true xs'), some (.dat (.int (n : Nat))), x2, x3, x4, none, none, x7, x8]) := by
    unfold gLC
    simp only [qi, es, Option.map_some, Option.bind_some, zn]
    show ((lcGoF (pName 5) (fun _ => some true) dF [5] ((List.range' 0 n).map fun (k : Nat) => D.int (k : Int)) [some (.own true xs), some (.dat (.int (n : Nat))), x2, x3, x4, none, none, x7, x8]).map _) = _
    rw [e]
    rfl
  refine setF_eq (A1 := [some (.own true xs'), some (.dat (.int (n : Nat))), x2, x3, x4, none, none, x7, x8]) (d := T cs) ?_
  simp only [DV.sSeq, DV.sRet, DV.sRetF, DV.sIf, DV.sIfF, DV.sSet, DV.sSetF, DV.sNil, DV.sExpr, DV.sExprX, DV.sRetX, DV.flX, DV.sRaise, DV.fVar, DV.fOwn, DV.fC, DV.fB, DV.gB, DV.fCB, DV.gCB, DV.fCons, DV.fNil, DV.gCons, DV.gNil, DV.fT, DV.gT, DV.asB_bl, DV.asI_int, DV.fAnd, DV.fOr, DV.fNot, DV.gAnd, DV.gOr, DV.gNot, DV.fAndV, DV.fOrV, DV.fNotV, DV.gAndV, DV.gOrV, DV.fCall, DV.fCallR, DV.gCall, DV.fX, DV.xq, DV.okOf, DV.fTup, DV.fLst, DV.gTupE, DV.gLst, DV.fIf, DV.gIf, DV.qf, DV.qtf, DV.qa, DV.qi, DV.fChain, DV.fSl, DV.fO, DV.fONone, DV.mSl, DV.fSeq, DV.gSeq, DV.seqOf_lst, DV.seqOf_tup, DV.fEnum, DV.nLst, DV.nList, DV.nMul, DV.sOwn, DV.sApp, DV.sPar, DV.sParF, DV.sParOO, DV.sParDO, DV.sAug, DV.mAddI, DV.sFor, DV.sAsg, DV.sAsgF, DV.pName, DV.pNil, DV.pCons, DV.pTup, DV.wipeA, DV.mLen_lst, DV.mLen_tup, DV.mTuple, DV.mList, DV.mInt, DV.mAbs, DV.add_int, DV.mSub, DV.mLt, DV.mLe, DV.mGt, DV.mGe, DV.mRev, DV.fRev, DV.eq_ii, DV.ne_ii, DV.eq_tt, DV.ne_tt, DV.eq_ll, DV.ne_ll, Option.bind_some, Option.map_some, Option.bind_none, Option.map_none, List.getElem?_cons_zero, List.getElem?_cons_succ, List.set_cons_zero, List.set_cons_succ, List.length_cons, List.length_nil, List.length_map, Nat.zero_add, Nat.reduceAdd, ↓reduceIte, Bool.false_eq_true, if_true, if_false, Bool.not_true, Bool.not_false, g]
theorem st9 {cs : List Int} (hl : cs.length = n) (hv : valid cs) : ir9 a [some (.own true xs), some (.dat (.int (n : Nat))), x2, x3, x4, x5, some (.dat (T cs)), x7, x8] = some (.nx [some (.own true xs), some (.dat (.int (n : Nat))), x2, x3, x4, x5, some (.dat (T cs)), x7, x8]) := by
  have e1 := v_from_code a (cs := cs) (by omega) (by omega) hv
  have e2 := v__law_from_code (cs := cs) (by omega) hv
  rw [hl] at e1 e2
  obtain ⟨o1, o2⟩ := obc_ord n1 n2 hl hv
  have e3 := v_code o1
  rw [o2] at e3
  simp only [DV.sSeq, DV.sRet, DV.sRetF, DV.sIf, DV.sIfF, DV.sSet, DV.sSetF, DV.sNil, DV.sExpr, DV.sExprX, DV.sRetX, DV.flX, DV.sRaise, DV.fVar, DV.fOwn, DV.fC, DV.fB, DV.gB, DV.fCB, DV.gCB, DV.fCons, DV.fNil, DV.gCons, DV.gNil, DV.fT, DV.gT, DV.asB_bl, DV.asI_int, DV.fAnd, DV.fOr, DV.fNot, DV.gAnd, DV.gOr, DV.gNot, DV.fAndV, DV.fOrV, DV.fNotV, DV.gAndV, DV.gOrV, DV.fCall, DV.fCallR, DV.gCall, DV.fX, DV.xq, DV.okOf, DV.fTup, DV.fLst, DV.gTupE, DV.gLst, DV.fIf, DV.gIf, DV.qf, DV.qtf, DV.qa, DV.qi, DV.fChain, DV.fSl, DV.fO, DV.fONone, DV.mSl, DV.fSeq, DV.gSeq, DV.seqOf_lst, DV.seqOf_tup, DV.fEnum, DV.nLst, DV.nList, DV.nMul, DV.sOwn, DV.sApp, DV.sPar, DV.sParF, DV.sParOO, DV.sParDO, DV.sAug, DV.mAddI, DV.sFor, DV.sAsg, DV.sAsgF, DV.pName, DV.pNil, DV.pCons, DV.pTup, DV.wipeA, DV.mLen_lst, DV.mLen_tup, DV.mTuple, DV.mList, DV.mInt, DV.mAbs, DV.add_int, DV.mSub, DV.mLt, DV.mLe, DV.mGt, DV.mGe, DV.mRev, DV.fRev, DV.eq_ii, DV.ne_ii, DV.eq_tt, DV.ne_tt, DV.eq_ll, DV.ne_ll, Option.bind_some, Option.map_some, Option.bind_none, Option.map_none, List.getElem?_cons_zero, List.getElem?_cons_succ, List.set_cons_zero, List.set_cons_succ, List.length_cons, List.length_nil, List.length_map, Nat.zero_add, Nat.reduceAdd, ↓reduceIte, Bool.false_eq_true, if_true, if_false, Bool.not_true, Bool.not_false, e1, e2, e3, decide_true]
theorem st10 : ir10 a [some (.own true xs), some (.dat (.int (n : Nat))), x2, x3, x4, x5, x6, x7, x8] = some (.nx [some (.own true xs), some (.dat (.int (n : Nat))), x2, x3, x4, x5, x6, some (.dat (T (DV.rng n).reverse)), x8]) := by
  have e2 : fTR (fG1 (fVar 1)) [some (.own true xs), some (.dat (.int (n : Nat))), x2, x3, x4, x5, x6, x7, x8] = some (T (DV.rng n)) := fTR_n rfl (by omega)
  simp only [DV.sSeq, DV.sRet, DV.sRetF, DV.sIf, DV.sIfF, DV.sSet, DV.sSetF, DV.sNil, DV.sExpr, DV.sExprX, DV.sRetX, DV.flX, DV.sRaise, DV.fVar, DV.fOwn, DV.fC, DV.fB, DV.gB, DV.fCB, DV.gCB, DV.fCons, DV.fNil, DV.gCons, DV.gNil, DV.fT, DV.gT, DV.asB_bl, DV.asI_int, DV.fAnd, DV.fOr, DV.fNot, DV.gAnd, DV.gOr, DV.gNot, DV.fAndV, DV.fOrV, DV.fNotV, DV.gAndV, DV.gOrV, DV.fCall, DV.fCallR, DV.gCall, DV.fX, DV.xq, DV.okOf, DV.fTup, DV.fLst, DV.gTupE, DV.gLst, DV.fIf, DV.gIf, DV.qf, DV.qtf, DV.qa, DV.qi, DV.fChain, DV.fSl, DV.fO, DV.fONone, DV.mSl, DV.fSeq, DV.gSeq, DV.seqOf_lst, DV.seqOf_tup, DV.fEnum, DV.nLst, DV.nList, DV.nMul, DV.sOwn, DV.sApp, DV.sPar, DV.sParF, DV.sParOO, DV.sParDO, DV.sAug, DV.mAddI, DV.sFor, DV.sAsg, DV.sAsgF, DV.pName, DV.pNil, DV.pCons, DV.pTup, DV.wipeA, DV.mLen_lst, DV.mLen_tup, DV.mTuple, DV.mList, DV.mInt, DV.mAbs, DV.add_int, DV.mSub, DV.mLt, DV.mLe, DV.mGt, DV.mGe, DV.mRev, DV.fRev, DV.eq_ii, DV.ne_ii, DV.eq_tt, DV.ne_tt, DV.eq_ll, DV.ne_ll, Option.bind_some, Option.map_some, Option.bind_none, Option.map_none, List.getElem?_cons_zero, List.getElem?_cons_succ, List.set_cons_zero, List.set_cons_succ, List.length_cons, List.length_nil, List.length_map, Nat.zero_add, Nat.reduceAdd, ↓reduceIte, Bool.false_eq_true, if_true, if_false, Bool.not_true, Bool.not_false, e2, ← List.map_reverse]
theorem st11 : ir11 a [some (.own true xs), some (.dat (.int (n : Nat))), x2, x3, x4, x5, x6, some (.dat (T (DV.rng n).reverse)), x8] = some (.nx [some (.own true xs), some (.dat (.int (n : Nat))), x2, x3, x4, x5, x6, some (.dat (T (DV.rng n).reverse)), some (.dat (.int (fac n - 1)))]) := by
  have e := v_order_number (rev_ord n1 n2)
  rw [rev_num] at e
  simp only [DV.sSeq, DV.sRet, DV.sRetF, DV.sIf, DV.sIfF, DV.sSet, DV.sSetF, DV.sNil, DV.sExpr, DV.sExprX, DV.sRetX, DV.flX, DV.sRaise, DV.fVar, DV.fOwn, DV.fC, DV.fB, DV.gB, DV.fCB, DV.gCB, DV.fCons, DV.fNil, DV.gCons, DV.gNil, DV.fT, DV.gT, DV.asB_bl, DV.asI_int, DV.fAnd, DV.fOr, DV.fNot, DV.gAnd, DV.gOr, DV.gNot, DV.fAndV, DV.fOrV, DV.fNotV, DV.gAndV, DV.gOrV, DV.fCall, DV.fCallR, DV.gCall, DV.fX, DV.xq, DV.okOf, DV.fTup, DV.fLst, DV.gTupE, DV.gLst, DV.fIf, DV.gIf, DV.qf, DV.qtf, DV.qa, DV.qi, DV.fChain, DV.fSl, DV.fO, DV.fONone, DV.mSl, DV.fSeq, DV.gSeq, DV.seqOf_lst, DV.seqOf_tup, DV.fEnum, DV.nLst, DV.nList, DV.nMul, DV.sOwn, DV.sApp, DV.sPar, DV.sParF, DV.sParOO, DV.sParDO, DV.sAug, DV.mAddI, DV.sFor, DV.sAsg, DV.sAsgF, DV.pName, DV.pNil, DV.pCons, DV.pTup, DV.wipeA, DV.mLen_lst, DV.mLen_tup, DV.mTuple, DV.mList, DV.mInt, DV.mAbs, DV.add_int, DV.mSub, DV.mLt, DV.mLe, DV.mGt, DV.mGe, DV.mRev, DV.fRev, DV.eq_ii, DV.ne_ii, DV.eq_tt, DV.ne_tt, DV.eq_ll, DV.ne_ll, Option.bind_some, Option.map_some, Option.bind_none, Option.map_none, List.getElem?_cons_zero, List.getElem?_cons_succ, List.set_cons_zero, List.set_cons_succ, List.length_cons, List.length_nil, List.length_map, Nat.zero_add, Nat.reduceAdd, ↓reduceIte, Bool.false_eq_true, if_true, if_false, Bool.not_true, Bool.not_false, e]
theorem st12 : ir12 a [some (.own true xs), some (.dat (.int (n : Nat))), x2, x3, x4, x5, x6, some (.dat (T (DV.rng n).reverse)), some (.dat (.int (fac n - 1)))] = some (.nx [some (.own true xs), some (.dat (.int (n : Nat))), x2, x3, x4, x5, x6, some (.dat (T (DV.rng n).reverse)), some (.dat (.int (fac n - 1)))]) := by
  have fp := fac_pos n
  have ef := v__law_factorial (show n ≤ 500 by omega)
  have e1 := v_numbered_order a (n := n) (x := fac n - 1) n1 n2 (by omega) (by omega)
  have r := rev_ord n1 n2
  have d1 := r.dg
  have d2 := r.cd
  rw [rev_num] at d1
  rw [d1, d2] at e1
  have e2 := v_numbered_order a (n := n) (x := 0) n1 n2 (by omega) (by omega)
  have f := rng_ord n1 n2
  have d3 := f.dg
  have d4 := f.cd
  have d5 : num (codeL (DV.rng n)) = 0 := code_rise _ (rng_sd n)
  rw [d5] at d3
  rw [d3, d4] at e2
  simp only [DV.sSeq, DV.sRet, DV.sRetF, DV.sIf, DV.sIfF, DV.sSet, DV.sSetF, DV.sNil, DV.sExpr, DV.sExprX, DV.sRetX, DV.flX, DV.sRaise, DV.fVar, DV.fOwn, DV.fC, DV.fB, DV.gB, DV.fCB, DV.gCB, DV.fCons, DV.fNil, DV.gCons, DV.gNil, DV.fT, DV.gT, DV.asB_bl, DV.asI_int, DV.fAnd, DV.fOr, DV.fNot, DV.gAnd, DV.gOr, DV.gNot, DV.fAndV, DV.fOrV, DV.fNotV, DV.gAndV, DV.gOrV, DV.fCall, DV.fCallR, DV.gCall, DV.fX, DV.xq, DV.okOf, DV.fTup, DV.fLst, DV.gTupE, DV.gLst, DV.fIf, DV.gIf, DV.qf, DV.qtf, DV.qa, DV.qi, DV.fChain, DV.fSl, DV.fO, DV.fONone, DV.mSl, DV.fSeq, DV.gSeq, DV.seqOf_lst, DV.seqOf_tup, DV.fEnum, DV.nLst, DV.nList, DV.nMul, DV.sOwn, DV.sApp, DV.sPar, DV.sParF, DV.sParOO, DV.sParDO, DV.sAug, DV.mAddI, DV.sFor, DV.sAsg, DV.sAsgF, DV.pName, DV.pNil, DV.pCons, DV.pTup, DV.wipeA, DV.mLen_lst, DV.mLen_tup, DV.mTuple, DV.mList, DV.mInt, DV.mAbs, DV.add_int, DV.mSub, DV.mLt, DV.mLe, DV.mGt, DV.mGe, DV.mRev, DV.fRev, DV.eq_ii, DV.ne_ii, DV.eq_tt, DV.ne_tt, DV.eq_ll, DV.ne_ll, Option.bind_some, Option.map_some, Option.bind_none, Option.map_none, List.getElem?_cons_zero, List.getElem?_cons_succ, List.set_cons_zero, List.set_cons_succ, List.length_cons, List.length_nil, List.length_map, Nat.zero_add, Nat.reduceAdd, ↓reduceIte, Bool.false_eq_true, if_true, if_false, Bool.not_true, Bool.not_false, ef, e1, e2, decide_true, ← List.map_reverse, List.reverse_reverse]
theorem st13 (h : DH.HandOk xs) : ∃ (xs' : List D) (y5 : Option AV), ir13 a [some (.own true xs), some (.dat (.int (n : Nat))), x2, x3, x4, x5, x6, x7, x8] = some (.nx [some (.own true xs'), some (.dat (.int (n : Nat))), x2, x3, x4, y5, x6, x7, x8]) ∧ DH.HandOk xs' := by
  by_cases c1 : (n : Int) < 24
  · have fp := fac_pos n
    obtain ⟨r, xs1, e1, r0, r1, h1⟩ := DH.draw_ok h (m := fac n) ⟨fp, fac_log (by omega)⟩
    refine ⟨xs1, some (.dat (.int r)), ?_, h1⟩
    have ef := v__law_factorial (show n ≤ 500 by omega)
    have g : gCallO 0 1 G__law_draw (qa (fCons (fCall 1 G__law_factorial (fCons (fVar 1) fNil)) fNil)) [some (.own true xs), some (.dat (.int (n : Nat))), x2, x3, x4, x5, x6, x7, x8] = some (.int r, [some (.own true xs1), some (.dat (.int (n : Nat))), x2, x3, x4, x5, x6, x7, x8]) :=
      callO (t := true) (xs := xs) (ds := [.int (fac n)]) rfl (by simp only [DV.sSeq, DV.sRet, DV.sRetF, DV.sIf, DV.sIfF, DV.sSet, DV.sSetF, DV.sNil, DV.sExpr, DV.sExprX, DV.sRetX, DV.flX, DV.sRaise, DV.fVar, DV.fOwn, DV.fC, DV.fB, DV.gB, DV.fCB, DV.gCB, DV.fCons, DV.fNil, DV.gCons, DV.gNil, DV.fT, DV.gT, DV.asB_bl, DV.asI_int, DV.fAnd, DV.fOr, DV.fNot, DV.gAnd, DV.gOr, DV.gNot, DV.fAndV, DV.fOrV, DV.fNotV, DV.gAndV, DV.gOrV, DV.fCall, DV.fCallR, DV.gCall, DV.fX, DV.xq, DV.okOf, DV.fTup, DV.fLst, DV.gTupE, DV.gLst, DV.fIf, DV.gIf, DV.qf, DV.qtf, DV.qa, DV.qi, DV.fChain, DV.fSl, DV.fO, DV.fONone, DV.mSl, DV.fSeq, DV.gSeq, DV.seqOf_lst, DV.seqOf_tup, DV.fEnum, DV.nLst, DV.nList, DV.nMul, DV.sOwn, DV.sApp, DV.sPar, DV.sParF, DV.sParOO, DV.sParDO, DV.sAug, DV.mAddI, DV.sFor, DV.sAsg, DV.sAsgF, DV.pName, DV.pNil, DV.pCons, DV.pTup, DV.wipeA, DV.mLen_lst, DV.mLen_tup, DV.mTuple, DV.mList, DV.mInt, DV.mAbs, DV.add_int, DV.mSub, DV.mLt, DV.mLe, DV.mGt, DV.mGe, DV.mRev, DV.fRev, DV.eq_ii, DV.ne_ii, DV.eq_tt, DV.ne_tt, DV.eq_ll, DV.ne_ll, Option.bind_some, Option.map_some, Option.bind_none, Option.map_none, List.getElem?_cons_zero, List.getElem?_cons_succ, List.set_cons_zero, List.set_cons_succ, List.length_cons, List.length_nil, List.length_map, Nat.zero_add, Nat.reduceAdd, ↓reduceIte, Bool.false_eq_true, if_true, if_false, Bool.not_true, Bool.not_false, ef]) rfl e1
    have q1 := v_numbered_order a (n := n) (x := r) n1 n2 r0 r1
    have q2 := v__law_numbered (n := n) (x := r) n2 r0 r1
    simp only [DV.sSeq, DV.sRet, DV.sRetF, DV.sIf, DV.sIfF, DV.sSet, DV.sSetF, DV.sNil, DV.sExpr, DV.sExprX, DV.sRetX, DV.flX, DV.sRaise, DV.fVar, DV.fOwn, DV.fC, DV.fB, DV.gB, DV.fCB, DV.gCB, DV.fCons, DV.fNil, DV.gCons, DV.gNil, DV.fT, DV.gT, DV.asB_bl, DV.asI_int, DV.fAnd, DV.fOr, DV.fNot, DV.gAnd, DV.gOr, DV.gNot, DV.fAndV, DV.fOrV, DV.fNotV, DV.gAndV, DV.gOrV, DV.fCall, DV.fCallR, DV.gCall, DV.fX, DV.xq, DV.okOf, DV.fTup, DV.fLst, DV.gTupE, DV.gLst, DV.fIf, DV.gIf, DV.qf, DV.qtf, DV.qa, DV.qi, DV.fChain, DV.fSl, DV.fO, DV.fONone, DV.mSl, DV.fSeq, DV.gSeq, DV.seqOf_lst, DV.seqOf_tup, DV.fEnum, DV.nLst, DV.nList, DV.nMul, DV.sOwn, DV.sApp, DV.sPar, DV.sParF, DV.sParOO, DV.sParDO, DV.sAug, DV.mAddI, DV.sFor, DV.sAsg, DV.sAsgF, DV.pName, DV.pNil, DV.pCons, DV.pTup, DV.wipeA, DV.mLen_lst, DV.mLen_tup, DV.mTuple, DV.mList, DV.mInt, DV.mAbs, DV.add_int, DV.mSub, DV.mLt, DV.mLe, DV.mGt, DV.mGe, DV.mRev, DV.fRev, DV.eq_ii, DV.ne_ii, DV.eq_tt, DV.ne_tt, DV.eq_ll, DV.ne_ll, Option.bind_some, Option.map_some, Option.bind_none, Option.map_none, List.getElem?_cons_zero, List.getElem?_cons_succ, List.set_cons_zero, List.set_cons_succ, List.length_cons, List.length_nil, List.length_map, Nat.zero_add, Nat.reduceAdd, ↓reduceIte, Bool.false_eq_true, if_true, if_false, Bool.not_true, Bool.not_false, decide_eq_true c1, g, q1, q2, decide_true]
  · refine ⟨xs, x5, ?_, h⟩
    simp only [DV.sSeq, DV.sRet, DV.sRetF, DV.sIf, DV.sIfF, DV.sSet, DV.sSetF, DV.sNil, DV.sExpr, DV.sExprX, DV.sRetX, DV.flX, DV.sRaise, DV.fVar, DV.fOwn, DV.fC, DV.fB, DV.gB, DV.fCB, DV.gCB, DV.fCons, DV.fNil, DV.gCons, DV.gNil, DV.fT, DV.gT, DV.asB_bl, DV.asI_int, DV.fAnd, DV.fOr, DV.fNot, DV.gAnd, DV.gOr, DV.gNot, DV.fAndV, DV.fOrV, DV.fNotV, DV.gAndV, DV.gOrV, DV.fCall, DV.fCallR, DV.gCall, DV.fX, DV.xq, DV.okOf, DV.fTup, DV.fLst, DV.gTupE, DV.gLst, DV.fIf, DV.gIf, DV.qf, DV.qtf, DV.qa, DV.qi, DV.fChain, DV.fSl, DV.fO, DV.fONone, DV.mSl, DV.fSeq, DV.gSeq, DV.seqOf_lst, DV.seqOf_tup, DV.fEnum, DV.nLst, DV.nList, DV.nMul, DV.sOwn, DV.sApp, DV.sPar, DV.sParF, DV.sParOO, DV.sParDO, DV.sAug, DV.mAddI, DV.sFor, DV.sAsg, DV.sAsgF, DV.pName, DV.pNil, DV.pCons, DV.pTup, DV.wipeA, DV.mLen_lst, DV.mLen_tup, DV.mTuple, DV.mList, DV.mInt, DV.mAbs, DV.add_int, DV.mSub, DV.mLt, DV.mLe, DV.mGt, DV.mGe, DV.mRev, DV.fRev, DV.eq_ii, DV.ne_ii, DV.eq_tt, DV.ne_tt, DV.eq_ll, DV.ne_ll, Option.bind_some, Option.map_some, Option.bind_none, Option.map_none, List.getElem?_cons_zero, List.getElem?_cons_succ, List.set_cons_zero, List.set_cons_succ, List.length_cons, List.length_nil, List.length_map, Nat.zero_add, Nat.reduceAdd, ↓reduceIte, Bool.false_eq_true, if_true, if_false, Bool.not_true, Bool.not_false, decide_eq_false c1]
end
theorem right_ok (a : Ad) (ap : a.f_order_number ≠ a.f_code) {xs : List D} (h : DH.HandOk xs) : ∃ xs', G__law_is_right a xs [] = some (.bl true, xs') ∧ DH.HandOk xs' := by
  obtain ⟨n, xs1, s1, n1, n2, h1⟩ := st1 a h
  obtain ⟨p, xs2, s2, o, h2⟩ := st2 a h1 n1 n2
  obtain ⟨cs, xs3, s8, h3, hl, hv⟩ := st8 a n1 n2 (some (.dat (T p))) (some (.dat (T (codeL p)))) (some (.dat (.int (num (codeL p))))) none none h2
  obtain ⟨xs4, y5, s13, h4⟩ := st13 a n1 n2 (some (.dat (T p))) (some (.dat (T (codeL p)))) (some (.dat (.int (num (codeL p))))) none (some (.dat (T cs))) (some (.dat (T (DV.rng n).reverse))) (some (.dat (.int (fac n - 1)))) h3
  obtain ⟨xs5, s14, h5⟩ := refused_ok a ap h4
  refine ⟨xs5, ?_, h5⟩
  unfold G__law_is_right
  rw [DH.runO_eq]
  refine DH.outO_rt (A := [some (.dat (.int (n : Nat))), some (.dat (T p)), some (.dat (T (codeL p))), some (.dat (.int (num (codeL p)))), y5, some (.dat (T cs)), some (.dat (T (DV.rng n).reverse)), some (.dat (.int (fac n - 1)))]) ?_
  show (sSeq (ir1 a) (sSeq (ir2 a) (sSeq (ir3 a) (sSeq (ir4 a) (sSeq (ir5 a) (sSeq (ir6 a) (sSeq (ir7 a) (sSeq (ir8 a) (sSeq (ir9 a) (sSeq (ir10 a) (sSeq (ir11 a) (sSeq (ir12 a) (sSeq (ir13 a) (ir14 a)))))))))))))) [some (.own true xs), none, none, none, none, none, none, none, none] = _
  rw [seq_nx s1, seq_nx s2, seq_nx (st3 a o _ _ _ _), seq_nx (st4 a o _ _ _ _), seq_nx (st5 a o _ _ _ _), seq_nx (st6 a o _ _ _ _), seq_nx (st7 a o _ _ _ _), seq_nx s8, seq_nx (st9 a n1 n2 _ _ _ _ _ _ hl hv), seq_nx (st10 a n1 n2 _ _ _ _ _ _ _), seq_nx (st11 a n1 n2 _ _ _ _ _ _), seq_nx (st12 a n1 n2 _ _ _ _ _), seq_nx s13]
  have g : gCallO 0 0 (G__law_are_refused a) (qa fNil) [some (.own true xs4), some (.dat (.int (n : Nat))), some (.dat (T p)), some (.dat (T (codeL p))), some (.dat (.int (num (codeL p)))), y5, some (.dat (T cs)), some (.dat (T (DV.rng n).reverse)), some (.dat (.int (fac n - 1)))] = some (.bl true, [some (.own true xs5), some (.dat (.int (n : Nat))), some (.dat (T p)), some (.dat (T (codeL p))), some (.dat (.int (num (codeL p)))), y5, some (.dat (T cs)), some (.dat (T (DV.rng n).reverse)), some (.dat (.int (fac n - 1)))]) :=
    callO (t := true) (xs := xs4) (ds := []) rfl rfl rfl s14
  simp only [DV.sSeq, DV.sRet, DV.sRetF, DV.sIf, DV.sIfF, DV.sSet, DV.sSetF, DV.sNil, DV.sExpr, DV.sExprX, DV.sRetX, DV.flX, DV.sRaise, DV.fVar, DV.fOwn, DV.fC, DV.fB, DV.gB, DV.fCB, DV.gCB, DV.fCons, DV.fNil, DV.gCons, DV.gNil, DV.fT, DV.gT, DV.asB_bl, DV.asI_int, DV.fAnd, DV.fOr, DV.fNot, DV.gAnd, DV.gOr, DV.gNot, DV.fAndV, DV.fOrV, DV.fNotV, DV.gAndV, DV.gOrV, DV.fCall, DV.fCallR, DV.gCall, DV.fX, DV.xq, DV.okOf, DV.fTup, DV.fLst, DV.gTupE, DV.gLst, DV.fIf, DV.gIf, DV.qf, DV.qtf, DV.qa, DV.qi, DV.fChain, DV.fSl, DV.fO, DV.fONone, DV.mSl, DV.fSeq, DV.gSeq, DV.seqOf_lst, DV.seqOf_tup, DV.fEnum, DV.nLst, DV.nList, DV.nMul, DV.sOwn, DV.sApp, DV.sPar, DV.sParF, DV.sParOO, DV.sParDO, DV.sAug, DV.mAddI, DV.sFor, DV.sAsg, DV.sAsgF, DV.pName, DV.pNil, DV.pCons, DV.pTup, DV.wipeA, DV.mLen_lst, DV.mLen_tup, DV.mTuple, DV.mList, DV.mInt, DV.mAbs, DV.add_int, DV.mSub, DV.mLt, DV.mLe, DV.mGt, DV.mGe, DV.mRev, DV.fRev, DV.eq_ii, DV.ne_ii, DV.eq_tt, DV.ne_tt, DV.eq_ll, DV.ne_ll, Option.bind_some, Option.map_some, Option.bind_none, Option.map_none, List.getElem?_cons_zero, List.getElem?_cons_succ, List.set_cons_zero, List.set_cons_succ, List.length_cons, List.length_nil, List.length_map, Nat.zero_add, Nat.reduceAdd, ↓reduceIte, Bool.false_eq_true, if_true, if_false, Bool.not_true, Bool.not_false, g]
theorem law_val (a : Ad) (ap : a.f_order_number ≠ a.f_code) (ns : List Int) : ∃ A', m_law a (none :: some (.own true (DV.hand0 74419 62 ns)) :: List.replicate (N_law.length - 2) none) = some (.rt (.bl true) A') := by
  show ∃ A', m_law a [none, some (.own true (DV.hand0 74419 62 ns)), none] = _
  obtain ⟨xs1, e1, h1⟩ := right_ok a ap (DH.hand0_ok 74419 62 ns)
  obtain ⟨xs2, e2, h2⟩ := right_ok a ap h1
  obtain ⟨xs3, e3, h3⟩ := right_ok a ap h2
  obtain ⟨xs4, e4, h4⟩ := right_ok a ap h3
  refine ⟨[none, some (.own true xs4), none], ?_⟩
  have c : ∀ {xs xs' : List D} (t : Int), G__law_is_right a xs [] = some (.bl true, xs') → gCallO 1 0 (G__law_is_right a) (qa fNil) [none, some (.own true xs), some (.dat (.int t))] = some (.bl true, [none, some (.own true xs'), some (.dat (.int t))]) := fun t e => callO (t := true) (ds := []) rfl rfl rfl e
  have es : fR1 (fCons (fC (.int 4)) fNil) [none, some (.own true (DV.hand0 74419 62 ns)), none] = some [.int 0, .int 1, .int 2, .int 3] := rfl
  have z4 : szOk 4 = true := rfl
  have g : gLC (qi (fR1 (fCons (fC (.int 4)) fNil))) ([2] : List Nat) (pName 2) (fun _ => some true) (gCallO 1 0 (G__law_is_right a) (qa fNil)) [none, some (.own true (DV.hand0 74419 62 ns)), none] = some (.lst [.bl true, .bl true, .bl true, .bl true], [none, some (.own true xs4), none]) := by
    unfold gLC
    simp only [qi, es, Option.map_some, Option.bind_some]
    simp only [DV.sSeq, DV.sRet, DV.sRetF, DV.sIf, DV.sIfF, DV.sSet, DV.sSetF, DV.sNil, DV.sExpr, DV.sExprX, DV.sRetX, DV.flX, DV.sRaise, DV.fVar, DV.fOwn, DV.fC, DV.fB, DV.gB, DV.fCB, DV.gCB, DV.fCons, DV.fNil, DV.gCons, DV.gNil, DV.fT, DV.gT, DV.asB_bl, DV.asI_int, DV.fAnd, DV.fOr, DV.fNot, DV.gAnd, DV.gOr, DV.gNot, DV.fAndV, DV.fOrV, DV.fNotV, DV.gAndV, DV.gOrV, DV.fCall, DV.fCallR, DV.gCall, DV.fX, DV.xq, DV.okOf, DV.fTup, DV.fLst, DV.gTupE, DV.gLst, DV.fIf, DV.gIf, DV.qf, DV.qtf, DV.qa, DV.qi, DV.fChain, DV.fSl, DV.fO, DV.fONone, DV.mSl, DV.fSeq, DV.gSeq, DV.seqOf_lst, DV.seqOf_tup, DV.fEnum, DV.nLst, DV.nList, DV.nMul, DV.sOwn, DV.sApp, DV.sPar, DV.sParF, DV.sParOO, DV.sParDO, DV.sAug, DV.mAddI, DV.sFor, DV.sAsg, DV.sAsgF, DV.pName, DV.pNil, DV.pCons, DV.pTup, DV.wipeA, DV.mLen_lst, DV.mLen_tup, DV.mTuple, DV.mList, DV.mInt, DV.mAbs, DV.add_int, DV.mSub, DV.mLt, DV.mLe, DV.mGt, DV.mGe, DV.mRev, DV.fRev, DV.eq_ii, DV.ne_ii, DV.eq_tt, DV.ne_tt, DV.eq_ll, DV.ne_ll, Option.bind_some, Option.map_some, Option.bind_none, Option.map_none, List.getElem?_cons_zero, List.getElem?_cons_succ, List.set_cons_zero, List.set_cons_succ, List.length_cons, List.length_nil, List.length_map, Nat.zero_add, Nat.reduceAdd, ↓reduceIte, Bool.false_eq_true, if_true, if_false, Bool.not_true, Bool.not_false, z4, lcGoF, c 0 e1, c 1 e2, c 2 e3, c 3 e4, List.getD_cons_succ, List.getD_cons_zero, isOwn, List.all_cons, List.all_nil, Bool.and_true, Bool.and_self, restA]
  unfold m_law
  simp only [DV.sSeq, DV.sRet, DV.sRetF, DV.sIf, DV.sIfF, DV.sSet, DV.sSetF, DV.sNil, DV.sExpr, DV.sExprX, DV.sRetX, DV.flX, DV.sRaise, DV.fVar, DV.fOwn, DV.fC, DV.fB, DV.gB, DV.fCB, DV.gCB, DV.fCons, DV.fNil, DV.gCons, DV.gNil, DV.fT, DV.gT, DV.asB_bl, DV.asI_int, DV.fAnd, DV.fOr, DV.fNot, DV.gAnd, DV.gOr, DV.gNot, DV.fAndV, DV.fOrV, DV.fNotV, DV.gAndV, DV.gOrV, DV.fCall, DV.fCallR, DV.gCall, DV.fX, DV.xq, DV.okOf, DV.fTup, DV.fLst, DV.gTupE, DV.gLst, DV.fIf, DV.gIf, DV.qf, DV.qtf, DV.qa, DV.qi, DV.fChain, DV.fSl, DV.fO, DV.fONone, DV.mSl, DV.fSeq, DV.gSeq, DV.seqOf_lst, DV.seqOf_tup, DV.fEnum, DV.nLst, DV.nList, DV.nMul, DV.sOwn, DV.sApp, DV.sPar, DV.sParF, DV.sParOO, DV.sParDO, DV.sAug, DV.mAddI, DV.sFor, DV.sAsg, DV.sAsgF, DV.pName, DV.pNil, DV.pCons, DV.pTup, DV.wipeA, DV.mLen_lst, DV.mLen_tup, DV.mTuple, DV.mList, DV.mInt, DV.mAbs, DV.add_int, DV.mSub, DV.mLt, DV.mLe, DV.mGt, DV.mGe, DV.mRev, DV.fRev, DV.eq_ii, DV.ne_ii, DV.eq_tt, DV.ne_tt, DV.eq_ll, DV.ne_ll, Option.bind_some, Option.map_some, Option.bind_none, Option.map_none, List.getElem?_cons_zero, List.getElem?_cons_succ, List.set_cons_zero, List.set_cons_succ, List.length_cons, List.length_nil, List.length_map, Nat.zero_add, Nat.reduceAdd, ↓reduceIte, Bool.false_eq_true, if_true, if_false, Bool.not_true, Bool.not_false, g]
  rfl
end W74

namespace W74
def good (ns : List Int) : Prop := ns.length ≤ 63 ∧ ∀ z ∈ ns, PySem.Builtin.Int.intBits z ≤ 1048576
/-- the defs that are handed around stand apart -/
structure Apart (a : Ad) : Prop where
  n_order_number_code : a.f_order_number ≠ a.f_code
theorem law_true [DV.TabC] (a : Ad) (ap : Apart a) (ns : List Int) (_ : good ns) : ∃ A', m_law a (none :: some (.own true (DV.hand0 74419 62 ns)) :: List.replicate (N_law.length - 2) none) = some (.rt (.bl true) A') := law_val a ap.n_order_number_code ns
theorem fun_ne {K : PySem.W.Frag} {x y : PySem.Str} {s t : PySem.Stmt} {f g : PySem.Addr} {fd gd : PySem.FuncData} (F : L2.Fun K x x s f fd) (G : L2.Fun K y y t g gd) (h : x ≠ y) : f ≠ g := fun e => by
  subst e
  obtain ⟨oc, od, kV, doc, pm, an, cdv, ct, osl, e1, l1, _⟩ := F.ex
  obtain ⟨oc', od', kV', doc', pm', an', cdv', ct', osl', e2, l2, _⟩ := G.ex
  rw [l1] at l2
  have e3 : fd = gd := by
    have z := congrArg (fun o => o.data) (Option.some.inj l2)
    injection z
  rw [e1, e2] at e3
  exact h (by have := congrArg PySem.FuncData.name e3; exact this)
theorem mkC {K : PySem.W.Frag} {x : PySem.Str} {i : Int} {t : PySem.Tok} (a : PySem.W.nsIn K PySem.mainGlobals x = some (some (.int i t))) : ∃ t, PySem.W.nsIn K PySem.mainGlobals x = some (some (.int i t)) := ⟨t, a⟩
theorem mkL {K : PySem.W.Frag} {h : PySem.Heap} {x : PySem.Str} {st : PySem.Stmt} {f : PySem.Addr} {oc : PySem.Value} {od an : Option PySem.Addr} {osl : Array (Option PySem.Value)} {kV doc pm ct : PySem.Value} {c P : PySem.Addr} (a : PySem.W.nsIn K PySem.mainGlobals x = some (some (.ref f)))
    (l : K.lookup f = some ⟨oc, od, .func (PySem.W.fnOf x x (L2.defArgs st) (L2.defBody st) (L2.defScope st) .none kV doc pm an (.ref c) ct), osl⟩) (cc : PySem.W.codeIn K (.ref c) x = true) (k : PySem.W.keepIn K (.ref f) = true) (t : h.get? P = some { cls := .none, data := .fields #[] }) (e : PySem.W.codeHdIn K c P = true) (n : K.lookup P = none) :
    ∃ f fd c P, PySem.W.nsIn K PySem.mainGlobals x = some (some (.ref f)) ∧ L2.Fun K x x st f fd ∧ fd.code = .ref c ∧ PySem.W.codeHdIn K c P = true ∧ K.lookup P = none ∧ h.get? P = some { cls := .none, data := .fields #[] } := ⟨f, _, c, P, a, L2.fun_mk l cc k, rfl, e, n, t⟩
theorem mkE {K : PySem.W.Frag} {c_BadCode c_BadOrder c_NoNumber c_LayError : PySem.Addr} (e0 : PySem.W.nsIn K PySem.mainGlobals "BadCode" = some (some (.ref c_BadCode))) (e1 : PySem.W.nsIn K PySem.mainGlobals "BadOrder" = some (some (.ref c_BadOrder))) (e2 : PySem.W.nsIn K PySem.mainGlobals "NoNumber" = some (some (.ref c_NoNumber))) (e3 : PySem.W.nsIn K PySem.mainGlobals "LayError" = some (some (.ref c_LayError))) (e4 : PySem.W.excIn K c_BadCode [.type "ValueError", .type "Exception", .type "BaseException", .type "object"] "ValueError.__new__" = true) (e5 : PySem.W.keepIn K (.ref c_BadCode) = true) (e6 : PySem.W.subIn K (.ref c_BadCode) (.type "BaseException") = some true) (e7 : PySem.W.typeIn K (.ref c_BadCode) = some (.type "type")) (e8 : PySem.W.excIn K c_BadOrder [.type "ValueError", .type "Exception", .type "BaseException", .type "object"] "ValueError.__new__" = true) (e9 : PySem.W.keepIn K (.ref c_BadOrder) = true) (e10 : PySem.W.subIn K (.ref c_BadOrder) (.type "BaseException") = some true) (e11 : PySem.W.typeIn K (.ref c_BadOrder) = some (.type "type")) (e12 : PySem.W.excIn K c_NoNumber [.type "ValueError", .type "Exception", .type "BaseException", .type "object"] "ValueError.__new__" = true) (e13 : PySem.W.keepIn K (.ref c_NoNumber) = true) (e14 : PySem.W.subIn K (.ref c_NoNumber) (.type "BaseException") = some true) (e15 : PySem.W.typeIn K (.ref c_NoNumber) = some (.type "type")) (e16 : PySem.W.findIn K (.ref c_BadCode) "__getattribute__" = some (some (.builtin "BaseException.__getattribute__"))) (e17 : PySem.W.findIn K (.ref c_BadCode) "__getattr__" = some none) (e18 : PySem.W.subIn K (.ref c_BadCode) (.type "BaseException") = some true) (e19 : PySem.W.hasDictIn K c_BadCode = true) (e20 : PySem.W.findIn K (.ref c_BadCode) "__class__" = some (some (.builtin "object.__class__"))) (e21 : PySem.W.mroIn K c_BadCode (.type "object") = some true) (e22 : PySem.W.exmOne K (.ref c_BadCode) (.ref c_LayError) = some true) (e23 : PySem.W.kitOne K (.ref c_BadCode) (.ref c_BadCode) = some true) (e24 : PySem.W.kitOne K (.ref c_BadCode) (.ref c_BadOrder) = some false) (e25 : PySem.W.kitOne K (.ref c_BadCode) (.ref c_NoNumber) = some false) (e26 : PySem.W.findIn K (.ref c_BadOrder) "__getattribute__" = some (some (.builtin "BaseException.__getattribute__"))) (e27 : PySem.W.findIn K (.ref c_BadOrder) "__getattr__" = some none) (e28 : PySem.W.subIn K (.ref c_BadOrder) (.type "BaseException") = some true) (e29 : PySem.W.hasDictIn K c_BadOrder = true) (e30 : PySem.W.findIn K (.ref c_BadOrder) "__class__" = some (some (.builtin "object.__class__"))) (e31 : PySem.W.mroIn K c_BadOrder (.type "object") = some true) (e32 : PySem.W.exmOne K (.ref c_BadOrder) (.ref c_LayError) = some true) (e33 : PySem.W.kitOne K (.ref c_BadOrder) (.ref c_BadCode) = some false) (e34 : PySem.W.kitOne K (.ref c_BadOrder) (.ref c_BadOrder) = some true) (e35 : PySem.W.kitOne K (.ref c_BadOrder) (.ref c_NoNumber) = some false) (e36 : PySem.W.findIn K (.ref c_NoNumber) "__getattribute__" = some (some (.builtin "BaseException.__getattribute__"))) (e37 : PySem.W.findIn K (.ref c_NoNumber) "__getattr__" = some none) (e38 : PySem.W.subIn K (.ref c_NoNumber) (.type "BaseException") = some true) (e39 : PySem.W.hasDictIn K c_NoNumber = true) (e40 : PySem.W.findIn K (.ref c_NoNumber) "__class__" = some (some (.builtin "object.__class__"))) (e41 : PySem.W.mroIn K c_NoNumber (.type "object") = some true) (e42 : PySem.W.exmOne K (.ref c_NoNumber) (.ref c_LayError) = some true) (e43 : PySem.W.kitOne K (.ref c_NoNumber) (.ref c_BadCode) = some false) (e44 : PySem.W.kitOne K (.ref c_NoNumber) (.ref c_BadOrder) = some false) (e45 : PySem.W.kitOne K (.ref c_NoNumber) (.ref c_NoNumber) = some true) (e46 : PySem.W.specialIn K (.builtin "object.__class__") "__get__" = some (some (.builtin "getset_descriptor.__get__"))) (e47 : PySem.W.takesIn K (.builtin "object.__class__") = some true) : ∃ c_BadCode c_BadOrder c_NoNumber c_LayError, PySem.W.nsIn K PySem.mainGlobals "BadCode" = some (some (.ref c_BadCode)) ∧ PySem.W.nsIn K PySem.mainGlobals "BadOrder" = some (some (.ref c_BadOrder)) ∧ PySem.W.nsIn K PySem.mainGlobals "NoNumber" = some (some (.ref c_NoNumber)) ∧ PySem.W.nsIn K PySem.mainGlobals "LayError" = some (some (.ref c_LayError)) ∧ PySem.W.excIn K c_BadCode [.type "ValueError", .type "Exception", .type "BaseException", .type "object"] "ValueError.__new__" = true ∧ PySem.W.keepIn K (.ref c_BadCode) = true ∧ PySem.W.subIn K (.ref c_BadCode) (.type "BaseException") = some true ∧ PySem.W.typeIn K (.ref c_BadCode) = some (.type "type") ∧ PySem.W.excIn K c_BadOrder [.type "ValueError", .type "Exception", .type "BaseException", .type "object"] "ValueError.__new__" = true ∧ PySem.W.keepIn K (.ref c_BadOrder) = true ∧ PySem.W.subIn K (.ref c_BadOrder) (.type "BaseException") = some true ∧ PySem.W.typeIn K (.ref c_BadOrder) = some (.type "type") ∧ PySem.W.excIn K c_NoNumber [.type "ValueError", .type "Exception", .type "BaseException", .type "object"] "ValueError.__new__" = true ∧ PySem.W.keepIn K (.ref c_NoNumber) = true ∧ PySem.W.subIn K (.ref c_NoNumber) (.type "BaseException") = some true ∧ PySem.W.typeIn K (.ref c_NoNumber) = some (.type "type") ∧ PySem.W.findIn K (.ref c_BadCode) "__getattribute__" = some (some (.builtin "BaseException.__getattribute__")) ∧ PySem.W.findIn K (.ref c_BadCode) "__getattr__" = some none ∧ PySem.W.subIn K (.ref c_BadCode) (.type "BaseException") = some true ∧ PySem.W.hasDictIn K c_BadCode = true ∧ PySem.W.findIn K (.ref c_BadCode) "__class__" = some (some (.builtin "object.__class__")) ∧ PySem.W.mroIn K c_BadCode (.type "object") = some true ∧ PySem.W.exmOne K (.ref c_BadCode) (.ref c_LayError) = some true ∧ PySem.W.kitOne K (.ref c_BadCode) (.ref c_BadCode) = some true ∧ PySem.W.kitOne K (.ref c_BadCode) (.ref c_BadOrder) = some false ∧ PySem.W.kitOne K (.ref c_BadCode) (.ref c_NoNumber) = some false ∧ PySem.W.findIn K (.ref c_BadOrder) "__getattribute__" = some (some (.builtin "BaseException.__getattribute__")) ∧ PySem.W.findIn K (.ref c_BadOrder) "__getattr__" = some none ∧ PySem.W.subIn K (.ref c_BadOrder) (.type "BaseException") = some true ∧ PySem.W.hasDictIn K c_BadOrder = true ∧ PySem.W.findIn K (.ref c_BadOrder) "__class__" = some (some (.builtin "object.__class__")) ∧ PySem.W.mroIn K c_BadOrder (.type "object") = some true ∧ PySem.W.exmOne K (.ref c_BadOrder) (.ref c_LayError) = some true ∧ PySem.W.kitOne K (.ref c_BadOrder) (.ref c_BadCode) = some false ∧ PySem.W.kitOne K (.ref c_BadOrder) (.ref c_BadOrder) = some true ∧ PySem.W.kitOne K (.ref c_BadOrder) (.ref c_NoNumber) = some false ∧ PySem.W.findIn K (.ref c_NoNumber) "__getattribute__" = some (some (.builtin "BaseException.__getattribute__")) ∧ PySem.W.findIn K (.ref c_NoNumber) "__getattr__" = some none ∧ PySem.W.subIn K (.ref c_NoNumber) (.type "BaseException") = some true ∧ PySem.W.hasDictIn K c_NoNumber = true ∧ PySem.W.findIn K (.ref c_NoNumber) "__class__" = some (some (.builtin "object.__class__")) ∧ PySem.W.mroIn K c_NoNumber (.type "object") = some true ∧ PySem.W.exmOne K (.ref c_NoNumber) (.ref c_LayError) = some true ∧ PySem.W.kitOne K (.ref c_NoNumber) (.ref c_BadCode) = some false ∧ PySem.W.kitOne K (.ref c_NoNumber) (.ref c_BadOrder) = some false ∧ PySem.W.kitOne K (.ref c_NoNumber) (.ref c_NoNumber) = some true ∧ PySem.W.specialIn K (.builtin "object.__class__") "__get__" = some (some (.builtin "getset_descriptor.__get__")) ∧ PySem.W.takesIn K (.builtin "object.__class__") = some true := ⟨c_BadCode, c_BadOrder, c_NoNumber, c_LayError, e0, e1, e2, e3, e4, e5, e6, e7, e8, e9, e10, e11, e12, e13, e14, e15, e16, e17, e18, e19, e20, e21, e22, e23, e24, e25, e26, e27, e28, e29, e30, e31, e32, e33, e34, e35, e36, e37, e38, e39, e40, e41, e42, e43, e44, e45, e46, e47⟩
theorem law_at {l : PySem.W.OpenLaw} {w : PySem.World} {K : PySem.W.Frag} {h : PySem.Heap} {mg : PySem.Str → Option PySem.Value} {fa : PySem.Addr} (X : K.In h) (G : h.Ns PySem.mainGlobals mg) (hfa : mg "law" = some (.ref fa))
    (D_is_int : ∃ f fd, PySem.W.nsIn K PySem.mainGlobals "is_int" = some (some (.ref f)) ∧ L2.Fun K "is_int" "is_int" s_is_int f fd)
    (D_is_within : ∃ f fd, PySem.W.nsIn K PySem.mainGlobals "is_within" = some (some (.ref f)) ∧ L2.Fun K "is_within" "is_within" s_is_within f fd)
    (D_is_ints : ∃ f fd, PySem.W.nsIn K PySem.mainGlobals "is_ints" = some (some (.ref f)) ∧ L2.Fun K "is_ints" "is_ints" s_is_ints f fd)
    (D_check_within : ∃ f fd, PySem.W.nsIn K PySem.mainGlobals "check_within" = some (some (.ref f)) ∧ L2.Fun K "check_within" "check_within" s_check_within f fd)
    (D_is_order : ∃ f fd, PySem.W.nsIn K PySem.mainGlobals "is_order" = some (some (.ref f)) ∧ L2.Fun K "is_order" "is_order" s_is_order f fd)
    (D_check_order : ∃ f fd, PySem.W.nsIn K PySem.mainGlobals "check_order" = some (some (.ref f)) ∧ L2.Fun K "check_order" "check_order" s_check_order f fd)
    (D_code_of : ∃ f fd, PySem.W.nsIn K PySem.mainGlobals "code_of" = some (some (.ref f)) ∧ L2.Fun K "code_of" "code_of" s_code_of f fd)
    (D_code : ∃ f fd, PySem.W.nsIn K PySem.mainGlobals "code" = some (some (.ref f)) ∧ L2.Fun K "code" "code" s_code f fd)
    (D_is_code : ∃ f fd, PySem.W.nsIn K PySem.mainGlobals "is_code" = some (some (.ref f)) ∧ L2.Fun K "is_code" "is_code" s_is_code f fd)
    (D_order_by_code : ∃ f fd, PySem.W.nsIn K PySem.mainGlobals "order_by_code" = some (some (.ref f)) ∧ L2.Fun K "order_by_code" "order_by_code" s_order_by_code f fd)
    (D_from_code : ∃ f fd, PySem.W.nsIn K PySem.mainGlobals "from_code" = some (some (.ref f)) ∧ L2.Fun K "from_code" "from_code" s_from_code f fd)
    (D_orders_many : ∃ f fd, PySem.W.nsIn K PySem.mainGlobals "orders_many" = some (some (.ref f)) ∧ L2.Fun K "orders_many" "orders_many" s_orders_many f fd)
    (D_order_number : ∃ f fd, PySem.W.nsIn K PySem.mainGlobals "order_number" = some (some (.ref f)) ∧ L2.Fun K "order_number" "order_number" s_order_number f fd)
    (D_numbered_order : ∃ f fd, PySem.W.nsIn K PySem.mainGlobals "numbered_order" = some (some (.ref f)) ∧ L2.Fun K "numbered_order" "numbered_order" s_numbered_order f fd)
    (D_back_of : ∃ f fd, PySem.W.nsIn K PySem.mainGlobals "back_of" = some (some (.ref f)) ∧ L2.Fun K "back_of" "back_of" s_back_of f fd)
    (D_check_two : ∃ f fd, PySem.W.nsIn K PySem.mainGlobals "check_two" = some (some (.ref f)) ∧ L2.Fun K "check_two" "check_two" s_check_two f fd)
    (D_falling_pairs : ∃ f fd, PySem.W.nsIn K PySem.mainGlobals "falling_pairs" = some (some (.ref f)) ∧ L2.Fun K "falling_pairs" "falling_pairs" s_falling_pairs f fd)
    (D_distance : ∃ f fd, PySem.W.nsIn K PySem.mainGlobals "distance" = some (some (.ref f)) ∧ L2.Fun K "distance" "distance" s_distance f fd)
    (D__law_hand : ∃ f fd, PySem.W.nsIn K PySem.mainGlobals "_law_hand" = some (some (.ref f)) ∧ L2.Fun K "_law_hand" "_law_hand" s__law_hand f fd)
    (D__law_draw : ∃ f fd, PySem.W.nsIn K PySem.mainGlobals "_law_draw" = some (some (.ref f)) ∧ L2.Fun K "_law_draw" "_law_draw" s__law_draw f fd)
    (D__law_some : ∃ f fd, PySem.W.nsIn K PySem.mainGlobals "_law_some" = some (some (.ref f)) ∧ L2.Fun K "_law_some" "_law_some" s__law_some f fd)
    (D__law_mixed : ∃ f fd, PySem.W.nsIn K PySem.mainGlobals "_law_mixed" = some (some (.ref f)) ∧ L2.Fun K "_law_mixed" "_law_mixed" s__law_mixed f fd)
    (D__law_laid : ∃ f fd, PySem.W.nsIn K PySem.mainGlobals "_law_laid" = some (some (.ref f)) ∧ L2.Fun K "_law_laid" "_law_laid" s__law_laid f fd)
    (D__law_code : ∃ f fd, PySem.W.nsIn K PySem.mainGlobals "_law_code" = some (some (.ref f)) ∧ L2.Fun K "_law_code" "_law_code" s__law_code f fd)
    (D__law_from_code : ∃ f fd, PySem.W.nsIn K PySem.mainGlobals "_law_from_code" = some (some (.ref f)) ∧ L2.Fun K "_law_from_code" "_law_from_code" s__law_from_code f fd)
    (D__law_factorial : ∃ f fd, PySem.W.nsIn K PySem.mainGlobals "_law_factorial" = some (some (.ref f)) ∧ L2.Fun K "_law_factorial" "_law_factorial" s__law_factorial f fd)
    (D__law_number : ∃ f fd, PySem.W.nsIn K PySem.mainGlobals "_law_number" = some (some (.ref f)) ∧ L2.Fun K "_law_number" "_law_number" s__law_number f fd)
    (D__law_numbered : ∃ f fd, PySem.W.nsIn K PySem.mainGlobals "_law_numbered" = some (some (.ref f)) ∧ L2.Fun K "_law_numbered" "_law_numbered" s__law_numbered f fd)
    (D__law_word : ∃ f fd, PySem.W.nsIn K PySem.mainGlobals "_law_word" = some (some (.ref f)) ∧ L2.Fun K "_law_word" "_law_word" s__law_word f fd)
    (D__law_are_refused : ∃ f fd c P, PySem.W.nsIn K PySem.mainGlobals "_law_are_refused" = some (some (.ref f)) ∧ L2.Fun K "_law_are_refused" "_law_are_refused" s__law_are_refused f fd ∧ fd.code = .ref c ∧ PySem.W.codeHdIn K c P = true ∧ K.lookup P = none ∧ h.get? P = some { cls := .none, data := .fields #[] })
    (D__law_is_right : ∃ f fd, PySem.W.nsIn K PySem.mainGlobals "_law_is_right" = some (some (.ref f)) ∧ L2.Fun K "_law_is_right" "_law_is_right" s__law_is_right f fd)
    (D_law : ∃ f fd, PySem.W.nsIn K PySem.mainGlobals "law" = some (some (.ref f)) ∧ L2.Fun K "law" "law" s_law f fd)
    (Z_abs : PySem.W.nsIn K PySem.mainGlobals "abs" = some none)
    (Z_all : PySem.W.nsIn K PySem.mainGlobals "all" = some none)
    (Z_bool : PySem.W.nsIn K PySem.mainGlobals "bool" = some none)
    (Z_enumerate : PySem.W.nsIn K PySem.mainGlobals "enumerate" = some none)
    (Z_int : PySem.W.nsIn K PySem.mainGlobals "int" = some none)
    (Z_isinstance : PySem.W.nsIn K PySem.mainGlobals "isinstance" = some none)
    (Z_len : PySem.W.nsIn K PySem.mainGlobals "len" = some none)
    (Z_list : PySem.W.nsIn K PySem.mainGlobals "list" = some none)
    (Z_range : PySem.W.nsIn K PySem.mainGlobals "range" = some none)
    (Z_sorted : PySem.W.nsIn K PySem.mainGlobals "sorted" = some none)
    (Z_sum : PySem.W.nsIn K PySem.mainGlobals "sum" = some none)
    (Z_tuple : PySem.W.nsIn K PySem.mainGlobals "tuple" = some none)
    (C_MOST_ORDER : ∃ t, PySem.W.nsIn K PySem.mainGlobals "MOST_ORDER" = some (some (.int 60 t)))
    (E_all : ∃ c_BadCode c_BadOrder c_NoNumber c_LayError, PySem.W.nsIn K PySem.mainGlobals "BadCode" = some (some (.ref c_BadCode)) ∧ PySem.W.nsIn K PySem.mainGlobals "BadOrder" = some (some (.ref c_BadOrder)) ∧ PySem.W.nsIn K PySem.mainGlobals "NoNumber" = some (some (.ref c_NoNumber)) ∧ PySem.W.nsIn K PySem.mainGlobals "LayError" = some (some (.ref c_LayError)) ∧ PySem.W.excIn K c_BadCode [.type "ValueError", .type "Exception", .type "BaseException", .type "object"] "ValueError.__new__" = true ∧ PySem.W.keepIn K (.ref c_BadCode) = true ∧ PySem.W.subIn K (.ref c_BadCode) (.type "BaseException") = some true ∧ PySem.W.typeIn K (.ref c_BadCode) = some (.type "type") ∧ PySem.W.excIn K c_BadOrder [.type "ValueError", .type "Exception", .type "BaseException", .type "object"] "ValueError.__new__" = true ∧ PySem.W.keepIn K (.ref c_BadOrder) = true ∧ PySem.W.subIn K (.ref c_BadOrder) (.type "BaseException") = some true ∧ PySem.W.typeIn K (.ref c_BadOrder) = some (.type "type") ∧ PySem.W.excIn K c_NoNumber [.type "ValueError", .type "Exception", .type "BaseException", .type "object"] "ValueError.__new__" = true ∧ PySem.W.keepIn K (.ref c_NoNumber) = true ∧ PySem.W.subIn K (.ref c_NoNumber) (.type "BaseException") = some true ∧ PySem.W.typeIn K (.ref c_NoNumber) = some (.type "type") ∧ PySem.W.findIn K (.ref c_BadCode) "__getattribute__" = some (some (.builtin "BaseException.__getattribute__")) ∧ PySem.W.findIn K (.ref c_BadCode) "__getattr__" = some none ∧ PySem.W.subIn K (.ref c_BadCode) (.type "BaseException") = some true ∧ PySem.W.hasDictIn K c_BadCode = true ∧ PySem.W.findIn K (.ref c_BadCode) "__class__" = some (some (.builtin "object.__class__")) ∧ PySem.W.mroIn K c_BadCode (.type "object") = some true ∧ PySem.W.exmOne K (.ref c_BadCode) (.ref c_LayError) = some true ∧ PySem.W.kitOne K (.ref c_BadCode) (.ref c_BadCode) = some true ∧ PySem.W.kitOne K (.ref c_BadCode) (.ref c_BadOrder) = some false ∧ PySem.W.kitOne K (.ref c_BadCode) (.ref c_NoNumber) = some false ∧ PySem.W.findIn K (.ref c_BadOrder) "__getattribute__" = some (some (.builtin "BaseException.__getattribute__")) ∧ PySem.W.findIn K (.ref c_BadOrder) "__getattr__" = some none ∧ PySem.W.subIn K (.ref c_BadOrder) (.type "BaseException") = some true ∧ PySem.W.hasDictIn K c_BadOrder = true ∧ PySem.W.findIn K (.ref c_BadOrder) "__class__" = some (some (.builtin "object.__class__")) ∧ PySem.W.mroIn K c_BadOrder (.type "object") = some true ∧ PySem.W.exmOne K (.ref c_BadOrder) (.ref c_LayError) = some true ∧ PySem.W.kitOne K (.ref c_BadOrder) (.ref c_BadCode) = some false ∧ PySem.W.kitOne K (.ref c_BadOrder) (.ref c_BadOrder) = some true ∧ PySem.W.kitOne K (.ref c_BadOrder) (.ref c_NoNumber) = some false ∧ PySem.W.findIn K (.ref c_NoNumber) "__getattribute__" = some (some (.builtin "BaseException.__getattribute__")) ∧ PySem.W.findIn K (.ref c_NoNumber) "__getattr__" = some none ∧ PySem.W.subIn K (.ref c_NoNumber) (.type "BaseException") = some true ∧ PySem.W.hasDictIn K c_NoNumber = true ∧ PySem.W.findIn K (.ref c_NoNumber) "__class__" = some (some (.builtin "object.__class__")) ∧ PySem.W.mroIn K c_NoNumber (.type "object") = some true ∧ PySem.W.exmOne K (.ref c_NoNumber) (.ref c_LayError) = some true ∧ PySem.W.kitOne K (.ref c_NoNumber) (.ref c_BadCode) = some false ∧ PySem.W.kitOne K (.ref c_NoNumber) (.ref c_BadOrder) = some false ∧ PySem.W.kitOne K (.ref c_NoNumber) (.ref c_NoNumber) = some true ∧ PySem.W.specialIn K (.builtin "object.__class__") "__get__" = some (some (.builtin "getset_descriptor.__get__")) ∧ PySem.W.takesIn K (.builtin "object.__class__") = some true)
    (hm : ∀ [DV.TabC] (a : Ad) (_ : Apart a) (ns : List Int), good ns → ∃ A', m_law a (none :: some (.own true (DV.hand0 74419 62 ns)) :: List.replicate (N_law.length - 2) none) = some (.rt (.bl true) A')) :
    LamX.LawAtS l w K (L2.CX l.prog w) 12 63 "script" mg fa h := by
  obtain ⟨f_is_int, d_is_int, a_is_int, F_is_int⟩ := D_is_int
  obtain ⟨f_is_within, d_is_within, a_is_within, F_is_within⟩ := D_is_within
  obtain ⟨f_is_ints, d_is_ints, a_is_ints, F_is_ints⟩ := D_is_ints
  obtain ⟨f_check_within, d_check_within, a_check_within, F_check_within⟩ := D_check_within
  obtain ⟨f_is_order, d_is_order, a_is_order, F_is_order⟩ := D_is_order
  obtain ⟨f_check_order, d_check_order, a_check_order, F_check_order⟩ := D_check_order
  obtain ⟨f_code_of, d_code_of, a_code_of, F_code_of⟩ := D_code_of
  obtain ⟨f_code, d_code, a_code, F_code⟩ := D_code
  obtain ⟨f_is_code, d_is_code, a_is_code, F_is_code⟩ := D_is_code
  obtain ⟨f_order_by_code, d_order_by_code, a_order_by_code, F_order_by_code⟩ := D_order_by_code
  obtain ⟨f_from_code, d_from_code, a_from_code, F_from_code⟩ := D_from_code
  obtain ⟨f_orders_many, d_orders_many, a_orders_many, F_orders_many⟩ := D_orders_many
  obtain ⟨f_order_number, d_order_number, a_order_number, F_order_number⟩ := D_order_number
  obtain ⟨f_numbered_order, d_numbered_order, a_numbered_order, F_numbered_order⟩ := D_numbered_order
  obtain ⟨f_back_of, d_back_of, a_back_of, F_back_of⟩ := D_back_of
  obtain ⟨f_check_two, d_check_two, a_check_two, F_check_two⟩ := D_check_two
  obtain ⟨f_falling_pairs, d_falling_pairs, a_falling_pairs, F_falling_pairs⟩ := D_falling_pairs
  obtain ⟨f_distance, d_distance, a_distance, F_distance⟩ := D_distance
  obtain ⟨f__law_hand, d__law_hand, a__law_hand, F__law_hand⟩ := D__law_hand
  obtain ⟨f__law_draw, d__law_draw, a__law_draw, F__law_draw⟩ := D__law_draw
  obtain ⟨f__law_some, d__law_some, a__law_some, F__law_some⟩ := D__law_some
  obtain ⟨f__law_mixed, d__law_mixed, a__law_mixed, F__law_mixed⟩ := D__law_mixed
  obtain ⟨f__law_laid, d__law_laid, a__law_laid, F__law_laid⟩ := D__law_laid
  obtain ⟨f__law_code, d__law_code, a__law_code, F__law_code⟩ := D__law_code
  obtain ⟨f__law_from_code, d__law_from_code, a__law_from_code, F__law_from_code⟩ := D__law_from_code
  obtain ⟨f__law_factorial, d__law_factorial, a__law_factorial, F__law_factorial⟩ := D__law_factorial
  obtain ⟨f__law_number, d__law_number, a__law_number, F__law_number⟩ := D__law_number
  obtain ⟨f__law_numbered, d__law_numbered, a__law_numbered, F__law_numbered⟩ := D__law_numbered
  obtain ⟨f__law_word, d__law_word, a__law_word, F__law_word⟩ := D__law_word
  obtain ⟨f__law_are_refused, d__law_are_refused, lc, lP, a__law_are_refused, F__law_are_refused, ec, eh, en, et⟩ := D__law_are_refused
  obtain ⟨f__law_is_right, d__law_is_right, a__law_is_right, F__law_is_right⟩ := D__law_is_right
  obtain ⟨f_law, d_law, a_law, F_law⟩ := D_law
  obtain ⟨c_BadCode, c_BadOrder, c_NoNumber, c_LayError, e0, e1, e2, e3, e4, e5, e6, e7, e8, e9, e10, e11, e12, e13, e14, e15, e16, e17, e18, e19, e20, e21, e22, e23, e24, e25, e26, e27, e28, e29, e30, e31, e32, e33, e34, e35, e36, e37, e38, e39, e40, e41, e42, e43, e44, e45, e46, e47⟩ := E_all
  obtain rfl : fa = f_law := by
    have := hfa.symm.trans (PySem.W.mg_of X G a_law)
    injection this with e; injection e
  let inst : DV.TabC := ⟨[(lP, ("_law_are_refused.<locals>.<lambda>" : PySem.Str))]⟩
  let cl : PySem.Str → PySem.Addr := fun x => if x = "BadCode" then c_BadCode else if x = "BadOrder" then c_BadOrder else if x = "NoNumber" then c_NoNumber else if x = "LayError" then c_LayError else 0
  let a : Ad := { f_is_int := f_is_int, d_is_int := d_is_int, f_is_within := f_is_within, d_is_within := d_is_within, f_is_ints := f_is_ints, d_is_ints := d_is_ints, f_check_within := f_check_within, d_check_within := d_check_within, f_is_order := f_is_order, d_is_order := d_is_order, f_check_order := f_check_order, d_check_order := d_check_order, f_code_of := f_code_of, d_code_of := d_code_of, f_code := f_code, d_code := d_code, f_is_code := f_is_code, d_is_code := d_is_code, f_order_by_code := f_order_by_code, d_order_by_code := d_order_by_code, f_from_code := f_from_code, d_from_code := d_from_code, f_orders_many := f_orders_many, d_orders_many := d_orders_many, f_order_number := f_order_number, d_order_number := d_order_number, f_numbered_order := f_numbered_order, d_numbered_order := d_numbered_order, f_back_of := f_back_of, d_back_of := d_back_of, f_check_two := f_check_two, d_check_two := d_check_two, f_falling_pairs := f_falling_pairs, d_falling_pairs := d_falling_pairs, f_distance := f_distance, d_distance := d_distance, f__law_hand := f__law_hand, d__law_hand := d__law_hand, f__law_draw := f__law_draw, d__law_draw := d__law_draw, f__law_some := f__law_some, d__law_some := d__law_some, f__law_mixed := f__law_mixed, d__law_mixed := d__law_mixed, f__law_laid := f__law_laid, d__law_laid := d__law_laid, f__law_code := f__law_code, d__law_code := d__law_code, f__law_from_code := f__law_from_code, d__law_from_code := d__law_from_code, f__law_factorial := f__law_factorial, d__law_factorial := d__law_factorial, f__law_number := f__law_number, d__law_number := d__law_number, f__law_numbered := f__law_numbered, d__law_numbered := d__law_numbered, f__law_word := f__law_word, d__law_word := d__law_word, f__law_are_refused := f__law_are_refused, d__law_are_refused := d__law_are_refused, f__law_is_right := f__law_is_right, d__law_is_right := d__law_is_right, f_law := fa, d_law := d_law, c_LayError := c_LayError, c_BadCode := c_BadCode, c_BadOrder := c_BadOrder, c_NoNumber := c_NoNumber, lc := lc, lP := lP }
  have cl_BadCode : cl "BadCode" = c_BadCode := by simp only [cl]; rfl
  have cl_BadOrder : cl "BadOrder" = c_BadOrder := by simp only [cl]; rfl
  have cl_NoNumber : cl "NoNumber" = c_NoNumber := by simp only [cl]; rfl
  have cl_LayError : cl "LayError" = c_LayError := by simp only [cl]; rfl
  have FX : Fx K mg cl a := {
    z_abs := PySem.W.mg_none_of X G Z_abs
    z_all := PySem.W.mg_none_of X G Z_all
    z_bool := PySem.W.mg_none_of X G Z_bool
    z_enumerate := PySem.W.mg_none_of X G Z_enumerate
    z_int := PySem.W.mg_none_of X G Z_int
    z_isinstance := PySem.W.mg_none_of X G Z_isinstance
    z_len := PySem.W.mg_none_of X G Z_len
    z_list := PySem.W.mg_none_of X G Z_list
    z_range := PySem.W.mg_none_of X G Z_range
    z_sorted := PySem.W.mg_none_of X G Z_sorted
    z_sum := PySem.W.mg_none_of X G Z_sum
    z_tuple := PySem.W.mg_none_of X G Z_tuple
    c_MOST_ORDER := let ⟨t, e⟩ := C_MOST_ORDER; ⟨_, PySem.W.mg_of X G e, ⟨t, rfl⟩⟩
    F_is_int := F_is_int
    g_is_int := PySem.W.mg_of X G a_is_int
    b_is_int := F_is_int.binds (ps := (["thing"] : List PySem.Str)) fun _ _ _ _ _ _ us hl => match us, hl with | [_], _ => rfl
    F_is_within := F_is_within
    g_is_within := PySem.W.mg_of X G a_is_within
    b_is_within := F_is_within.binds (ps := (["thing", "least", "greatest"] : List PySem.Str)) fun _ _ _ _ _ _ us hl => match us, hl with | [_, _, _], _ => rfl
    F_is_ints := F_is_ints
    g_is_ints := PySem.W.mg_of X G a_is_ints
    b_is_ints := F_is_ints.binds (ps := (["thing"] : List PySem.Str)) fun _ _ _ _ _ _ us hl => match us, hl with | [_], _ => rfl
    F_check_within := F_check_within
    g_check_within := PySem.W.mg_of X G a_check_within
    b_check_within := F_check_within.binds (ps := (["thing", "least", "greatest"] : List PySem.Str)) fun _ _ _ _ _ _ us hl => match us, hl with | [_, _, _], _ => rfl
    F_is_order := F_is_order
    g_is_order := PySem.W.mg_of X G a_is_order
    b_is_order := F_is_order.binds (ps := (["thing"] : List PySem.Str)) fun _ _ _ _ _ _ us hl => match us, hl with | [_], _ => rfl
    F_check_order := F_check_order
    g_check_order := PySem.W.mg_of X G a_check_order
    b_check_order := F_check_order.binds (ps := (["order"] : List PySem.Str)) fun _ _ _ _ _ _ us hl => match us, hl with | [_], _ => rfl
    F_code_of := F_code_of
    g_code_of := PySem.W.mg_of X G a_code_of
    b_code_of := F_code_of.binds (ps := (["order"] : List PySem.Str)) fun _ _ _ _ _ _ us hl => match us, hl with | [_], _ => rfl
    F_code := F_code
    g_code := PySem.W.mg_of X G a_code
    b_code := F_code.binds (ps := (["order"] : List PySem.Str)) fun _ _ _ _ _ _ us hl => match us, hl with | [_], _ => rfl
    F_is_code := F_is_code
    g_is_code := PySem.W.mg_of X G a_is_code
    b_is_code := F_is_code.binds (ps := (["thing"] : List PySem.Str)) fun _ _ _ _ _ _ us hl => match us, hl with | [_], _ => rfl
    F_order_by_code := F_order_by_code
    g_order_by_code := PySem.W.mg_of X G a_order_by_code
    b_order_by_code := F_order_by_code.binds (ps := (["code"] : List PySem.Str)) fun _ _ _ _ _ _ us hl => match us, hl with | [_], _ => rfl
    F_from_code := F_from_code
    g_from_code := PySem.W.mg_of X G a_from_code
    b_from_code := F_from_code.binds (ps := (["code"] : List PySem.Str)) fun _ _ _ _ _ _ us hl => match us, hl with | [_], _ => rfl
    F_orders_many := F_orders_many
    g_orders_many := PySem.W.mg_of X G a_orders_many
    b_orders_many := F_orders_many.binds (ps := (["many"] : List PySem.Str)) fun _ _ _ _ _ _ us hl => match us, hl with | [_], _ => rfl
    F_order_number := F_order_number
    g_order_number := PySem.W.mg_of X G a_order_number
    b_order_number := F_order_number.binds (ps := (["order"] : List PySem.Str)) fun _ _ _ _ _ _ us hl => match us, hl with | [_], _ => rfl
    F_numbered_order := F_numbered_order
    g_numbered_order := PySem.W.mg_of X G a_numbered_order
    b_numbered_order := F_numbered_order.binds (ps := (["many", "number"] : List PySem.Str)) fun _ _ _ _ _ _ us hl => match us, hl with | [_, _], _ => rfl
    F_back_of := F_back_of
    g_back_of := PySem.W.mg_of X G a_back_of
    b_back_of := F_back_of.binds (ps := (["order"] : List PySem.Str)) fun _ _ _ _ _ _ us hl => match us, hl with | [_], _ => rfl
    F_check_two := F_check_two
    g_check_two := PySem.W.mg_of X G a_check_two
    b_check_two := F_check_two.binds (ps := (["one", "other"] : List PySem.Str)) fun _ _ _ _ _ _ us hl => match us, hl with | [_, _], _ => rfl
    F_falling_pairs := F_falling_pairs
    g_falling_pairs := PySem.W.mg_of X G a_falling_pairs
    b_falling_pairs := F_falling_pairs.binds (ps := (["order"] : List PySem.Str)) fun _ _ _ _ _ _ us hl => match us, hl with | [_], _ => rfl
    F_distance := F_distance
    g_distance := PySem.W.mg_of X G a_distance
    b_distance := F_distance.binds (ps := (["one", "other"] : List PySem.Str)) fun _ _ _ _ _ _ us hl => match us, hl with | [_, _], _ => rfl
    F__law_hand := F__law_hand
    g__law_hand := PySem.W.mg_of X G a__law_hand
    b__law_hand := F__law_hand.binds (ps := (["script"] : List PySem.Str)) fun _ _ _ _ _ _ us hl => match us, hl with | [_], _ => rfl
    F__law_draw := F__law_draw
    g__law_draw := PySem.W.mg_of X G a__law_draw
    b__law_draw := F__law_draw.binds (ps := (["hand", "many"] : List PySem.Str)) fun _ _ _ _ _ _ us hl => match us, hl with | [_, _], _ => rfl
    F__law_some := F__law_some
    g__law_some := PySem.W.mg_of X G a__law_some
    b__law_some := F__law_some.binds (ps := (["hand", "items"] : List PySem.Str)) fun _ _ _ _ _ _ us hl => match us, hl with | [_, _], _ => rfl
    F__law_mixed := F__law_mixed
    g__law_mixed := PySem.W.mg_of X G a__law_mixed
    b__law_mixed := F__law_mixed.binds (ps := (["hand", "many"] : List PySem.Str)) fun _ _ _ _ _ _ us hl => match us, hl with | [_, _], _ => rfl
    F__law_laid := F__law_laid
    g__law_laid := PySem.W.mg_of X G a__law_laid
    b__law_laid := F__law_laid.binds (ps := (["hand", "many"] : List PySem.Str)) fun _ _ _ _ _ _ us hl => match us, hl with | [_, _], _ => rfl
    F__law_code := F__law_code
    g__law_code := PySem.W.mg_of X G a__law_code
    b__law_code := F__law_code.binds (ps := (["order"] : List PySem.Str)) fun _ _ _ _ _ _ us hl => match us, hl with | [_], _ => rfl
    F__law_from_code := F__law_from_code
    g__law_from_code := PySem.W.mg_of X G a__law_from_code
    b__law_from_code := F__law_from_code.binds (ps := (["steps"] : List PySem.Str)) fun _ _ _ _ _ _ us hl => match us, hl with | [_], _ => rfl
    F__law_factorial := F__law_factorial
    g__law_factorial := PySem.W.mg_of X G a__law_factorial
    b__law_factorial := F__law_factorial.binds (ps := (["n"] : List PySem.Str)) fun _ _ _ _ _ _ us hl => match us, hl with | [_], _ => rfl
    F__law_number := F__law_number
    g__law_number := PySem.W.mg_of X G a__law_number
    b__law_number := F__law_number.binds (ps := (["order"] : List PySem.Str)) fun _ _ _ _ _ _ us hl => match us, hl with | [_], _ => rfl
    F__law_numbered := F__law_numbered
    g__law_numbered := PySem.W.mg_of X G a__law_numbered
    b__law_numbered := F__law_numbered.binds (ps := (["many", "number"] : List PySem.Str)) fun _ _ _ _ _ _ us hl => match us, hl with | [_, _], _ => rfl
    F__law_word := F__law_word
    g__law_word := PySem.W.mg_of X G a__law_word
    b__law_word := F__law_word.binds (ps := (["call"] : List PySem.Str)) fun _ _ _ _ _ _ us hl => match us, hl with | [_], _ => rfl
    F__law_are_refused := F__law_are_refused
    g__law_are_refused := PySem.W.mg_of X G a__law_are_refused
    b__law_are_refused := F__law_are_refused.binds (ps := (["hand"] : List PySem.Str)) fun _ _ _ _ _ _ us hl => match us, hl with | [_], _ => rfl
    F__law_is_right := F__law_is_right
    g__law_is_right := PySem.W.mg_of X G a__law_is_right
    b__law_is_right := F__law_is_right.binds (ps := (["hand"] : List PySem.Str)) fun _ _ _ _ _ _ us hl => match us, hl with | [_], _ => rfl
    F_law := F_law
    g_law := PySem.W.mg_of X G a_law
    b_law := F_law.binds (ps := (["script"] : List PySem.Str)) fun _ _ _ _ _ _ us hl => match us, hl with | [_], _ => rfl
    E_BadCode := ⟨e4, PySem.W.mg_of X G e0, e5, e18, e7⟩
    E_BadOrder := ⟨e8, PySem.W.mg_of X G e1, e9, e28, e11⟩
    E_NoNumber := ⟨e12, PySem.W.mg_of X G e2, e13, e38, e15⟩
    g_LayError := PySem.W.mg_of X G e3
    excC := fun c hc => by
      simp only [List.mem_cons, List.not_mem_nil, or_false] at hc
      rcases hc with rfl | rfl | rfl
      · exact ⟨e16, e17, e18, e19, e20, e46, e47, e21⟩
      · exact ⟨e26, e27, e28, e29, e30, e46, e47, e31⟩
      · exact ⟨e36, e37, e38, e39, e40, e46, e47, e41⟩
    exm := fun c hc => by
      simp only [List.mem_cons, List.not_mem_nil, or_false] at hc
      rcases hc with rfl | rfl | rfl
      · exact e22
      · exact e32
      · exact e42
    kit_BadCode := fun c hc => by
      simp only [List.mem_cons, List.not_mem_nil, or_false] at hc
      rcases hc with rfl | rfl | rfl
      · exact e23
      · exact e33
      · exact e43
    kit_BadOrder := fun c hc => by
      simp only [List.mem_cons, List.not_mem_nil, or_false] at hc
      rcases hc with rfl | rfl | rfl
      · exact e24
      · exact e34
      · exact e44
    kit_NoNumber := fun c hc => by
      simp only [List.mem_cons, List.not_mem_nil, or_false] at hc
      rcases hc with rfl | rfl | rfl
      · exact e25
      · exact e35
      · exact e45
    lc := ec
    lT := rfl
  }
  have AP : Apart a := ⟨fun_ne F_order_number F_code (by decide)⟩
  have TABS : ∀ p ∈ [(lc, lP)], p = (lc, lP) := fun p hp => List.mem_singleton.mp hp
  refine ⟨d_law, [(lc, lP)], DV.spLaw K good, fun p hp => by rw [TABS p hp]; exact et, fun p hp => by rw [TABS p hp]; exact en, fun p hp => by rw [TABS p hp]; exact PySem.W.codeHd_of_K X eh, fun s u => ?_, fun H ad ns hl hb hH hS => ?_, fun base KB GB TB => ?_⟩
  · have := FX.b_law s [u]
    obtain ⟨oc, od, kV, doc, pm, an, cdv, ct, osl, e1, _, _⟩ := F_law.ex
    rw [e1]
    exact .of_eq rfl
  · refine ⟨ad, ns, rfl, hS, fun p hp => ?_, ⟨hl, hb⟩, fun _ => rfl⟩
    have e : p = (lP, ("_law_are_refused.<locals>.<lambda>" : PySem.Str)) := List.mem_singleton.mp hp
    rw [e]
    exact LamX.TabS.nil (hH (lc, lP) (List.mem_singleton.mpr rfl))
  · exact ok_law FX (TB (lc, lP) (List.mem_singleton.mpr rfl)) (hm a AP)
end W74
open PySem PySem.W PyProof.Rows
set_option maxHeartbeats 0 in
theorem PySem.Challenge.cw_upsdowns_k74_whole_codes_and_numbers_of_holds : PySem.Challenge.rw_upsdowns_k74_whole_codes_and_numbers_of.Holds := by
  w_on; o_law; k_head; (case hw => w_witness2)
  k_fill
  refine LamX.walk_ofTs (l := PySem.Challenge.rw_upsdowns_k74_whole_codes_and_numbers_of) (n := 63) (k := 12) (x := "script") (CX := fun w => L2.CX PySem.Challenge.rw_upsdowns_k74_whole_codes_and_numbers_of.prog w) rfl (by decide) rfl ⟨rfl, by decide, by decide⟩ (fun w h Y => PySem.W.km_in_of Y) ?F (fun _ _ _ _ _ h => by obtain ⟨_, _, _, _, _, _, _, _, _, _, _, _, z⟩ := h; exact z)
  case F =>
    intro w mg fa h Y KX G hmg
    refine' W74.law_at KX G hmg ?D_is_int ?D_is_within ?D_is_ints ?D_check_within ?D_is_order ?D_check_order ?D_code_of ?D_code ?D_is_code ?D_order_by_code ?D_from_code ?D_orders_many ?D_order_number ?D_numbered_order ?D_back_of ?D_check_two ?D_falling_pairs ?D_distance ?D__law_hand ?D__law_draw ?D__law_some ?D__law_mixed ?D__law_laid ?D__law_code ?D__law_from_code ?D__law_factorial ?D__law_number ?D__law_numbered ?D__law_word ?D__law_are_refused ?D__law_is_right ?D_law ?Z_abs ?Z_all ?Z_bool ?Z_enumerate ?Z_int ?Z_isinstance ?Z_len ?Z_list ?Z_range ?Z_sorted ?Z_sum ?Z_tuple ?C_MOST_ORDER ?E_all W74.law_true
    (case D_is_int => refine' ⟨_, _, ?a, L2.fun_mk ?l ?c ?k⟩; (case a => k_is); (case l => k_is); (case c => k_is); (case k => k_is))
    (case D_is_within => refine' ⟨_, _, ?a, L2.fun_mk ?l ?c ?k⟩; (case a => k_is); (case l => k_is); (case c => k_is); (case k => k_is))
    (case D_is_ints => refine' ⟨_, _, ?a, L2.fun_mk ?l ?c ?k⟩; (case a => k_is); (case l => k_is); (case c => k_is); (case k => k_is))
    (case D_check_within => refine' ⟨_, _, ?a, L2.fun_mk ?l ?c ?k⟩; (case a => k_is); (case l => k_is); (case c => k_is); (case k => k_is))
    (case D_is_order => refine' ⟨_, _, ?a, L2.fun_mk ?l ?c ?k⟩; (case a => k_is); (case l => k_is); (case c => k_is); (case k => k_is))
    (case D_check_order => refine' ⟨_, _, ?a, L2.fun_mk ?l ?c ?k⟩; (case a => k_is); (case l => k_is); (case c => k_is); (case k => k_is))
    (case D_code_of => refine' ⟨_, _, ?a, L2.fun_mk ?l ?c ?k⟩; (case a => k_is); (case l => k_is); (case c => k_is); (case k => k_is))
    (case D_code => refine' ⟨_, _, ?a, L2.fun_mk ?l ?c ?k⟩; (case a => k_is); (case l => k_is); (case c => k_is); (case k => k_is))
    (case D_is_code => refine' ⟨_, _, ?a, L2.fun_mk ?l ?c ?k⟩; (case a => k_is); (case l => k_is); (case c => k_is); (case k => k_is))
    (case D_order_by_code => refine' ⟨_, _, ?a, L2.fun_mk ?l ?c ?k⟩; (case a => k_is); (case l => k_is); (case c => k_is); (case k => k_is))
    (case D_from_code => refine' ⟨_, _, ?a, L2.fun_mk ?l ?c ?k⟩; (case a => k_is); (case l => k_is); (case c => k_is); (case k => k_is))
    (case D_orders_many => refine' ⟨_, _, ?a, L2.fun_mk ?l ?c ?k⟩; (case a => k_is); (case l => k_is); (case c => k_is); (case k => k_is))
    (case D_order_number => refine' ⟨_, _, ?a, L2.fun_mk ?l ?c ?k⟩; (case a => k_is); (case l => k_is); (case c => k_is); (case k => k_is))
    (case D_numbered_order => refine' ⟨_, _, ?a, L2.fun_mk ?l ?c ?k⟩; (case a => k_is); (case l => k_is); (case c => k_is); (case k => k_is))
    (case D_back_of => refine' ⟨_, _, ?a, L2.fun_mk ?l ?c ?k⟩; (case a => k_is); (case l => k_is); (case c => k_is); (case k => k_is))
    (case D_check_two => refine' ⟨_, _, ?a, L2.fun_mk ?l ?c ?k⟩; (case a => k_is); (case l => k_is); (case c => k_is); (case k => k_is))
    (case D_falling_pairs => refine' ⟨_, _, ?a, L2.fun_mk ?l ?c ?k⟩; (case a => k_is); (case l => k_is); (case c => k_is); (case k => k_is))
    (case D_distance => refine' ⟨_, _, ?a, L2.fun_mk ?l ?c ?k⟩; (case a => k_is); (case l => k_is); (case c => k_is); (case k => k_is))
    (case D__law_hand => refine' ⟨_, _, ?a, L2.fun_mk ?l ?c ?k⟩; (case a => k_is); (case l => k_is); (case c => k_is); (case k => k_is))
    (case D__law_draw => refine' ⟨_, _, ?a, L2.fun_mk ?l ?c ?k⟩; (case a => k_is); (case l => k_is); (case c => k_is); (case k => k_is))
    (case D__law_some => refine' ⟨_, _, ?a, L2.fun_mk ?l ?c ?k⟩; (case a => k_is); (case l => k_is); (case c => k_is); (case k => k_is))
    (case D__law_mixed => refine' ⟨_, _, ?a, L2.fun_mk ?l ?c ?k⟩; (case a => k_is); (case l => k_is); (case c => k_is); (case k => k_is))
    (case D__law_laid => refine' ⟨_, _, ?a, L2.fun_mk ?l ?c ?k⟩; (case a => k_is); (case l => k_is); (case c => k_is); (case k => k_is))
    (case D__law_code => refine' ⟨_, _, ?a, L2.fun_mk ?l ?c ?k⟩; (case a => k_is); (case l => k_is); (case c => k_is); (case k => k_is))
    (case D__law_from_code => refine' ⟨_, _, ?a, L2.fun_mk ?l ?c ?k⟩; (case a => k_is); (case l => k_is); (case c => k_is); (case k => k_is))
    (case D__law_factorial => refine' ⟨_, _, ?a, L2.fun_mk ?l ?c ?k⟩; (case a => k_is); (case l => k_is); (case c => k_is); (case k => k_is))
    (case D__law_number => refine' ⟨_, _, ?a, L2.fun_mk ?l ?c ?k⟩; (case a => k_is); (case l => k_is); (case c => k_is); (case k => k_is))
    (case D__law_numbered => refine' ⟨_, _, ?a, L2.fun_mk ?l ?c ?k⟩; (case a => k_is); (case l => k_is); (case c => k_is); (case k => k_is))
    (case D__law_word => refine' ⟨_, _, ?a, L2.fun_mk ?l ?c ?k⟩; (case a => k_is); (case l => k_is); (case c => k_is); (case k => k_is))
    (case D__law_are_refused => refine' W74.mkL ?a ?l ?c ?k ?t ?e ?n; (case a => k_is); (case l => k_is); (case c => k_is); (case k => k_is); (case t => exact PySem.W.km_tabs_of Y _ (List.mem_singleton.mpr rfl)); (case e => first | kernel_rfl | rfl); (case n => first | kernel_rfl | rfl))
    (case D__law_is_right => refine' ⟨_, _, ?a, L2.fun_mk ?l ?c ?k⟩; (case a => k_is); (case l => k_is); (case c => k_is); (case k => k_is))
    (case D_law => refine' ⟨_, _, ?a, L2.fun_mk ?l ?c ?k⟩; (case a => k_is); (case l => k_is); (case c => k_is); (case k => k_is))
    (case Z_abs => k_is)
    (case Z_all => k_is)
    (case Z_bool => k_is)
    (case Z_enumerate => k_is)
    (case Z_int => k_is)
    (case Z_isinstance => k_is)
    (case Z_len => k_is)
    (case Z_list => k_is)
    (case Z_range => k_is)
    (case Z_sorted => k_is)
    (case Z_sum => k_is)
    (case Z_tuple => k_is)
    (case C_MOST_ORDER => refine' W74.mkC ?a; (case a => k_is))
    (case E_all => refine' W74.mkE ?e0 ?e1 ?e2 ?e3 ?e4 ?e5 ?e6 ?e7 ?e8 ?e9 ?e10 ?e11 ?e12 ?e13 ?e14 ?e15 ?e16 ?e17 ?e18 ?e19 ?e20 ?e21 ?e22 ?e23 ?e24 ?e25 ?e26 ?e27 ?e28 ?e29 ?e30 ?e31 ?e32 ?e33 ?e34 ?e35 ?e36 ?e37 ?e38 ?e39 ?e40 ?e41 ?e42 ?e43 ?e44 ?e45 ?e46 ?e47; (case e0 => k_is); (case e1 => k_is); (case e2 => k_is); (case e3 => k_is); (case e4 => first | kernel_rfl | rfl); (case e5 => k_is); (case e6 => k_is); (case e7 => k_is); (case e8 => first | kernel_rfl | rfl); (case e9 => k_is); (case e10 => k_is); (case e11 => k_is); (case e12 => first | kernel_rfl | rfl); (case e13 => k_is); (case e14 => k_is); (case e15 => k_is); (case e16 => k_is); (case e17 => k_is); (case e18 => k_is); (case e19 => k_is); (case e20 => k_is); (case e21 => k_is); (case e22 => first | kernel_rfl | rfl); (case e23 => first | kernel_rfl | rfl); (case e24 => first | kernel_rfl | rfl); (case e25 => first | kernel_rfl | rfl); (case e26 => k_is); (case e27 => k_is); (case e28 => k_is); (case e29 => k_is); (case e30 => k_is); (case e31 => k_is); (case e32 => first | kernel_rfl | rfl); (case e33 => first | kernel_rfl | rfl); (case e34 => first | kernel_rfl | rfl); (case e35 => first | kernel_rfl | rfl); (case e36 => k_is); (case e37 => k_is); (case e38 => k_is); (case e39 => k_is); (case e40 => k_is); (case e41 => k_is); (case e42 => first | kernel_rfl | rfl); (case e43 => first | kernel_rfl | rfl); (case e44 => first | kernel_rfl | rfl); (case e45 => first | kernel_rfl | rfl); (case e46 => k_is); (case e47 => k_is))
