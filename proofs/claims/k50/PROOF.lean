import PyProof.Rows.All
import Wide.All
import OpenK.AllK
import Wide.FinOn
import HandS.ForMost
import HandS.ForExc
import HandS.ExcInit
import HandS.ExcField
import HandS.CallSlots
import HandS.Wide
import HandS.Style
import HandS.Deep
import HandS.Defaults
import HandS.More
import HandS.Conv
import HandS.TupLen
import HandS.IsInst
import HandS.Property
import HandS.Comp
import HandS.SortKw
import KE.DatumOrd
import HandS.EndBits
import PySem.Challenge.RW_sandthreads_k50_first_and_last_lengths
set_option Elab.async false
set_option linter.all false
set_option maxRecDepth 100000
/-! A layer of values over the hand layer: a state is a list of values by slot and a store of the objects that may change; a part of a program is a function of it. -/
namespace SL
open PySem PySem.Spec PyProof.Rows L2

abbrev Txt := List Nat
/-- values as data: what never changes stands for itself; loc i: the i-th object of the store -/
inductive D where
  | non | bl (b : Bool) | int (i : Int) | str (s : Txt)
  | tup (xs : List D) | lst (xs : List D) | scr (ns : List Int)
  | dct (kvs : List (List Key × D)) | dck (kvs : List (Key × D))
  | ins (c : Nat) (fs : List (Str × D)) | loc (i : Nat) | ktp (ss : List Txt)
/-- an object that may change -/
inductive MO where
  | lst (xs : List D) | dct (kvs : List (List Key × D)) | dck (kvs : List (Key × D)) | ins (c : Nat) (fs : List (Str × D))
abbrev Mu := List MO
abbrev En := List (Option D)
inductive R (α : Type) where
  | ok (a : α) (m : Mu) | exc (c : Nat) (d : D) (m : Mu) | stuck
inductive RS where
  | nx (e : En) (m : Mu) | ret (d : D) (m : Mu) | bk (e : En) (m : Mu) | ct (e : En) (m : Mu) | exc (c : Nat) (d : D) (e : En) (m : Mu) | stuck
abbrev EF := En → Mu → R D
abbrev TF := En → Mu → R Bool
abbrev AF := En → Mu → R (List D)
abbrev SF := En → Mu → RS
def R.bind {α β : Type} (r : R α) (k : α → Mu → R β) : R β := match r with
  | .ok a m => k a m
  | .exc c d m => .exc c d m
  | .stuck => .stuck

/-! ### what represents what -/
section
variable (K : PySem.W.Frag) (C : Nat → Addr) (F : Hp) (ro : List Addr)
mutual
inductive Rep : V → D → Prop
  | non : Rep .non .non
  | bl (b : Bool) : Rep (.bl b) (.bl b)
  | int (i : Int) : Rep (.int i) (.int i)
  | str (s : Txt) : Rep (.str ⟨s.toArray⟩) (.str s)
  | tup {a : Addr} {vs : List V} {ds : List D} (h : F a = some (.tup vs)) (r : Reps vs ds) : Rep (.ref a) (.tup ds)
  | ktp {a : Addr} {ss : List Txt} (h : ∀ H : Hp, SqT K H a (ss.map fun s => V.str ⟨s.toArray⟩)) : Rep (.ref a) (.ktp ss)
  | lst {a : Addr} {vs : List V} {ds : List D} (h : F a = some (.lst vs)) (r : Reps vs ds) : Rep (.ref a) (.lst ds)
  | scr {a : Addr} {ns : List Int} (h : SqL K F a (ns.map V.int)) : Rep (.ref a) (.scr ns)
  | dct {a : Addr} {kvs : List (List Key × V)} {ds : List (List Key × D)} (h : F a = some (.dT kvs)) (r : RepT kvs ds) : Rep (.ref a) (.dct ds)
  | dck {a : Addr} {kvs : List (Key × V)} {ds : List (Key × D)} (h : F a = some (.dK kvs)) (r : RepK kvs ds) : Rep (.ref a) (.dck ds)
  | ins {a dx : Addr} {c : Nat} {vfs : List (Str × V)} {fs : List (Str × D)} (h : F a = some (.ins (C c) dx vfs)) (r : RepF vfs fs) : Rep (.ref a) (.ins c fs)
  | loc {a : Addr} {i : Nat} (h : ro[i]? = some a) : Rep (.ref a) (.loc i)
inductive Reps : List V → List D → Prop
  | nil : Reps [] []
  | cons {v : V} {d : D} {vs : List V} {ds : List D} (h : Rep v d) (t : Reps vs ds) : Reps (v :: vs) (d :: ds)
inductive RepT : List (List Key × V) → List (List Key × D) → Prop
  | nil : RepT [] []
  | cons {k : List Key} {v : V} {d : D} {vs : List (List Key × V)} {ds : List (List Key × D)} (h : Rep v d) (t : RepT vs ds) : RepT ((k, v) :: vs) ((k, d) :: ds)
inductive RepK : List (Key × V) → List (Key × D) → Prop
  | nil : RepK [] []
  | cons {k : Key} {v : V} {d : D} {vs : List (Key × V)} {ds : List (Key × D)} (h : Rep v d) (t : RepK vs ds) : RepK ((k, v) :: vs) ((k, d) :: ds)
inductive RepF : List (Str × V) → List (Str × D) → Prop
  | nil : RepF [] []
  | cons {k : Str} {v : V} {d : D} {vs : List (Str × V)} {ds : List (Str × D)} (h : Rep v d) (t : RepF vs ds) : RepF ((k, v) :: vs) ((k, d) :: ds)
end
inductive RepM : HO → MO → Prop
  | lst {vs : List V} {ds : List D} (r : Reps K C F ro vs ds) : RepM (.lst vs) (.lst ds)
  | dct {vs : List (List Key × V)} {ds : List (List Key × D)} (r : RepT K C F ro vs ds) : RepM (.dT vs) (.dct ds)
  | dck {vs : List (Key × V)} {ds : List (Key × D)} (r : RepK K C F ro vs ds) : RepM (.dK vs) (.dck ds)
  | ins {dx : Addr} {c : Nat} {vs : List (Str × V)} {ds : List (Str × D)} (r : RepF K C F ro vs ds) : RepM (.ins (C c) dx vs) (.ins c ds)
end
def isDict : HO → Bool
  | .dT _ => true
  | .dK _ => true
  | _ => false
/-- F, ro grow -/
structure Ext (F : Hp) (ro : List Addr) (F' : Hp) (ro' : List Addr) : Prop where
  same : Same F F'
  pre : ∃ more, ro' = ro ++ more
section
variable {K : PySem.W.Frag} {C : Nat → Addr} {F F' F2 : Hp} {ro ro' ro2 : List Addr}
theorem Ext.refl : Ext F ro F ro := ⟨fun _ _ h => h, [], by simp⟩
theorem Ext.trans (a : Ext F ro F' ro') (b : Ext F' ro' F2 ro2) : Ext F ro F2 ro2 := by
  obtain ⟨m, rfl⟩ := a.pre
  obtain ⟨n, rfl⟩ := b.pre
  exact ⟨a.same.trans b.same, m ++ n, by simp⟩
theorem Ext.at (e : Ext F ro F' ro') {i : Nat} {a : Addr} (h : ro[i]? = some a) : ro'[i]? = some a := by
  obtain ⟨m, rfl⟩ := e.pre
  rw [List.getElem?_append_left (List.getElem?_eq_some_iff.mp h).1]
  exact h
theorem same_sqt {H H' : Hp} {a : Addr} {xs : List V} (e : Same H H') (h : SqT K H a xs) : SqT K H' a xs := by
  rcases h with (h | ⟨o, h⟩) | h
  · exact .inl (.inl (e _ _ h))
  · exact .inl (.inr ⟨o, e _ _ h⟩)
  · exact .inr h
mutual
theorem Rep.mono (e : Ext F ro F' ro') : ∀ {v : V} {d : D}, Rep K C F ro v d → Rep K C F' ro' v d
  | _, _, .non => .non
  | _, _, .bl b => .bl b
  | _, _, .int i => .int i
  | _, _, .str s => .str s
  | _, _, .tup h r => .tup (e.same _ _ h) (Reps.mono e r)
  | _, _, .ktp h => .ktp h
  | _, _, .lst h r => .lst (e.same _ _ h) (Reps.mono e r)
  | _, _, .scr h => .scr (e.same.seq h)
  | _, _, .dct h r => .dct (e.same _ _ h) (RepT.mono e r)
  | _, _, .dck h r => .dck (e.same _ _ h) (RepK.mono e r)
  | _, _, .ins h r => .ins (e.same _ _ h) (RepF.mono e r)
  | _, _, .loc h => .loc (e.at h)
theorem Reps.mono (e : Ext F ro F' ro') : ∀ {v : List V} {d : List D}, Reps K C F ro v d → Reps K C F' ro' v d
  | _, _, .nil => .nil
  | _, _, .cons h t => .cons (Rep.mono e h) (Reps.mono e t)
theorem RepT.mono (e : Ext F ro F' ro') : ∀ {v : List (List Key × V)} {d : List (List Key × D)}, RepT K C F ro v d → RepT K C F' ro' v d
  | _, _, .nil => .nil
  | _, _, .cons h t => .cons (Rep.mono e h) (RepT.mono e t)
theorem RepK.mono (e : Ext F ro F' ro') : ∀ {v : List (Key × V)} {d : List (Key × D)}, RepK K C F ro v d → RepK K C F' ro' v d
  | _, _, .nil => .nil
  | _, _, .cons h t => .cons (Rep.mono e h) (RepK.mono e t)
theorem RepF.mono (e : Ext F ro F' ro') : ∀ {v : List (Str × V)} {d : List (Str × D)}, RepF K C F ro v d → RepF K C F' ro' v d
  | _, _, .nil => .nil
  | _, _, .cons h t => .cons (Rep.mono e h) (RepF.mono e t)
end
theorem RepM.mono (e : Ext F ro F' ro') {u : HO} {o : MO} (h : RepM K C F ro u o) : RepM K C F' ro' u o := by
  cases h with
  | lst r => exact .lst (r.mono e)
  | dct r => exact .dct (r.mono e)
  | dck r => exact .dck (r.mono e)
  | ins r => exact .ins (r.mono e)
theorem Reps.length : ∀ {v : List V} {d : List D}, Reps K C F ro v d → v.length = d.length
  | _, _, .nil => rfl
  | _, _, .cons _ t => congrArg (· + 1) (Reps.length t)
theorem Reps.get : ∀ {v : List V} {d : List D} {i : Nat} {x : D}, Reps K C F ro v d → d[i]? = some x → ∃ y, v[i]? = some y ∧ Rep K C F ro y x
  | _, _, _, _, .nil, e => by simp at e
  | _, _, 0, _, .cons h _, e => by simp at e; subst e; exact ⟨_, rfl, h⟩
  | _, _, i + 1, x, .cons _ t, e => by
    obtain ⟨y, h1, h2⟩ := Reps.get (i := i) t (by simpa using e)
    exact ⟨y, by simpa using h1, h2⟩
theorem Reps.getV : ∀ {v : List V} {d : List D} {i : Nat} {y : V}, Reps K C F ro v d → v[i]? = some y → ∃ x, d[i]? = some x ∧ Rep K C F ro y x
  | _, _, _, _, .nil, e => by simp at e
  | _, _, 0, _, .cons h _, e => by simp at e; subst e; exact ⟨_, rfl, h⟩
  | _, _, i + 1, x, .cons _ t, e => by
    obtain ⟨y, h1, h2⟩ := Reps.getV (i := i) t (by simpa using e)
    exact ⟨y, by simpa using h1, h2⟩
theorem Reps.app : ∀ {v w : List V} {d e : List D}, Reps K C F ro v d → Reps K C F ro w e → Reps K C F ro (v ++ w) (d ++ e)
  | _, _, _, _, .nil, h => h
  | _, _, _, _, .cons a t, h => .cons a (Reps.app t h)
theorem Reps.one {v : V} {d : D} (h : Rep K C F ro v d) : Reps K C F ro [v] [d] := .cons h .nil
theorem Reps.set {x : V} {y : D} (h : Rep K C F ro x y) : ∀ {v : List V} {d : List D} (i : Nat), Reps K C F ro v d → Reps K C F ro (v.set i x) (d.set i y)
  | _, _, _, .nil => .nil
  | _, _, 0, .cons _ t => .cons h t
  | _, _, i + 1, .cons a t => .cons a (Reps.set h i t)
theorem Reps.take : ∀ {v : List V} {d : List D} (n : Nat), Reps K C F ro v d → Reps K C F ro (v.take n) (d.take n)
  | _, _, 0, _ => .nil
  | _, _, _ + 1, .nil => .nil
  | _, _, n + 1, .cons a t => .cons a (Reps.take n t)
theorem Reps.drop : ∀ {v : List V} {d : List D} (n : Nat), Reps K C F ro v d → Reps K C F ro (v.drop n) (d.drop n)
  | _, _, 0, h => h
  | _, _, _ + 1, .nil => .nil
  | _, _, n + 1, .cons _ t => Reps.drop n t
theorem Reps.rev {v : List V} {d : List D} (h : Reps K C F ro v d) : Reps K C F ro v.reverse d.reverse := by
  induction v generalizing d with
  | nil => cases h; exact .nil
  | cons x r ih =>
    cases h with
    | cons a t => rw [List.reverse_cons, List.reverse_cons]; exact (ih t).app (.one a)
theorem Reps.erase : ∀ {v : List V} {d : List D} (n : Nat), Reps K C F ro v d → Reps K C F ro (v.eraseIdx n) (d.eraseIdx n)
  | _, _, _, .nil => .nil
  | _, _, 0, .cons _ t => t
  | _, _, n + 1, .cons a t => .cons a (Reps.erase n t)
theorem Reps.dropLast {v : List V} {d : List D} (h : Reps K C F ro v d) : Reps K C F ro v.dropLast d.dropLast := by
  rw [List.dropLast_eq_take, List.dropLast_eq_take, h.length]; exact h.take _
theorem Reps.rep {v : List V} {d : List D} (h : Reps K C F ro v d) : ∀ n : Nat, Reps K C F ro (List.replicate n v).flatten (List.replicate n d).flatten
  | 0 => .nil
  | n + 1 => by rw [List.replicate_succ, List.replicate_succ, List.flatten_cons, List.flatten_cons]; exact h.app (Reps.rep h n)
theorem Reps.ints : ∀ {v : List V} {ns : List Int}, Reps K C F ro v (ns.map D.int) → v = ns.map V.int
  | _, [], .nil => rfl
  | _, n :: ns, .cons h t => by cases h; rw [Reps.ints t]; rfl
theorem Reps.ofInts : ∀ ns : List Int, Reps K C F ro (ns.map V.int) (ns.map D.int)
  | [] => .nil
  | n :: ns => .cons (.int n) (Reps.ofInts ns)
end

/-! ### the whole state -/
structure SimH (K : PySem.W.Frag) (C : Nat → Addr) (F : Hp) (ro : List Addr) (m : Mu) (H : Hp) : Prop where
  sub : ∀ a o, F a = some o → H a = some o ∨ (isDict o = true ∧ ∃ ob, H a = some (.frz ob o))
  len : ro.length = m.length
  live : ∀ (i : Nat) (o : MO), m[i]? = some o → ∃ a u, ro[i]? = some a ∧ H a = some u ∧ F a = none ∧ RepM K C F ro u o
  dis : ro.Nodup
structure SimE (K : PySem.W.Frag) (C : Nat → Addr) (F : Hp) (ro : List Addr) (e : En) (m : Mu) (s : L2.St) (H : Hp) : Prop where
  h : SimH K C F ro m H
  len : e.length = s.length
  sl : ∀ (i : Nat) (d : D), e[i]? = some (some d) → ∃ v, s[i]? = some (some v) ∧ Rep K C F ro v d
/-- what is wanted behind an expression -/
def Post (K : PySem.W.Frag) (C : Nat → Addr) (F : Hp) (ro : List Addr) (W : WX) (s : L2.St) (Q : VK) : R D → Prop
  | .ok d m => ∀ v H' F' ro', Ext F ro F' ro' → SimH K C F' ro' m H' → Rep K C F' ro' v d → Q v H'
  | .exc c d m => ∀ dd v H' F' ro', Ext F ro F' ro' → SimH K C F' ro' m H' → Rep K C F' ro' v d → H' dd = some (.xd [("value", v)]) → W (.ref (C c)) (some dd) s H'
  | .stuck => False
def PostT (K : PySem.W.Frag) (C : Nat → Addr) (F : Hp) (ro : List Addr) (W : WX) (s : L2.St) (Q : Bool → Hp → Prop) : R Bool → Prop
  | .ok b m => ∀ H' F' ro', Ext F ro F' ro' → SimH K C F' ro' m H' → Q b H'
  | .exc c d m => ∀ dd v H' F' ro', Ext F ro F' ro' → SimH K C F' ro' m H' → Rep K C F' ro' v d → H' dd = some (.xd [("value", v)]) → W (.ref (C c)) (some dd) s H'
  | .stuck => False
def PostA (K : PySem.W.Frag) (C : Nat → Addr) (F : Hp) (ro : List Addr) (W : WX) (s : L2.St) (Q : List V → Hp → Prop) : R (List D) → Prop
  | .ok ds m => ∀ vs H' F' ro', Ext F ro F' ro' → SimH K C F' ro' m H' → Reps K C F' ro' vs ds → Q vs H'
  | .exc c d m => ∀ dd v H' F' ro', Ext F ro F' ro' → SimH K C F' ro' m H' → Rep K C F' ro' v d → H' dd = some (.xd [("value", v)]) → W (.ref (C c)) (some dd) s H'
  | .stuck => False
def PostS (K : PySem.W.Frag) (C : Nat → Addr) (F : Hp) (ro : List Addr) (W : WX) (Dd : Ends) : RS → Prop
  | .nx e m => ∀ s' H' F' ro', Ext F ro F' ro' → SimE K C F' ro' e m s' H' → Dd.nx s' H'
  | .ret d m => ∀ v H' F' ro', Ext F ro F' ro' → SimH K C F' ro' m H' → Rep K C F' ro' v d → Dd.rt v H'
  | .bk e m => ∀ s' H' F' ro', Ext F ro F' ro' → SimE K C F' ro' e m s' H' → Dd.bk s' H'
  | .ct e m => ∀ s' H' F' ro', Ext F ro F' ro' → SimE K C F' ro' e m s' H' → Dd.ct s' H'
  | .exc c d e m => ∀ dd v s' H' F' ro', Ext F ro F' ro' → SimE K C F' ro' e m s' H' → Rep K C F' ro' v d → H' dd = some (.xd [("value", v)]) → W (.ref (C c)) (some dd) s' H'
  | .stuck => False
/-- the readings -/
def tE (K : PySem.W.Frag) (C : Nat → Addr) (W : WX) (f : EF) : TE := fun s H Q => ∃ F ro e m, SimE K C F ro e m s H ∧ Post K C F ro W s Q (f e m)
def tT (K : PySem.W.Frag) (C : Nat → Addr) (W : WX) (f : TF) : TT := fun s H Q => ∃ F ro e m, SimE K C F ro e m s H ∧ PostT K C F ro W s Q (f e m)
def tA (K : PySem.W.Frag) (C : Nat → Addr) (W : WX) (f : AF) : TA := fun s H Q => ∃ F ro e m, SimE K C F ro e m s H ∧ PostA K C F ro W s Q (f e m)
def tS (K : PySem.W.Frag) (C : Nat → Addr) (W : WX) (f : SF) : TS := fun Dd s H => ∃ F ro e m, SimE K C F ro e m s H ∧ PostS K C F ro W Dd (f e m)

section
variable {K : PySem.W.Frag} {C : Nat → Addr} {F F' F2 : Hp} {ro ro' ro2 : List Addr} {W : WX} {e e' : En} {m m' : Mu} {s s' : L2.St} {H H' : Hp} {Q : VK} {Dd : Ends}
theorem SimE.mk' (h : SimE K C F ro e m s H) (x : Ext F ro F' ro') (h' : SimH K C F' ro' m' H') : SimE K C F' ro' e m' s H' :=
  ⟨h', h.len, fun i d q => let ⟨v, a, r⟩ := h.sl i d q; ⟨v, a, r.mono x⟩⟩
theorem Post.mono (x : Ext F ro F' ro') {r : R D} (p : Post K C F ro W s Q r) : Post K C F' ro' W s Q r := by
  cases r with
  | ok d m => exact fun v H' F2 ro2 y => p v H' F2 ro2 (x.trans y)
  | exc c d m => exact fun dd v H' F2 ro2 y => p dd v H' F2 ro2 (x.trans y)
  | stuck => exact p
theorem PostT.mono {Q : Bool → Hp → Prop} (x : Ext F ro F' ro') {r : R Bool} (p : PostT K C F ro W s Q r) : PostT K C F' ro' W s Q r := by
  cases r with
  | ok d m => exact fun H' F2 ro2 y => p H' F2 ro2 (x.trans y)
  | exc c d m => exact fun dd v H' F2 ro2 y => p dd v H' F2 ro2 (x.trans y)
  | stuck => exact p
theorem PostA.mono {Q : List V → Hp → Prop} (x : Ext F ro F' ro') {r : R (List D)} (p : PostA K C F ro W s Q r) : PostA K C F' ro' W s Q r := by
  cases r with
  | ok d m => exact fun v H' F2 ro2 y => p v H' F2 ro2 (x.trans y)
  | exc c d m => exact fun dd v H' F2 ro2 y => p dd v H' F2 ro2 (x.trans y)
  | stuck => exact p
theorem PostS.mono (x : Ext F ro F' ro') {r : RS} (p : PostS K C F ro W Dd r) : PostS K C F' ro' W Dd r := by
  cases r with
  | nx e m => exact fun s' H' F2 ro2 y => p s' H' F2 ro2 (x.trans y)
  | ret d m => exact fun v H' F2 ro2 y => p v H' F2 ro2 (x.trans y)
  | bk e m => exact fun s' H' F2 ro2 y => p s' H' F2 ro2 (x.trans y)
  | ct e m => exact fun s' H' F2 ro2 y => p s' H' F2 ro2 (x.trans y)
  | exc c d e m => exact fun dd v s' H' F2 ro2 y => p dd v s' H' F2 ro2 (x.trans y)
  | stuck => exact p
theorem Post.imp {Q' : VK} {r : R D} (p : Post K C F ro W s Q r) (h : ∀ v H, Q v H → Q' v H) : Post K C F ro W s Q' r := by
  cases r with
  | ok d m => exact fun v H' F2 ro2 y a b => h _ _ (p v H' F2 ro2 y a b)
  | exc c d m => exact p
  | stuck => exact p
/-- one part, then what follows -/
theorem tE_bind {f : EF} {k : D → Mu → R D} {Q' : VK} (sim : SimE K C F ro e m s H) (p : Post K C F ro W s Q ((f e m).bind k))
    (hk : ∀ x H1 F1 ro1 m1 d, Ext F ro F1 ro1 → SimE K C F1 ro1 e m1 s H1 → Rep K C F1 ro1 x d → Post K C F1 ro1 W s Q (k d m1) → Q' x H1) : tE K C W f s H Q' := by
  refine ⟨F, ro, e, m, sim, ?_⟩
  cases h : f e m with
  | ok d m1 =>
    rw [h] at p
    exact fun v H' F' ro' x a b => hk v H' F' ro' m1 d x (sim.mk' x a) b (Post.mono x p)
  | exc c d m1 => rw [h] at p; exact p
  | stuck => rw [h] at p; exact p
theorem tE_bindT {f : EF} {k : D → Mu → R Bool} {Q : Bool → Hp → Prop} {Q' : VK} (sim : SimE K C F ro e m s H) (p : PostT K C F ro W s Q ((f e m).bind k))
    (hk : ∀ x H1 F1 ro1 m1 d, Ext F ro F1 ro1 → SimE K C F1 ro1 e m1 s H1 → Rep K C F1 ro1 x d → PostT K C F1 ro1 W s Q (k d m1) → Q' x H1) : tE K C W f s H Q' := by
  refine ⟨F, ro, e, m, sim, ?_⟩
  cases h : f e m with
  | ok d m1 =>
    rw [h] at p
    exact fun v H' F' ro' x a b => hk v H' F' ro' m1 d x (sim.mk' x a) b (PostT.mono x p)
  | exc c d m1 => rw [h] at p; exact p
  | stuck => rw [h] at p; exact p
theorem tE_bindA {f : EF} {k : D → Mu → R (List D)} {Q : List V → Hp → Prop} {Q' : VK} (sim : SimE K C F ro e m s H) (p : PostA K C F ro W s Q ((f e m).bind k))
    (hk : ∀ x H1 F1 ro1 m1 d, Ext F ro F1 ro1 → SimE K C F1 ro1 e m1 s H1 → Rep K C F1 ro1 x d → PostA K C F1 ro1 W s Q (k d m1) → Q' x H1) : tE K C W f s H Q' := by
  refine ⟨F, ro, e, m, sim, ?_⟩
  cases h : f e m with
  | ok d m1 =>
    rw [h] at p
    exact fun v H' F' ro' x a b => hk v H' F' ro' m1 d x (sim.mk' x a) b (PostA.mono x p)
  | exc c d m1 => rw [h] at p; exact p
  | stuck => rw [h] at p; exact p
theorem tT_bind {f : TF} {k : Bool → Mu → R D} {Q' : Bool → Hp → Prop} (sim : SimE K C F ro e m s H) (p : Post K C F ro W s Q ((f e m).bind k))
    (hk : ∀ x H1 F1 ro1 m1, Ext F ro F1 ro1 → SimE K C F1 ro1 e m1 s H1 → Post K C F1 ro1 W s Q (k x m1) → Q' x H1) : tT K C W f s H Q' := by
  refine ⟨F, ro, e, m, sim, ?_⟩
  cases h : f e m with
  | ok d m1 =>
    rw [h] at p
    exact fun H' F' ro' x a => hk d H' F' ro' m1 x (sim.mk' x a) (Post.mono x p)
  | exc c d m1 => rw [h] at p; exact p
  | stuck => rw [h] at p; exact p
theorem tT_bindT {f : TF} {k : Bool → Mu → R Bool} {Q Q' : Bool → Hp → Prop} (sim : SimE K C F ro e m s H) (p : PostT K C F ro W s Q ((f e m).bind k))
    (hk : ∀ x H1 F1 ro1 m1, Ext F ro F1 ro1 → SimE K C F1 ro1 e m1 s H1 → PostT K C F1 ro1 W s Q (k x m1) → Q' x H1) : tT K C W f s H Q' := by
  refine ⟨F, ro, e, m, sim, ?_⟩
  cases h : f e m with
  | ok d m1 =>
    rw [h] at p
    exact fun H' F' ro' x a => hk d H' F' ro' m1 x (sim.mk' x a) (PostT.mono x p)
  | exc c d m1 => rw [h] at p; exact p
  | stuck => rw [h] at p; exact p
theorem tA_bind {f : AF} {k : List D → Mu → R D} {Q' : List V → Hp → Prop} (sim : SimE K C F ro e m s H) (p : Post K C F ro W s Q ((f e m).bind k))
    (hk : ∀ x H1 F1 ro1 m1 d, Ext F ro F1 ro1 → SimE K C F1 ro1 e m1 s H1 → Reps K C F1 ro1 x d → Post K C F1 ro1 W s Q (k d m1) → Q' x H1) : tA K C W f s H Q' := by
  refine ⟨F, ro, e, m, sim, ?_⟩
  cases h : f e m with
  | ok d m1 =>
    rw [h] at p
    exact fun v H' F' ro' x a b => hk v H' F' ro' m1 d x (sim.mk' x a) b (Post.mono x p)
  | exc c d m1 => rw [h] at p; exact p
  | stuck => rw [h] at p; exact p
theorem tA_bindA {f : AF} {k : List D → Mu → R (List D)} {Q Q' : List V → Hp → Prop} (sim : SimE K C F ro e m s H) (p : PostA K C F ro W s Q ((f e m).bind k))
    (hk : ∀ x H1 F1 ro1 m1 d, Ext F ro F1 ro1 → SimE K C F1 ro1 e m1 s H1 → Reps K C F1 ro1 x d → PostA K C F1 ro1 W s Q (k d m1) → Q' x H1) : tA K C W f s H Q' := by
  refine ⟨F, ro, e, m, sim, ?_⟩
  cases h : f e m with
  | ok d m1 =>
    rw [h] at p
    exact fun v H' F' ro' x a b => hk v H' F' ro' m1 d x (sim.mk' x a) b (PostA.mono x p)
  | exc c d m1 => rw [h] at p; exact p
  | stuck => rw [h] at p; exact p
end

/-! ### a weaker reading -/
section
variable {X : Cx} {ex : Expr} {es : List Expr} {st : Stmt} {sts : List Stmt}
theorem PE.im {t t' : TE} (h : PE X ex t) (i : ∀ s H Q, t' s H Q → t s H Q) : PE X ex t' := ⟨fun p s σ H Q I q => h.run p s σ H Q I (i _ _ _ q)⟩
theorem PT.im {t t' : TT} (h : PT X ex t) (i : ∀ s H Q, t' s H Q → t s H Q) : PT X ex t' := ⟨fun p s σ H Q I q => h.run p s σ H Q I (i _ _ _ q)⟩
theorem PW.im {t t' : TT} (h : PW X ex t) (i : ∀ s H Q, t' s H Q → t s H Q) : PW X ex t' := ⟨fun w p s σ H Q I q => h.run w p s σ H Q I (i _ _ _ q)⟩
theorem PA.im {t t' : TA} (h : PA X es t) (i : ∀ s H Q, t' s H Q → t s H Q) : PA X es t' := ⟨fun z p s σ H Q I q => h.run z p s σ H Q I (i _ _ _ q)⟩
theorem PS.im {t t' : TS} (h : PS X st t) (i : ∀ D s H, t' D s H → t D s H) : PS X st t' := ⟨fun p s σ H Q I q => h.run p s σ H Q I (i _ _ _ q)⟩
theorem PSs.im {t t' : TS} (h : PSs X sts t) (i : ∀ D s H, t' D s H → t D s H) : PSs X sts t' := ⟨fun p s σ H Q I q => h.run p s σ H Q I (i _ _ _ q)⟩
end

/-! ### the heap changes -/
section
variable {K : PySem.W.Frag} {C : Nat → Addr} {F F' : Hp} {ro ro' : List Addr} {m m' : Mu} {H H' : Hp}
theorem SimH.fnone (h : SimH K C F ro m H) {p : Addr} (hp : H p = none) : F p = none := by
  cases q : F p with
  | none => rfl
  | some o =>
    rcases h.sub p o q with e | ⟨_, ob, e⟩ <;> (rw [hp] at e; cases e)
theorem SimH.rofree (h : SimH K C F ro m H) {p : Addr} (hp : H p = none) : p ∉ ro := fun hm => by
  obtain ⟨i, hi⟩ := List.getElem?_of_mem hm
  have hlt : i < m.length := by rw [← h.len]; exact (List.getElem?_eq_some_iff.mp hi).1
  obtain ⟨a, u, h1, h2, _⟩ := h.live i _ (List.getElem?_eq_getElem hlt)
  rw [hi] at h1; cases h1
  rw [hp] at h2; cases h2
/-- a new object that never changes -/
theorem SimH.newF (h : SimH K C F ro m H) {p : Addr} {o : HO} (hp : H p = none) : SimH K C (upd F p o) ro m (upd H p o) ∧ Ext F ro (upd F p o) ro := by
  have hF := h.fnone hp
  have x : Ext F ro (upd F p o) ro := ⟨fun b u e => by rw [upd_ne (ne_of_none e hF)]; exact e, [], by simp⟩
  refine ⟨⟨fun a u e => ?_, h.len, fun i u e => ?_, h.dis⟩, x⟩
  · by_cases ha : a = p
    · subst ha
      rw [upd_same] at e ⊢
      exact .inl e
    · rw [upd_ne ha] at e ⊢
      exact h.sub a u e
  · obtain ⟨a, v, h1, h2, h3, h4⟩ := h.live i u e
    have ha : a ≠ p := fun z => h.rofree hp (z ▸ List.mem_of_getElem? h1)
    exact ⟨a, v, h1, by rw [upd_ne ha]; exact h2, by rw [upd_ne ha]; exact h3, h4.mono x⟩
/-- a new object that may change -/
theorem SimH.newM (h : SimH K C F ro m H) {p : Addr} {o : HO} {u : MO} (hp : H p = none) (r : RepM K C F ro o u) : SimH K C F (ro ++ [p]) (m ++ [u]) (upd H p o) ∧ Ext F ro F (ro ++ [p]) := by
  have hF := h.fnone hp
  have x : Ext F ro F (ro ++ [p]) := ⟨fun b u e => e, [p], rfl⟩
  refine ⟨⟨fun a u e => ?_, by simp [h.len], fun i u' e => ?_, ?_⟩, x⟩
  · have ha : a ≠ p := ne_of_none e hF
    rw [upd_ne ha]; exact h.sub a u e
  · by_cases hi : i < m.length
    · rw [List.getElem?_append_left hi] at e
      obtain ⟨a, v, h1, h2, h3, h4⟩ := h.live i u' e
      have ha : a ≠ p := fun z => h.rofree hp (z ▸ List.mem_of_getElem? h1)
      exact ⟨a, v, x.at h1, by rw [upd_ne ha]; exact h2, h3, h4.mono x⟩
    · have hi2 : i = m.length := by
        have := (List.getElem?_eq_some_iff.mp e).1
        simp at this; omega
      subst hi2
      rw [List.getElem?_append_right (Nat.le_refl _), Nat.sub_self] at e
      cases e
      refine ⟨p, o, ?_, upd_same, hF, r.mono x⟩
      rw [← h.len, List.getElem?_append_right (Nat.le_refl _), Nat.sub_self]; rfl
  · rw [List.nodup_append]
    refine ⟨h.dis, by simp, fun a ha b hb => ?_⟩
    have : b = p := by simpa using hb
    subst this
    exact fun z => h.rofree hp (z ▸ ha)
/-- an object of the store is written -/
theorem SimH.write (h : SimH K C F ro m H) {i : Nat} {a : Addr} {o : HO} {u : MO} (hi : ro[i]? = some a) (r : RepM K C F ro o u) : SimH K C F ro (m.set i u) (upd H a o) := by
  have hlt : i < m.length := by rw [← h.len]; exact (List.getElem?_eq_some_iff.mp hi).1
  obtain ⟨a', _, e1, e2, e3, _⟩ := h.live i _ (List.getElem?_eq_getElem hlt)
  rw [hi] at e1; cases e1
  refine ⟨fun b v e => ?_, by rw [List.length_set]; exact h.len, fun j v e => ?_, h.dis⟩
  · have hb : b ≠ a := ne_of_none e e3
    rw [upd_ne hb]; exact h.sub b v e
  · by_cases hj : i = j
    · subst hj
      rw [List.getElem?_set_self hlt] at e
      cases e
      exact ⟨a, o, hi, upd_same, e3, r⟩
    · rw [List.getElem?_set_ne hj] at e
      obtain ⟨b, v', h1, h2, h3, h4⟩ := h.live j v e
      have hb : b ≠ a := fun z => by
        subst z
        exact hj (nd_ix h.dis hi h1)
      exact ⟨b, v', h1, by rw [upd_ne hb]; exact h2, h3, h4⟩
end
end SL
namespace SL
open PySem PySem.Spec PyProof.Rows L2

/-! ### views -/
def listOf (m : Mu) : D → Option (List D)
  | .lst xs => some xs
  | .loc i => match m[i]? with
    | some (.lst xs) => some xs
    | _ => none
  | _ => none
def seqOf (m : Mu) : D → Option (List D)
  | .lst xs => some xs
  | .tup xs => some xs
  | .scr ns => some (ns.map D.int)
  | .loc i => match m[i]? with
    | some (.lst xs) => some xs
    | _ => none
  | _ => none
theorem seqOf_of {m : Mu} {d : D} {xs : List D} (h : listOf m d = some xs) : seqOf m d = some xs := by
  cases d <;> simp_all [listOf, seqOf]
def insOf (m : Mu) : D → Option (Nat × List (Str × D))
  | .ins c fs => some (c, fs)
  | .loc i => match m[i]? with
    | some (.ins c fs) => some (c, fs)
    | _ => none
  | _ => none
def dctOf (m : Mu) : D → Option (List (List Key × D))
  | .dct ks => some ks
  | .loc i => match m[i]? with
    | some (.dct ks) => some ks
    | _ => none
  | _ => none
def dckOf (m : Mu) : D → Option (List (Key × D))
  | .dck ks => some ks
  | .loc i => match m[i]? with
    | some (.dck ks) => some ks
    | _ => none
  | _ => none
section
variable {K : PySem.W.Frag} {C : Nat → Addr} {F : Hp} {ro : List Addr} {m : Mu} {H : Hp} {x : V} {d : D}
theorem SimH.exact (h : SimH K C F ro m H) {a : Addr} {o : HO} (e : F a = some o) (nd : isDict o = false) : H a = some o := by
  rcases h.sub a o e with q | ⟨q, _⟩
  · exact q
  · rw [nd] at q; cases q
theorem SimH.at (h : SimH K C F ro m H) {i : Nat} {a : Addr} {o : MO} (hi : ro[i]? = some a) (e : m[i]? = some o) : ∃ u, H a = some u ∧ F a = none ∧ RepM K C F ro u o := by
  obtain ⟨a', u, h1, h2, h3, h4⟩ := h.live i o e
  rw [hi] at h1; cases h1
  exact ⟨u, h2, h3, h4⟩
theorem SimH.sqt (h : SimH K C F ro m H) {a : Addr} {xs : List V} (q : SqT K F a xs) : SqT K H a xs := by
  rcases q with (q | ⟨o, q⟩) | q
  · exact .inl (.inl (h.exact q rfl))
  · exact .inl (.inr ⟨o, h.exact q rfl⟩)
  · exact .inr q
theorem SimH.sql (h : SimH K C F ro m H) {a : Addr} {xs : List V} (q : SqL K F a xs) : SqL K H a xs := by
  rcases q with (q | ⟨o, q⟩) | q
  · exact .inl (.inl (h.exact q rfl))
  · exact .inl (.inr ⟨o, h.exact q rfl⟩)
  · exact .inr q
theorem listOf_loc {i : Nat} {ds : List D} (h : listOf m (.loc i) = some ds) : m[i]? = some (.lst ds) := by
  have h' : (match m[i]? with | some (.lst xs) => some xs | _ => none) = some ds := h
  split at h'
  · rename_i xs hm; cases h'; exact hm
  · cases h'
theorem seqOf_loc {i : Nat} {ds : List D} (h : seqOf m (.loc i) = some ds) : m[i]? = some (.lst ds) := by
  have h' : (match m[i]? with | some (.lst xs) => some xs | _ => none) = some ds := h
  split at h'
  · rename_i xs hm; cases h'; exact hm
  · cases h'
theorem insOf_loc {i c : Nat} {fs : List (Str × D)} (h : insOf m (.loc i) = some (c, fs)) : m[i]? = some (.ins c fs) := by
  have h' : (match m[i]? with | some (.ins c fs) => some (c, fs) | _ => none) = some (c, fs) := h
  split at h'
  · rename_i c' fs' hm; cases h'; exact hm
  · cases h'
theorem dctOf_loc {i : Nat} {ks : List (List Key × D)} (h : dctOf m (.loc i) = some ks) : m[i]? = some (.dct ks) := by
  have h' : (match m[i]? with | some (.dct xs) => some xs | _ => none) = some ks := h
  split at h'
  · rename_i xs hm; cases h'; exact hm
  · cases h'
theorem dckOf_loc {i : Nat} {ks : List (Key × D)} (h : dckOf m (.loc i) = some ks) : m[i]? = some (.dck ks) := by
  have h' : (match m[i]? with | some (.dck xs) => some xs | _ => none) = some ks := h
  split at h'
  · rename_i xs hm; cases h'; exact hm
  · cases h'
theorem listOf_rep (h : SimH K C F ro m H) (r : Rep K C F ro x d) {ds : List D} (e : listOf m d = some ds) : ∃ a vs, x = .ref a ∧ H a = some (.lst vs) ∧ Reps K C F ro vs ds := by
  cases r with
  | lst q r => cases e; exact ⟨_, _, rfl, h.exact q rfl, r⟩
  | @loc a i q =>
    obtain ⟨u, h1, h2, h3⟩ := h.at q (listOf_loc e)
    cases h3 with
    | lst r => exact ⟨_, _, rfl, h1, r⟩
  | _ => cases e
theorem seqOf_rep (h : SimH K C F ro m H) (r : Rep K C F ro x d) {ds : List D} (e : seqOf m d = some ds) : ∃ a vs, x = .ref a ∧ (SqL K H a vs ∨ SqT K H a vs) ∧ Reps K C F ro vs ds := by
  cases r with
  | lst q r => cases e; exact ⟨_, _, rfl, .inl (.of (h.exact q rfl)), r⟩
  | tup q r => cases e; exact ⟨_, _, rfl, .inr (.of (h.exact q rfl)), r⟩
  | scr q => cases e; exact ⟨_, _, rfl, .inl (h.sql q), .ofInts _⟩
  | @loc a i q =>
    obtain ⟨u, h1, h2, h3⟩ := h.at q (seqOf_loc e)
    cases h3 with
    | lst r => exact ⟨_, _, rfl, .inl (.of h1), r⟩
  | _ => cases e
theorem insOf_rep (h : SimH K C F ro m H) (r : Rep K C F ro x d) {c : Nat} {fs : List (Str × D)} (e : insOf m d = some (c, fs)) : ∃ a dx vfs, x = .ref a ∧ H a = some (.ins (C c) dx vfs) ∧ RepF K C F ro vfs fs := by
  cases r with
  | ins q r => cases e; exact ⟨_, _, _, rfl, h.exact q rfl, r⟩
  | @loc a i q =>
    obtain ⟨u, h1, h2, h3⟩ := h.at q (insOf_loc e)
    cases h3 with
    | ins r => exact ⟨_, _, _, rfl, h1, r⟩
  | _ => cases e
theorem RepF.look {vfs : List (Str × V)} {fs : List (Str × D)} (r : RepF K C F ro vfs fs) : ∀ {f : Str} {d : D}, fs.lookup f = some d → ∃ v, vfs.lookup f = some v ∧ Rep K C F ro v d := by
  induction fs generalizing vfs with
  | nil => intro f d e; cases e
  | cons p q ih =>
    intro f d e
    cases r with
    | @cons k v d' vs ds h t =>
      rw [List.lookup_cons] at e ⊢
      cases hb : f == k with
      | true => rw [hb] at e; cases e; exact ⟨v, rfl, h⟩
      | false => rw [hb] at e; exact ih t e
theorem RepF.none_ {vfs : List (Str × V)} {fs : List (Str × D)} (r : RepF K C F ro vfs fs) : ∀ {f : Str}, fs.lookup f = none → vfs.lookup f = none := by
  induction fs generalizing vfs with
  | nil => intro f e; cases r; rfl
  | cons p q ih =>
    intro f e
    cases r with
    | @cons k v d' vs ds h t =>
      rw [List.lookup_cons] at e ⊢
      cases hb : f == k with
      | true => rw [hb] at e; cases e
      | false => rw [hb] at e; exact ih t e
theorem RepF.length {vfs : List (Str × V)} {fs : List (Str × D)} (r : RepF K C F ro vfs fs) : vfs.length = fs.length := by
  induction fs generalizing vfs with
  | nil => cases r; rfl
  | cons p q ih => cases r with | cons h t => exact congrArg (· + 1) (ih t)
def putD (f : Str) (v : D) : List (Str × D) → List (Str × D)
  | [] => [(f, v)]
  | (g, x) :: r => if g = f then (g, v) :: r else (g, x) :: putD f v r
theorem RepF.put {f : Str} {v : V} {d : D} (h : Rep K C F ro v d) {vfs : List (Str × V)} {fs : List (Str × D)} (r : RepF K C F ro vfs fs) : RepF K C F ro (putF f v vfs) (putD f d fs) := by
  induction fs generalizing vfs with
  | nil => cases r; exact .cons h .nil
  | cons p q ih =>
    cases r with
    | @cons k v d' vs ds h' t =>
      unfold putF putD
      by_cases e : k = f
      · rw [if_pos e, if_pos e]; exact .cons h t
      · rw [if_neg e, if_neg e]; exact .cons h' (ih t)
end

/-! ### ends of a part -/
section
variable {K : PySem.W.Frag} {C : Nat → Addr} {F : Hp} {ro : List Addr} {m : Mu} {H : Hp} {W : WX} {s : L2.St} {Q : VK} {x : V} {d : D}
theorem Post.val (p : Post K C F ro W s Q (.ok d m)) (h : SimH K C F ro m H) (r : Rep K C F ro x d) : Q x H := p x H F ro .refl h r
/-- a new list: one that stays, or one of the store -/
def mkL (al : Bool) (xs : List D) (m : Mu) : R D := if al then .ok (.loc m.length) (m ++ [.lst xs]) else .ok (.lst xs) m
theorem Post.newL {al : Bool} {ds : List D} {vs : List V} (p : Post K C F ro W s Q (mkL al ds m)) (h : SimH K C F ro m H) (r : Reps K C F ro vs ds) {l : Addr} (hl : H l = none) : Q (.ref l) (upd H l (.lst vs)) := by
  cases al with
  | true =>
    obtain ⟨h1, x1⟩ := h.newM hl (.lst r)
    exact p _ _ _ _ x1 h1 (.loc (by rw [← h.len, List.getElem?_append_right (Nat.le_refl _), Nat.sub_self]; rfl))
  | false =>
    obtain ⟨h1, x1⟩ := h.newF (o := .lst vs) hl
    exact p _ _ _ _ x1 h1 (.lst upd_same (r.mono x1))
theorem Post.newT {ds : List D} {vs : List V} (p : Post K C F ro W s Q (.ok (.tup ds) m)) (h : SimH K C F ro m H) (r : Reps K C F ro vs ds) {l : Addr} (hl : H l = none) : Q (.ref l) (upd H l (.tup vs)) := by
  obtain ⟨h1, x1⟩ := h.newF (o := .tup vs) hl
  exact p _ _ _ _ x1 h1 (.tup upd_same (r.mono x1))
end

/-! ### names, constants -/
section
variable {X : Cx} {C : Nat → Addr} {W : WX} {ex a b c : Expr} {es : List Expr} {pos : Pos}
def mVar (i : Nat) : EF := fun e m => match e[i]? with
  | some (some d) => .ok d m
  | _ => .stuck
theorem se_var {i : Nat} (h : PE X ex (tVar i)) : PE X ex (tE X.K C W (mVar i)) := PE.im h fun s H Q q => by
  obtain ⟨F, ro, e, m, sim, p⟩ := q
  unfold mVar at p
  split at p
  · rename_i d he
    obtain ⟨v, h1, h2⟩ := sim.sl i d he
    exact ⟨v, h1, p.val sim.h h2⟩
  · exact p.elim
def mC (d : D) : EF := fun _ m => .ok d m
theorem se_c {v : V} {d : D} (h : PE X ex (tC v)) (r : ∀ F ro, Rep X.K C F ro v d) : PE X ex (tE X.K C W (mC d)) := PE.im h fun s H Q q => by
  obtain ⟨F, ro, e, m, sim, p⟩ := q
  exact p.val sim.h (r F ro)
theorem se_int {i : Int} {j : Nat} : PE X (.Constant (.int i) j pos) (tE X.K C W (mC (.int i))) := se_c pe_int fun _ _ => .int i
theorem se_bl {i : Bool} {j : Nat} : PE X (.Constant (.bool i) j pos) (tE X.K C W (mC (.bl i))) := se_c pe_bl fun _ _ => .bl i
theorem se_non {j : Nat} : PE X (.Constant .none j pos) (tE X.K C W (mC .non)) := se_c pe_non fun _ _ => .non
theorem se_str {x : Str} {t : Txt} {j : Nat} (e : x = ⟨t.toArray⟩) : PE X (.Constant (.str x) j pos) (tE X.K C W (mC (.str t))) := se_c (v := .str x) pe_str fun _ _ => by rw [e]; exact .str t

/-! ### operators -/
def mBin (g : D → D → Mu → R D) (fa fb : EF) : EF := fun e m => (fa e m).bind fun x m1 => (fb e m1).bind fun y m2 => g x y m2
def OpOk (X : Cx) (C : Nat → Addr) (r : R2) (g : D → D → Mu → R D) : Prop := ∀ (F : Hp) (ro : List Addr) (m : Mu) (H : Hp) (x y : V) (dx dy : D) (W : WX) (s : L2.St) (Q : VK),
  SimH X.K C F ro m H → Rep X.K C F ro x dx → Rep X.K C F ro y dy → Post X.K C F ro W s Q (g dx dy m) → r x y H Q
variable {fa fb fc : EF} {ta tb : TF} {g : D → D → Mu → R D} {r : R2}
theorem op_read (hd : OpOk X C r g) {s : L2.St} {H : Hp} {Q : VK} (q : tE X.K C W (mBin g fa fb) s H Q) : tOp r (tE X.K C W fa) (tE X.K C W fb) s H Q := by
  obtain ⟨F, ro, e, m, sim, p⟩ := q
  refine tE_bind sim p fun x H1 F1 ro1 m1 dx x1 sim1 r1 p1 => ?_
  refine tE_bind sim1 p1 fun y H2 F2 ro2 m2 dy x2 sim2 r2 p2 => ?_
  exact hd _ _ _ _ _ _ _ _ _ _ _ sim2.h (r1.mono x2) r2 p2
theorem se_op {op : Operator} (ho : OpR X (binaryOp op) r) (hd : OpOk X C r g) (ha : PE X a (tE X.K C W fa)) (hb : PE X b (tE X.K C W fb)) : PE X (.BinOp a op b pos) (tE X.K C W (mBin g fa fb)) :=
  PE.im (pe_op ho ha hb) fun s H Q q => op_read hd q
theorem se_cmp {op : CmpOp} (ho : OpR X (compareOp op) r) (hd : OpOk X C r g) (ha : PE X a (tE X.K C W fa)) (hb : PE X b (tE X.K C W fb)) (hm : behindInMarks op b = false) : PE X (.Compare a [op] [b] pos) (tE X.K C W (mBin g fa fb)) :=
  PE.im (pe_cmpR ho ha hb hm) fun s H Q q => op_read hd q
/-- a value that is a truth value, as a test -/
def mTest (f : EF) : TF := fun e m => (f e m).bind fun x m1 => match x with
  | .bl b => .ok b m1
  | _ => .stuck
theorem test_read {t : TE} {f : EF} {s : L2.St} {H : Hp} {Q : Bool → Hp → Prop} (h : ∀ s H Q, tE X.K C W f s H Q → t s H Q) (q : tT X.K C W (mTest f) s H Q) : t s H fun x H' => ∃ k, x = .bl k ∧ Q k H' := by
  obtain ⟨F, ro, e, m, sim, p⟩ := q
  refine h s H _ (tE_bindT sim p fun x H1 F1 ro1 m1 dx x1 sim1 r1 p1 => ?_)
  cases r1 with
  | bl b => exact ⟨b, rfl, p1 H1 F1 ro1 .refl sim1.h⟩
  | _ => exact p1.elim
theorem st_cmp {op : CmpOp} (ho : OpR X (compareOp op) r) (hd : OpOk X C r g) (ha : PE X a (tE X.K C W fa)) (hb : PE X b (tE X.K C W fb)) (hm : behindInMarks op b = false) : PT X (.Compare a [op] [b] pos) (tT X.K C W (mTest (mBin g fa fb))) :=
  PT.im (pt_cmpR ho ha hb hm) fun s H Q q => test_read (t := tOp r (tE X.K C W fa) (tE X.K C W fb)) (fun s H Q q => op_read hd q) q
theorem st_val {f : EF} (h : PE X ex (tE X.K C W f)) (he : ∀ whole, isTrue ex X.env whole = (do let v ← whole; standAt ex.pos; holding [v] (truthy v)) := by intro _; rfl) : PT X ex (tT X.K C W (mTest f)) :=
  PT.im (pt_val h he) fun s H Q q => test_read (t := tE X.K C W f) (fun s H Q q => q) q

/-! ### and, or, not, if -/
def mAnd (t u : TF) : TF := fun e m => (t e m).bind fun c m1 => if c = true then u e m1 else .ok false m1
def mOr (t u : TF) : TF := fun e m => (t e m).bind fun c m1 => if c = true then .ok true m1 else u e m1
def mNot (t : TF) : TF := fun e m => (t e m).bind fun c m1 => .ok (!c) m1
theorem sw_and1 (ha : PT X a (tT X.K C W ta)) : PW X (.BoolOp .And [a] pos) (tT X.K C W ta) := pw_and1 ha
theorem sw_or1 (ha : PT X a (tT X.K C W ta)) : PW X (.BoolOp .Or [a] pos) (tT X.K C W ta) := pw_or1 ha
theorem sw_and {rest : List Expr} (ha : PT X a (tT X.K C W ta)) (hb : PW X (.BoolOp .And (b :: rest) pos) (tT X.K C W tb)) : PW X (.BoolOp .And (a :: b :: rest) pos) (tT X.K C W (mAnd ta tb)) :=
  PW.im (pw_and ha hb) fun s H Q ⟨F, ro, e, m, sim, p⟩ => tT_bindT sim p fun c H1 F1 ro1 m1 x1 sim1 p1 => by
    cases c with
    | true => exact ⟨_, _, _, _, sim1, p1⟩
    | false => exact p1 _ _ _ .refl sim1.h
theorem sw_or {rest : List Expr} (ha : PT X a (tT X.K C W ta)) (hb : PW X (.BoolOp .Or (b :: rest) pos) (tT X.K C W tb)) : PW X (.BoolOp .Or (a :: b :: rest) pos) (tT X.K C W (mOr ta tb)) :=
  PW.im (pw_or ha hb) fun s H Q ⟨F, ro, e, m, sim, p⟩ => tT_bindT sim p fun c H1 F1 ro1 m1 x1 sim1 p1 => by
    cases c with
    | true => exact p1 _ _ _ .refl sim1.h
    | false => exact ⟨_, _, _, _, sim1, p1⟩
theorem st_not (ha : PT X a (tT X.K C W ta)) : PT X (.UnaryOp .Not a pos) (tT X.K C W (mNot ta)) :=
  PT.im (pt_not ha) fun s H Q ⟨F, ro, e, m, sim, p⟩ => tT_bindT sim p fun c H1 F1 ro1 m1 x1 sim1 p1 => p1 _ _ _ .refl sim1.h
/-- as values -/
def mBl (f : EF) (k : Bool → Mu → R D) : EF := fun e m => (f e m).bind fun x m1 => match x with
  | .bl b => k b m1
  | _ => .stuck
def mAndV (fa fb : EF) : EF := fun e m => (fa e m).bind fun x m1 => match x with
  | .bl b => if b = true then fb e m1 else .ok (.bl false) m1
  | _ => .stuck
def mOrV (fa fb : EF) : EF := fun e m => (fa e m).bind fun x m1 => match x with
  | .bl b => if b = true then .ok (.bl true) m1 else fb e m1
  | _ => .stuck
def mNotV (fa : EF) : EF := fun e m => (fa e m).bind fun x m1 => match x with
  | .bl b => .ok (.bl (!b)) m1
  | _ => .stuck
theorem se_one {op} {f : EF} (h : PE X a (tE X.K C W f)) : PE X (.BoolOp op [a] pos) (tE X.K C W f) := pe_one h
theorem se_and {rest : List Expr} (ha : PE X a (tE X.K C W fa)) (hb : PE X (.BoolOp .And (b :: rest) pos) (tE X.K C W fb)) : PE X (.BoolOp .And (a :: b :: rest) pos) (tE X.K C W (mAndV fa fb)) :=
  PE.im (pe_and ha hb) fun s H Q ⟨F, ro, e, m, sim, p⟩ => tE_bind sim p fun x H1 F1 ro1 m1 d x1 sim1 r1 p1 => by
    cases r1 with
    | bl b =>
      refine ⟨b, rfl, ?_⟩
      cases b with
      | true => exact ⟨_, _, _, _, sim1, p1⟩
      | false => exact p1.val sim1.h (.bl false)
    | _ => exact p1.elim
theorem se_or {rest : List Expr} (ha : PE X a (tE X.K C W fa)) (hb : PE X (.BoolOp .Or (b :: rest) pos) (tE X.K C W fb)) : PE X (.BoolOp .Or (a :: b :: rest) pos) (tE X.K C W (mOrV fa fb)) :=
  PE.im (pe_or ha hb) fun s H Q ⟨F, ro, e, m, sim, p⟩ => tE_bind sim p fun x H1 F1 ro1 m1 d x1 sim1 r1 p1 => by
    cases r1 with
    | bl b =>
      refine ⟨b, rfl, ?_⟩
      cases b with
      | true => exact p1.val sim1.h (.bl true)
      | false => exact ⟨_, _, _, _, sim1, p1⟩
    | _ => exact p1.elim
theorem se_not (ha : PE X a (tE X.K C W fa)) : PE X (.UnaryOp .Not a pos) (tE X.K C W (mNotV fa)) :=
  PE.im (pe_not ha) fun s H Q ⟨F, ro, e, m, sim, p⟩ => tE_bind sim p fun x H1 F1 ro1 m1 d x1 sim1 r1 p1 => by
    cases r1 with
    | bl b => exact ⟨b, rfl, p1.val sim1.h (.bl _)⟩
    | _ => exact p1.elim
def mIfE (t : TF) (fa fb : EF) : EF := fun e m => (t e m).bind fun c m1 => if c = true then fa e m1 else fb e m1
theorem se_if (hc : PT X c (tT X.K C W ta)) (ha : PE X a (tE X.K C W fa)) (hb : PE X b (tE X.K C W fb)) : PE X (.IfExp c a b pos) (tE X.K C W (mIfE ta fa fb)) :=
  PE.im (pe_ifExp hc ha hb) fun s H Q ⟨F, ro, e, m, sim, p⟩ => tT_bind sim p fun c H1 F1 ro1 m1 x1 sim1 p1 => by
    cases c with
    | true => exact ⟨_, _, _, _, sim1, p1⟩
    | false => exact ⟨_, _, _, _, sim1, p1⟩

/-! ### arguments, displays -/
def mNil : AF := fun _ m => .ok [] m
def mCons (f : EF) (g : AF) : AF := fun e m => (f e m).bind fun x m1 => (g e m1).bind fun xs m2 => .ok (x :: xs) m2
theorem sa_nil : PA X [] (tA X.K C W mNil) := PA.im pa_nil fun s H Q ⟨F, ro, e, m, sim, p⟩ => p _ _ _ _ .refl sim.h .nil
theorem sa_cons {f : EF} {h : AF} (ha : PE X ex (tE X.K C W f)) (hr : PA X es (tA X.K C W h)) (hs : starEach (ex :: es) X.env = (false, eval ex X.env) :: starEach es X.env := by rfl) : PA X (ex :: es) (tA X.K C W (mCons f h)) :=
  PA.im (pa_cons ha hr hs) fun s H Q ⟨F, ro, e, m, sim, p⟩ => tE_bindA sim p fun x H1 F1 ro1 m1 d x1 sim1 r1 p1 => tA_bindA sim1 p1 fun xs H2 F2 ro2 m2 ds x2 sim2 r2 p2 => p2 _ _ _ _ .refl sim2.h (.cons (r1.mono x2) r2)
def mTup (h : AF) : EF := fun e m => (h e m).bind fun xs m1 => if xs.length ≤ 1000 then .ok (.tup xs) m1 else .stuck
def mLst (al : Bool) (h : AF) : EF := fun e m => (h e m).bind fun xs m1 => if xs.length ≤ 1000 then mkL al xs m1 else .stuck
theorem le_line {n : Nat} (h : n ≤ 1000) : n ≤ sizeLine := by rw [sizeLine_eq]; omega
theorem se_tup {j : Nat} {h : AF} (ha : PA X es (tA X.K C W h)) : PE X (.Tuple es j pos) (tE X.K C W (mTup h)) :=
  PE.im (pe_tup ha) fun s H Q ⟨F, ro, e, m, sim, p⟩ => tA_bind sim p fun xs H1 F1 ro1 m1 ds x1 sim1 r1 p1 => by
    split at p1
    · rename_i hl
      exact ⟨by rw [r1.length]; exact le_line hl, fun l hl => p1.newT sim1.h r1 hl⟩
    · exact p1.elim
theorem se_lst (al : Bool) {h : AF} (ha : PA X es (tA X.K C W h)) : PE X (.List es pos) (tE X.K C W (mLst al h)) :=
  PE.im (pe_lst ha) fun s H Q ⟨F, ro, e, m, sim, p⟩ => tA_bind sim p fun xs H1 F1 ro1 m1 ds x1 sim1 r1 p1 => by
    split at p1
    · rename_i hl
      exact ⟨by rw [r1.length]; exact le_line hl, fun l hl => p1.newL sim1.h r1 hl⟩
    · exact p1.elim
end
end SL
namespace SL
open PySem PySem.Spec PyProof.Rows L2

/-! ### statements -/
section
variable {X : Cx} {C : Nat → Addr} {W : WX} {ex a b c : Expr} {es : List Expr} {pos : Pos} {st : Stmt} {sts rest : List Stmt} {f g : SF} {fe fa fb : EF} {ft : TF}
def mNext : SF := fun e m => .nx e m
def mBrk : SF := fun e m => .bk e m
def mCnt : SF := fun e m => .ct e m
def mSeq (f g : SF) : SF := fun e m => match f e m with
  | .nx e' m' => g e' m'
  | r => r
theorem ss_nil : PSs X [] (tS X.K C W mNext) := PSs.im pss_nil fun Dd s H ⟨F, ro, e, m, sim, p⟩ => p _ _ _ _ .refl sim
theorem tS_bind {s : L2.St} {H : Hp} {Dd : Ends} {F : Hp} {ro : List Addr} {e : En} {m : Mu} (sim : SimE X.K C F ro e m s H) (p : PostS X.K C F ro W Dd (mSeq f g e m)) {nx : L2.St → Hp → Prop}
    (hk : ∀ s1 H1 F1 ro1 e1 m1, Ext F ro F1 ro1 → SimE X.K C F1 ro1 e1 m1 s1 H1 → PostS X.K C F1 ro1 W Dd (g e1 m1) → nx s1 H1) : tS X.K C W f { Dd with nx := nx } s H := by
  refine ⟨F, ro, e, m, sim, ?_⟩
  unfold mSeq at p
  cases h : f e m with
  | nx e' m' => rw [h] at p; exact fun s' H' F' ro' x a => hk s' H' F' ro' e' m' x a (PostS.mono x p)
  | ret d m => rw [h] at p; exact p
  | bk d m => rw [h] at p; exact p
  | ct d m => rw [h] at p; exact p
  | exc c d e m => rw [h] at p; exact p
  | stuck => rw [h] at p; exact p
theorem ss_cons (h1 : PS X st (tS X.K C W f)) (h2 : PSs X rest (tS X.K C W g)) : PSs X (st :: rest) (tS X.K C W (mSeq f g)) :=
  PSs.im (pss_cons h1 h2) fun Dd s H ⟨F, ro, e, m, sim, p⟩ => tS_bind sim p fun s1 H1 F1 ro1 e1 m1 x1 sim1 p1 => ⟨_, _, _, _, sim1, p1⟩
theorem ss_one (h1 : PS X st (tS X.K C W f)) : PSs X [st] (tS X.K C W f) := pss_one h1
theorem sS_pass : PS X (.Pass pos) (tS X.K C W mNext) := PS.im ps_pass fun Dd s H ⟨F, ro, e, m, sim, p⟩ => p _ _ _ _ .refl sim
theorem sS_break : PS X (.Break pos) (tS X.K C W mBrk) := PS.im ps_break fun Dd s H ⟨F, ro, e, m, sim, p⟩ => p _ _ _ _ .refl sim
theorem sS_cont : PS X (.Continue pos) (tS X.K C W mCnt) := PS.im ps_continue fun Dd s H ⟨F, ro, e, m, sim, p⟩ => p _ _ _ _ .refl sim
theorem sS_doc {x : Str} {j : Nat} {p q : Pos} : PS X (.Expr (.Constant (.str x) j p) q) (tS X.K C W mNext) := PS.im ps_doc fun Dd s H ⟨F, ro, e, m, sim, p⟩ => p _ _ _ _ .refl sim
/-- code that is not proved -/
def mOut : SF := fun _ _ => .stuck
theorem sS_out : PS X st (tS X.K C W mOut) := PS.im ps_never fun Dd s H ⟨F, ro, e, m, sim, p⟩ => p
theorem ss_out : PSs X sts (tS X.K C W mOut) := PSs.im pss_never fun Dd s H ⟨F, ro, e, m, sim, p⟩ => p
/-- an expression, then a statement's end -/
def R.toS (r : R D) (e : En) (k : D → Mu → RS) : RS := match r with
  | .ok d m => k d m
  | .exc c d m => .exc c d e m
  | .stuck => .stuck
theorem tE_toS {s : L2.St} {H : Hp} {Dd : Ends} {F : Hp} {ro : List Addr} {e : En} {m : Mu} {k : D → Mu → RS} {Q : VK} (sim : SimE X.K C F ro e m s H) (p : PostS X.K C F ro W Dd ((fe e m).toS e k))
    (hk : ∀ x H1 F1 ro1 m1 d, Ext F ro F1 ro1 → SimE X.K C F1 ro1 e m1 s H1 → Rep X.K C F1 ro1 x d → PostS X.K C F1 ro1 W Dd (k d m1) → Q x H1) : tE X.K C W fe s H Q := by
  refine ⟨F, ro, e, m, sim, ?_⟩
  cases h : fe e m with
  | ok d m1 => rw [h] at p; exact fun v H' F' ro' x a b => hk v H' F' ro' m1 d x (sim.mk' x a) b (PostS.mono x p)
  | exc c d m1 =>
    rw [h] at p
    exact fun dd v H' F' ro' x a b q => p dd v s H' F' ro' x (sim.mk' x a) b q
  | stuck => rw [h] at p; exact p.elim
def mDrop (f : EF) : SF := fun e m => (f e m).toS e fun _ m1 => .nx e m1
theorem sS_expr (he : PE X ex (tE X.K C W fe)) (hs : swapsWith ex none pos.line X.env = pure false := by rfl) : PS X (.Expr ex pos) (tS X.K C W (mDrop fe)) :=
  PS.im (ps_expr he hs) fun Dd s H ⟨F, ro, e, m, sim, p⟩ => tE_toS sim p fun x H1 F1 ro1 m1 d x1 sim1 r1 p1 => p1 _ _ _ _ .refl sim1
def mRet (f : EF) : SF := fun e m => (f e m).toS e fun d m1 => .ret d m1
theorem sS_ret (he : PE X ex (tE X.K C W fe)) : PS X (.Return (some ex) pos) (tS X.K C W (mRet fe)) :=
  PS.im (ps_ret he) fun Dd s H ⟨F, ro, e, m, sim, p⟩ => tE_toS sim p fun x H1 F1 ro1 m1 d x1 sim1 r1 p1 => p1 _ _ _ _ .refl sim1.h r1
def mRetN : SF := fun e m => .ret .non m
theorem sS_retN : PS X (.Return none pos) (tS X.K C W mRetN) :=
  PS.im ps_retN fun Dd s H ⟨F, ro, e, m, sim, p⟩ => p _ _ _ _ .refl sim.h .non
def mIf (t : TF) (f g : SF) : SF := fun e m => match t e m with
  | .ok c m1 => if c = true then f e m1 else g e m1
  | .exc c d m1 => .exc c d e m1
  | .stuck => .stuck
theorem sS_if (hc : PT X c (tT X.K C W ft)) (ha : PSs X sts (tS X.K C W f)) (hb : PSs X rest (tS X.K C W g)) : PS X (.If c sts rest pos) (tS X.K C W (mIf ft f g)) :=
  PS.im (ps_if hc ha hb) fun Dd s H ⟨F, ro, e, m, sim, p⟩ => by
    refine ⟨F, ro, e, m, sim, ?_⟩
    unfold mIf at p
    cases h : ft e m with
    | ok b m1 =>
      rw [h] at p
      refine fun H' F' ro' x a => ?_
      have p' := PostS.mono x p
      cases b with
      | true => exact ⟨_, _, _, _, sim.mk' x a, p'⟩
      | false => exact ⟨_, _, _, _, sim.mk' x a, p'⟩
    | exc c d m1 => rw [h] at p; exact fun dd v H' F' ro' x a b q => p dd v s H' F' ro' x (sim.mk' x a) b q
    | stuck => rw [h] at p; exact p

/-! ### targets -/
abbrev GF := D → En → Mu → RS
/-- a target's reading: nothing is raised there but what is told -/
def tG (K : PySem.W.Frag) (C : Nat → Addr) (g : GF) : TG := fun v s H Q => ∃ F ro e m d, SimE K C F ro e m s H ∧ Rep K C F ro v d ∧ match g d e m with
  | .nx e' m' => ∀ s' H' F' ro', Ext F ro F' ro' → SimE K C F' ro' e' m' s' H' → Q s' H'
  | _ => False
theorem PG.im {tg : Expr} {t t' : TG} (h : PG X tg t) (i : ∀ v s H Q, t' v s H Q → t v s H Q) : PG X tg t' := ⟨fun p s σ H v u Q I r q => h.run p s σ H v u Q I r (i _ _ _ _ q)⟩
def mGName (i : Nat) : GF := fun d e m => if i < e.length then .nx (e.set i (some d)) m else .stuck
theorem SimE.set {K : PySem.W.Frag} {F : Hp} {ro : List Addr} {e : En} {m : Mu} {s : L2.St} {H : Hp} (sim : SimE K C F ro e m s H) {v : V} {d : D} (r : Rep K C F ro v d) (i : Nat) : SimE K C F ro (e.set i (some d)) m (s.set i (some v)) H := by
  refine ⟨sim.h, by rw [List.length_set, List.length_set]; exact sim.len, fun j d' q => ?_⟩
  by_cases hj : i = j
  · subst hj
    by_cases hl : i < e.length
    · rw [List.getElem?_set_self hl] at q
      cases q
      exact ⟨v, List.getElem?_set_self (by rw [← sim.len]; exact hl), r⟩
    · rw [List.getElem?_eq_none (by simpa using hl)] at q; cases q
  · rw [List.getElem?_set_ne hj] at q ⊢
    exact sim.sl j d' q
theorem sg_name {i : Nat} {x : Str} (h : PG X (.Name x pos) (gName i)) : PG X (.Name x pos) (tG X.K C (mGName i)) :=
  PG.im h fun v s H Q ⟨F, ro, e, m, d, sim, r, p⟩ => by
    unfold mGName at p
    split at p
    · rename_i e' m' h1
      split at h1
      · cases h1
        exact p _ _ _ _ .refl (sim.set r i)
      · cases h1
    · exact p.elim
/-- targets of a tuple -/
def mGs : List GF → List D → En → Mu → RS
  | [], [], e, m => .nx e m
  | g :: gs, d :: ds, e, m => match g d e m with
    | .nx e' m' => mGs gs ds e' m'
    | _ => .stuck
  | _, _, _, _ => .stuck
def mGTup (gs : List GF) : GF := fun d e m => match d with
  | .tup ds => mGs gs ds e m
  | _ => .stuck
def tGs (K : PySem.W.Frag) (C : Nat → Addr) (gs : List GF) : TGs := fun vs s H Q => ∃ F ro e m ds, SimE K C F ro e m s H ∧ Reps K C F ro vs ds ∧ match mGs gs ds e m with
  | .nx e' m' => ∀ s' H' F' ro', Ext F ro F' ro' → SimE K C F' ro' e' m' s' H' → Q s' H'
  | _ => False
theorem PGs.im {tg : List Expr} {t t' : TGs} (h : PGs X tg t) (i : ∀ v s H Q, t' v s H Q → t v s H Q) : PGs X tg t' := ⟨fun p s σ H v u Q I r q => h.run p s σ H v u Q I r (i _ _ _ _ q)⟩
theorem sgs_nil : PGs X [] (tGs X.K C []) := PGs.im pgs_nil fun vs s H Q ⟨F, ro, e, m, ds, sim, r, p⟩ => by
  cases r with
  | nil => exact ⟨rfl, p _ _ _ _ .refl sim⟩
  | cons _ _ => exact p.elim
theorem sgs_cons {g : GF} {gs : List GF} (h1 : PG X ex (tG X.K C g)) (h2 : PGs X es (tGs X.K C gs)) (hs : (assignEach (ex :: es) X.env).map (·.2) = assign ex X.env :: (assignEach es X.env).map (·.2) := by rfl) : PGs X (ex :: es) (tGs X.K C (g :: gs)) :=
  PGs.im (pgs_cons h1 h2 hs) fun vs s H Q ⟨F, ro, e, m, ds, sim, r, p⟩ => by
    cases r with
    | nil => exact p.elim
    | @cons v d vs ds h t =>
      refine ⟨v, vs, rfl, F, ro, e, m, d, sim, h, ?_⟩
      have p' : match (match g d e m with | .nx e' m' => mGs gs ds e' m' | _ => .stuck) with
        | .nx e' m' => ∀ s' H' F' ro', Ext F ro F' ro' → SimE X.K C F' ro' e' m' s' H' → Q s' H'
        | _ => False := p
      cases h1 : g d e m with
      | nx e' m' =>
        rw [h1] at p'
        intro s1 H1 F1 ro1 x1 sim1
        refine ⟨F1, ro1, e', m', ds, sim1, t.mono x1, ?_⟩
        dsimp only at p'
        cases h2 : mGs gs ds e' m' with
        | nx e2 m2 => rw [h2] at p'; exact fun s' H' F' ro' x a => p' s' H' F' ro' (x1.trans x) a
        | _ => rw [h2] at p'; exact p'.elim
      | _ => rw [h1] at p'; exact p'.elim
theorem sg_tup {gs : List GF} {k n : Nat} (hc : X.calm = true) (h : PGs X es (tGs X.K C gs)) (hg : gs.length = n := by rfl)
    (hn : (assignEach es X.env).length = n := by rfl) (hst : (assignEach es X.env).findIdx? (·.1) = none := by rfl) : PG X (.Tuple es k pos) (tG X.K C (mGTup gs)) :=
  PG.im (pg_tup hc h hn hst) fun v s H Q ⟨F, ro, e, m, d, sim, r, p⟩ => by
    cases r with
    | @tup a vs ds q r =>
      have p' : match mGs gs ds e m with
        | .nx e' m' => ∀ s' H' F' ro', Ext F ro F' ro' → SimE X.K C F' ro' e' m' s' H' → Q s' H'
        | _ => False := p
      have hl : ∀ (gs : List GF) (ds : List D) (e : En) (m : Mu) (e' : En) (m' : Mu), mGs gs ds e m = .nx e' m' → gs.length = ds.length := by
        intro gs
        induction gs with
        | nil =>
          intro ds e m e' m' h
          cases ds with
          | nil => rfl
          | cons _ _ => cases h
        | cons g gs ih =>
          intro ds e m e' m' h
          cases ds with
          | nil => cases h
          | cons d ds =>
            unfold mGs at h
            split at h
            · exact congrArg (· + 1) (ih _ _ _ _ _ h)
            · cases h
      cases h1 : mGs gs ds e m with
      | nx e' m' =>
        refine ⟨a, vs, rfl, .of (sim.h.exact q rfl), by rw [r.length, ← hl _ _ _ _ _ _ h1, hg], F, ro, e, m, ds, sim, r, ?_⟩
        rw [h1] at p' ⊢
        exact p'
      | _ => rw [h1] at p'; exact p'.elim
    | _ => exact p.elim
/-- target = value -/
def mAsg (f : EF) (g : GF) : SF := fun e m => (f e m).toS e fun d m1 => match g d e m1 with
  | .nx e' m' => .nx e' m'
  | _ => .stuck
theorem asg_read {t : TG} {g : GF} (hg : ∀ v s H Q, tG X.K C g v s H Q → t v s H Q) {Dd : Ends} {s : L2.St} {H : Hp} (q : tS X.K C W (mAsg fe g) Dd s H) : tAsg (tE X.K C W fe) t Dd s H := by
  obtain ⟨F, ro, e, m, sim, p⟩ := q
  refine tE_toS sim p fun x H1 F1 ro1 m1 d x1 sim1 r1 p1 => hg _ _ _ _ ⟨F1, ro1, e, m1, d, sim1, r1, ?_⟩
  cases h : g d e m1 with
  | nx e' m' => rw [h] at p1; exact p1
  | _ => rw [h] at p1; exact p1.elim
theorem sS_asg {tg : Expr} {g : GF} (he : PE X ex (tE X.K C W fe)) (hg : PG X tg (tG X.K C g)) (hs : swapsWithSole [tg] ex pos.line X.env = pure false := by rfl) (hw : swappedStores [tg] ex X.env = pure none := by rfl)
    (h1 : (assignEach [tg] X.env).map (·.2) = [assign tg X.env] := by rfl) : PS X (.Assign [tg] ex pos) (tS X.K C W (mAsg fe g)) :=
  PS.im (ps_asg he hg hs hw h1) fun Dd s H q => asg_read (t := tG X.K C g) (fun _ _ _ _ q => q) q
theorem gname_read {i : Nat} : ∀ v s H Q, tG X.K C (mGName i) v s H Q → gName i v s H Q := fun v s H Q ⟨F, ro, e, m, d, sim, r, p⟩ => by
  unfold mGName at p
  split at p
  · rename_i e' m' h1
    split at h1
    · cases h1
      exact p _ _ _ _ .refl (sim.set r i)
    · cases h1
  · exact p.elim
theorem sS_set {i : Nat} {x : Str} {pos' : Pos} (hN : X.N.Nodup) (hi : X.N[i]? = some x) (hx : Loc X.env.scope x) (he : PE X ex (tE X.K C W fe)) (hs : swapsWith ex (some (.Name x pos')) pos.line X.env = pure false := by rfl) (hf : X.fn x = true ∨ X.env.scope.names.lookup x = some .local := by first | exact .inl rfl | exact .inr rfl | assumption) :
    PS X (.Assign [.Name x pos'] ex pos) (tS X.K C W (mAsg fe (mGName i))) :=
  PS.im (ps_set hN hi hx he hs hf) fun Dd s H q => asg_read gname_read q
/-- x op= e -/
def mAug (i : Nat) (g : D → D → Mu → R D) (f : EF) : SF := fun e m => match e[i]? with
  | some (some x) => (f e m).toS e fun y m1 => match g x y m1 with
    | .ok z m2 => .nx (e.set i (some z)) m2
    | _ => .stuck
  | _ => .stuck
theorem sS_aug {i : Nat} {x : Str} {op : Operator} {r : R2} {g : D → D → Mu → R D} {pos' : Pos} (hN : X.N.Nodup) (hi : X.N[i]? = some x) (hx : Loc X.env.scope x) (he : PE X ex (tE X.K C W fe)) (ho : OpR X (inplaceOp op) r) (hd : OpOk X C r g)
    (hf : X.fn x = true ∨ X.env.scope.names.lookup x = some .local := by first | exact .inl rfl | exact .inr rfl | assumption) : PS X (.AugAssign (.Name x pos') op ex pos) (tS X.K C W (mAug i g fe)) :=
  PS.im (ps_aug hN hi hx he ho hf) fun Dd s H ⟨F, ro, e, m, sim, p⟩ => by
    unfold mAug at p
    split at p
    · rename_i dx hx
      obtain ⟨v, h1, r1⟩ := sim.sl i dx hx
      refine ⟨v, h1, tE_toS sim p fun y H1 F1 ro1 m1 dy x1 sim1 r2 p1 => ?_⟩
      refine hd F1 ro1 m1 H1 v y dx dy (fun _ _ _ _ => False) s _ sim1.h (r1.mono x1) r2 ?_
      cases h2 : g dx dy m1 with
      | ok z m2 =>
        rw [h2] at p1
        exact fun w H2 F2 ro2 x2 a2 r3 => p1 _ _ _ _ x2 ((sim1.mk' x2 a2).set r3 i)
      | exc c d m2 => rw [h2] at p1; exact p1.elim
      | stuck => rw [h2] at p1; exact p1
    · exact p.elim
end
end SL
namespace SL
open PySem PySem.Spec PyProof.Rows L2

/-! ### loops -/
def mWhileN : Nat → TF → SF → SF
  | 0, _, _, _, _ => .stuck
  | n + 1, t, f, e, m => match t e m with
    | .ok c m1 => if c = true then (match f e m1 with
        | .nx e' m' => mWhileN n t f e' m'
        | .ct e' m' => mWhileN n t f e' m'
        | .bk e' m' => .nx e' m'
        | .ret d m' => .ret d m'
        | .exc c d e' m' => .exc c d e' m'
        | .stuck => .stuck) else .nx e m1
    | .exc c d m1 => .exc c d e m1
    | .stuck => .stuck
def mWhile (n : Nat) (t : TF) (f : SF) : SF := fun e m => mWhileN n t f e m
section
variable {X : Cx} {C : Nat → Addr} {W : WX} {ex a b c : Expr} {es : List Expr} {pos : Pos} {st : Stmt} {sts rest : List Stmt} {f g : SF} {fe fa fb : EF} {ft : TF}
theorem sS_while (n : Nat) (hp : PassesOwn (model X.prog X.w) X.A X.env X.xe) (hc : PT X c (tT X.K C W ft)) (hb : PSs X sts (tS X.K C W f)) : PS X (.While c sts [] pos) (tS X.K C W (mWhile n ft f)) :=
  PS.im (ps_while hp hc hb) fun Dd s H ⟨F, ro, e, m, sim, p⟩ => by
    refine ⟨fun n s H => ∃ F ro e m, SimE X.K C F ro e m s H ∧ PostS X.K C F ro W Dd (mWhileN n ft f e m), ⟨n, F, ro, e, m, sim, p⟩, ?_⟩
    rintro n s H ⟨F, ro, e, m, sim, p⟩
    cases n with
    | zero => exact p.elim
    | succ n =>
      refine ⟨F, ro, e, m, sim, ?_⟩
      unfold mWhileN at p
      cases h : ft e m with
      | ok b m1 =>
        rw [h] at p
        intro H1 F1 ro1 x1 sim1
        have p1 := PostS.mono x1 p
        cases b with
        | false => exact p1 _ _ _ _ .refl (sim.mk' x1 sim1)
        | true =>
          refine ⟨fun s' H' => ∃ F ro e m, SimE X.K C F ro e m s' H' ∧ PostS X.K C F ro W Dd (mWhileN n ft f e m), fun s' H' q => ⟨n, Nat.lt_succ_self n, q⟩, F1, ro1, e, m1, sim.mk' x1 sim1, ?_⟩
          dsimp only at p1
          rw [if_pos rfl] at p1
          cases h2 : f e m1 with
          | nx e' m' => rw [h2] at p1; exact fun s' H' F' ro' x a => ⟨F', ro', e', m', a, PostS.mono x p1⟩
          | ct e' m' => rw [h2] at p1; exact fun s' H' F' ro' x a => ⟨F', ro', e', m', a, PostS.mono x p1⟩
          | bk e' m' => rw [h2] at p1; exact p1
          | ret d m' => rw [h2] at p1; exact p1
          | exc c d e' m' => rw [h2] at p1; exact p1
          | stuck => rw [h2] at p1; exact p1
      | exc c d m1 => rw [h] at p; exact fun dd v H' F' ro' x a b q => p dd v s H' F' ro' x (sim.mk' x a) b q
      | stuck => rw [h] at p; exact p

/-! ### what a loop walks -/
abbrev IVw := Mu → Option (List D)
abbrev IF := En → Mu → R IVw
structure Wk (K : PySem.W.Frag) (C : Nat → Addr) (F : Hp) (ro : List Addr) (J : It) (vw : IVw) : Prop where
  go : ∀ (F1 : Hp) (ro1 : List Addr) (m : Mu) (H : Hp) (all : List D) (i : Nat) (d : D), Ext F ro F1 ro1 → SimH K C F1 ro1 m H → vw m = some all → all[i]? = some d →
    J.go i H ∧ ∀ x H', J.yld i H x H' → ∃ F2 ro2, Ext F1 ro1 F2 ro2 ∧ SimH K C F2 ro2 m H' ∧ Rep K C F2 ro2 x d
  stop : ∀ (F1 : Hp) (ro1 : List Addr) (m : Mu) (H : Hp) (all : List D) (i : Nat), Ext F ro F1 ro1 → SimH K C F1 ro1 m H → vw m = some all → all.length ≤ i → J.stop i H
def tI (K : PySem.W.Frag) (C : Nat → Addr) (W : WX) (f : IF) : TI := fun s H R => ∃ F ro e m, SimE K C F ro e m s H ∧ match f e m with
  | .ok vw m1 => ∀ J H' F' ro', Ext F ro F' ro' → SimH K C F' ro' m1 H' → Wk K C F' ro' J vw → R J H'
  | .exc c d m1 => ∀ dd v H' F' ro', Ext F ro F' ro' → SimH K C F' ro' m1 H' → Rep K C F' ro' v d → H' dd = some (.xd [("value", v)]) → W (.ref (C c)) (some dd) s H'
  | .stuck => False
theorem PI.im {tg : Expr} {t t' : TI} (h : PI X tg ex t) (i : ∀ s H Q, t' s H Q → t s H Q) : PI X tg ex t' := ⟨fun p s σ H Q I q => h.run p s σ H Q I (i _ _ _ q)⟩
open Classical in
noncomputable def mForL (vw : IVw) (all : List D) (g : GF) (f : SF) : List D → SF
  | [], e, m => if vw m = some all then .nx e m else .stuck
  | d :: ds, e, m => if vw m = some all then (match g d e m with
      | .nx e1 m1 => (match f e1 m1 with
        | .nx e' m' => mForL vw all g f ds e' m'
        | .ct e' m' => mForL vw all g f ds e' m'
        | .bk e' m' => .nx e' m'
        | .ret d m' => .ret d m'
        | .exc c d e' m' => .exc c d e' m'
        | .stuck => .stuck)
      | _ => .stuck) else .stuck
noncomputable def mFor (fi : IF) (g : GF) (f : SF) : SF := fun e m => match fi e m with
  | .ok vw m1 => (match vw m1 with
    | some all => mForL vw all g f all e m1
    | none => .stuck)
  | .exc c d m1 => .exc c d e m1
  | .stuck => .stuck
theorem sS_for {tg iter : Expr} {fi : IF} {gg : GF} (hp : PassesOwn (model X.prog X.w) X.A X.env X.xe) (hc : X.calm = true) (hi : PI X tg iter (tI X.K C W fi)) (hg : PG X tg (tG X.K C gg)) (hb : PSs X sts (tS X.K C W f))
    (hs : ∀ x, foldedSetIterable iter X.env x = pure x := by intro _; rfl) : PS X (.For tg iter sts [] pos) (tS X.K C W (mFor fi gg f)) :=
  PS.im (ps_for hp hc hi hg hb hs) fun Dd s H ⟨F, ro, e, m, sim, p⟩ => by
    refine ⟨F, ro, e, m, sim, ?_⟩
    unfold mFor at p
    cases h : fi e m with
    | ok vw m1 =>
      rw [h] at p
      intro J H1 F1 ro1 x1 sim1 wk
      dsimp only at p
      cases hall : vw m1 with
      | none => rw [hall] at p; exact p.elim
      | some all =>
        rw [hall] at p
        refine ⟨fun i n s H => ∃ F2 ro2 e2 m2, Ext F1 ro1 F2 ro2 ∧ SimE X.K C F2 ro2 e2 m2 s H ∧ i + n = all.length ∧ PostS X.K C F2 ro2 W Dd (mForL vw all gg f (all.drop i) e2 m2), ⟨all.length, F1, ro1, e, m1, .refl, sim.mk' x1 sim1, by simp, PostS.mono x1 p⟩, ?_⟩
        rintro i n s2 H2 ⟨F2, ro2, e2, m2, x2, sim2, hn, p2⟩
        by_cases hi : i < all.length
        · have hd : all.drop i = all[i] :: all.drop (i + 1) := List.drop_eq_getElem_cons hi
          rw [hd] at p2
          unfold mForL at p2
          by_cases hv : vw m2 = some all
          · rw [if_pos hv] at p2
            obtain ⟨g1, g2⟩ := wk.go F2 ro2 m2 H2 all i all[i] x2 sim2.h hv (List.getElem?_eq_getElem hi)
            refine .inr ⟨g1, fun s' H' => ∃ F2 ro2 e2 m2, Ext F1 ro1 F2 ro2 ∧ SimE X.K C F2 ro2 e2 m2 s' H' ∧ PostS X.K C F2 ro2 W Dd (mForL vw all gg f (all.drop (i + 1)) e2 m2), fun s' H' ⟨F3, ro3, e3, m3, x3, sim3, p3⟩ => ⟨n - 1, by omega, F3, ro3, e3, m3, x3, sim3, by omega, p3⟩, fun y H3 hy => ?_⟩
            obtain ⟨F3, ro3, x3, sim3, r3⟩ := g2 y H3 hy
            refine ⟨F3, ro3, e2, m2, all[i], sim2.mk' x3 sim3, r3, ?_⟩
            have p3 := PostS.mono x3 p2
            cases h4 : gg all[i] e2 m2 with
            | nx e4 m4 =>
              rw [h4] at p3
              dsimp only at p3 ⊢
              intro s4 H4 F4 ro4 x4 sim4
              refine ⟨F4, ro4, e4, m4, sim4, ?_⟩
              have p4 := PostS.mono x4 p3
              cases h5 : f e4 m4 with
              | nx e' m' => rw [h5] at p4; exact fun s' H' F' ro' x a => ⟨F', ro', e', m', ((x2.trans x3).trans x4).trans x, a, PostS.mono x p4⟩
              | ct e' m' => rw [h5] at p4; exact fun s' H' F' ro' x a => ⟨F', ro', e', m', ((x2.trans x3).trans x4).trans x, a, PostS.mono x p4⟩
              | bk e' m' => rw [h5] at p4; exact p4
              | ret d m' => rw [h5] at p4; exact p4
              | exc c d e' m' => rw [h5] at p4; exact p4
              | stuck => rw [h5] at p4; exact p4
            | _ => rw [h4] at p3; exact p3.elim
          · rw [if_neg hv] at p2; exact p2.elim
        · have hd : all.drop i = [] := List.drop_eq_nil_of_le (by omega)
          rw [hd] at p2
          unfold mForL at p2
          by_cases hv : vw m2 = some all
          · rw [if_pos hv] at p2
            exact .inl ⟨wk.stop F2 ro2 m2 H2 all i x2 sim2.h hv (by omega), p2 _ _ _ _ .refl sim2⟩
          · rw [if_neg hv] at p2; exact p2.elim
    | exc c d m1 => rw [h] at p; exact fun dd v H' F' ro' x a b q => p dd v s H' F' ro' x (sim.mk' x a) b q
    | stuck => rw [h] at p; exact p

/-! ### the iterables -/
/-- a list or a tuple -/
def iSeq (K : PySem.W.Frag) (tl : TE) : TI := fun σ H R => tl σ H fun x H1 => ∃ a, x = .ref a ∧ (((∃ xs, SqL K H1 a xs) ∧ R (Itl K a) H1) ∨ ((∃ xs, SqT K H1 a xs) ∧ R (Itt K a) H1))
theorem pi_seq {tg l : Expr} {tl : TE} (hl : PE X l tl) : PI X tg l (iSeq X.K tl) := by
  refine ⟨fun pins s σ H R I h => ?_⟩
  refine thn (hl.run pins s σ H _ I h) fun v s1 ⟨x, H1, I1, r1, q1⟩ => ?_
  obtain ⟨a, e, ⟨⟨xs, hq⟩, q⟩ | ⟨⟨xs, hq⟩, q⟩⟩ := q1
  · subst e
    cases r1
    obtain ⟨its, rv, p, hz⟩ := I1.list hq
    refine wpAny_pyIter_list p.isList ?_
    refine ⟨s1.heap.objs.size, [s1.heap.objs.size], _, _, H1, rfl, I1.kept (t' := s1.toks) fun b o e => Heap.get?_push_of_some _ e, turn_list a _, ⟨_, Heap.get?_push_size _ rfl, rfl, rfl⟩, fun b hb => ?_, q⟩
    have e : b = s1.heap.objs.size := by simpa using hb
    subst e
    exact I1.fpOk (Nat.le_refl _) (I1.hok.fresh (Nat.le_refl _))
  · subst e
    cases r1
    obtain ⟨its, rv, p, hz⟩ := I1.tuple hq
    refine wpAny_pyIter_tuple (show s1.heap.IsTuple a its.toArray from p) ?_
    refine ⟨s1.heap.objs.size, [s1.heap.objs.size], _, _, H1, rfl, I1.kept (t' := s1.toks) fun b o e => Heap.get?_push_of_some _ e, turn_tuple a _, ⟨_, Heap.get?_push_size _ rfl, rfl, rfl⟩, fun b hb => ?_, q⟩
    have e : b = s1.heap.objs.size := by simpa using hb
    subst e
    exact I1.fpOk (Nat.le_refl _) (I1.hok.fresh (Nat.le_refl _))
def mSeqI (f : EF) : IF := fun e m => (f e m).bind fun d m1 => match seqOf m1 d with
  | some _ => .ok (fun m => seqOf m d) m1
  | none => .stuck
theorem wk_list {K : PySem.W.Frag} {F : Hp} {ro : List Addr} {a : Addr} {vw : IVw} (h : ∀ (F1 : Hp) (ro1 : List Addr) (m : Mu) (H : Hp) (all : List D), Ext F ro F1 ro1 → SimH K C F1 ro1 m H → vw m = some all → ∃ vs, SqL K H a vs ∧ Reps K C F1 ro1 vs all) : Wk K C F ro (Itl K a) vw where
  go := fun F1 ro1 m H all i d x sim e hi => by
    obtain ⟨ws, w1, w2⟩ := h F1 ro1 m H all x sim e
    obtain ⟨y, y1, y2⟩ := w2.get hi
    refine ⟨⟨ws, y, w1, y1⟩, fun z H' hz => ?_⟩
    obtain ⟨rfl, hz⟩ := hz
    have := hz ws w1
    rw [y1] at this; cases this
    exact ⟨F1, ro1, .refl, sim, y2⟩
  stop := fun F1 ro1 m H all i x sim e hi => by
    obtain ⟨ws, w1, w2⟩ := h F1 ro1 m H all x sim e
    exact ⟨ws, w1, by rw [w2.length]; exact hi⟩
theorem wk_tup {K : PySem.W.Frag} {F : Hp} {ro : List Addr} {a : Addr} {vw : IVw} (h : ∀ (F1 : Hp) (ro1 : List Addr) (m : Mu) (H : Hp) (all : List D), Ext F ro F1 ro1 → SimH K C F1 ro1 m H → vw m = some all → ∃ vs, SqT K H a vs ∧ Reps K C F1 ro1 vs all) : Wk K C F ro (Itt K a) vw where
  go := fun F1 ro1 m H all i d x sim e hi => by
    obtain ⟨ws, w1, w2⟩ := h F1 ro1 m H all x sim e
    obtain ⟨y, y1, y2⟩ := w2.get hi
    refine ⟨⟨ws, y, w1, y1⟩, fun z H' hz => ?_⟩
    obtain ⟨rfl, hz⟩ := hz
    have := hz ws w1
    rw [y1] at this; cases this
    exact ⟨F1, ro1, .refl, sim, y2⟩
  stop := fun F1 ro1 m H all i x sim e hi => by
    obtain ⟨ws, w1, w2⟩ := h F1 ro1 m H all x sim e
    exact ⟨ws, w1, by rw [w2.length]; exact hi⟩
theorem si_seq {tg l : Expr} (hl : PE X l (tE X.K C W fe)) : PI X tg l (tI X.K C W (mSeqI fe)) :=
  PI.im (pi_seq hl) fun s H Q ⟨F, ro, e, m, sim, p⟩ => by
    refine ⟨F, ro, e, m, sim, ?_⟩
    unfold mSeqI at p
    cases h : fe e m with
    | ok d m1 =>
      rw [h] at p
      intro v H1 F1 ro1 x1 sim1 r1
      have p' : match (match seqOf m1 d with | some _ => (.ok (fun m => seqOf m d) m1 : R IVw) | none => .stuck) with
        | .ok vw m1 => ∀ J H' F' ro', Ext F ro F' ro' → SimH X.K C F' ro' m1 H' → Wk X.K C F' ro' J vw → Q J H'
        | .exc c d m1 => ∀ dd v H' F' ro', Ext F ro F' ro' → SimH X.K C F' ro' m1 H' → Rep X.K C F' ro' v d → H' dd = some (.xd [("value", v)]) → W (.ref (C c)) (some dd) s H'
        | .stuck => False := p
      cases hs : seqOf m1 d with
      | none => rw [hs] at p'; exact p'.elim
      | some ds =>
        rw [hs] at p'
        have p2 : ∀ J, Wk X.K C F1 ro1 J (fun m => seqOf m d) → Q J H1 := fun J wk => p' J H1 F1 ro1 x1 sim1 wk
        cases r1 with
        | @lst a vs ds' q r =>
          exact ⟨a, rfl, .inl ⟨⟨vs, .of (sim1.exact q rfl)⟩, p2 _ (wk_list fun F2 ro2 m2 H2 all x2 sim2 e2 => by cases e2; exact ⟨vs, .of (sim2.exact (x2.same _ _ q) rfl), r.mono x2⟩)⟩⟩
        | @scr a ns q =>
          exact ⟨a, rfl, .inl ⟨⟨_, sim1.sql q⟩, p2 _ (wk_list fun F2 ro2 m2 H2 all x2 sim2 e2 => by cases e2; exact ⟨_, sim2.sql (x2.same.seq q), .ofInts _⟩)⟩⟩
        | @tup a vs ds' q r =>
          exact ⟨a, rfl, .inr ⟨⟨vs, .of (sim1.exact q rfl)⟩, p2 _ (wk_tup fun F2 ro2 m2 H2 all x2 sim2 e2 => by cases e2; exact ⟨vs, .of (sim2.exact (x2.same _ _ q) rfl), r.mono x2⟩)⟩⟩
        | @loc a i q =>
          obtain ⟨u, h3, _, h4⟩ := sim1.at q (seqOf_loc hs)
          cases h4 with
          | @lst vs ds' r =>
            exact ⟨a, rfl, .inl ⟨⟨vs, .of h3⟩, p2 _ (wk_list fun F2 ro2 m2 H2 all x2 sim2 e2 => by
              obtain ⟨u', h3', _, h4'⟩ := sim2.at (x2.at q) (seqOf_loc e2)
              cases h4' with
              | @lst vs' ds2 r' => exact ⟨vs', .of h3', r'⟩)⟩⟩
        | _ => cases hs
    | exc c d m1 => rw [h] at p; exact p
    | stuck => rw [h] at p; exact p
/-- range -/
def rng (lo : Int) (n : Nat) : List D := (List.range n).map fun (i : Nat) => D.int (lo + (i : Int))
theorem rng_get {lo : Int} {n i : Nat} {d : D} (h : (rng lo n)[i]? = some d) : i < n ∧ d = .int (lo + (i : Int)) := by
  unfold rng at h
  rw [List.getElem?_map] at h
  by_cases hi : i < n
  · rw [List.getElem?_range hi] at h
    cases h
    exact ⟨hi, rfl⟩
  · rw [List.getElem?_eq_none (by simpa using hi)] at h; cases h
theorem rng_len {lo : Int} {n : Nat} : (rng lo n).length = n := by simp [rng]
theorem wk_range {K : PySem.W.Frag} {F : Hp} {ro : List Addr} {lo : Int} {n : Nat} : Wk K C F ro (Itr lo n) (fun _ => some (rng lo n)) where
  go := fun F1 ro1 m H all i d x sim e hi => by
    cases e
    obtain ⟨h1, rfl⟩ := rng_get hi
    refine ⟨h1, fun z H' hz => ?_⟩
    obtain ⟨rfl, rfl⟩ := hz
    exact ⟨F1, ro1, .refl, sim, .int _⟩
  stop := fun F1 ro1 m H all i x sim e hi => by
    cases e
    rw [rng_len] at hi
    exact hi
def smallI (i : Int) : Prop := -(2 ^ 62) ≤ i ∧ i < 2 ^ 62
instance (i : Int) : Decidable (smallI i) := by unfold smallI; infer_instance
def mRange1 (h : AF) : IF := fun e m => (h e m).bind fun ds m1 => match ds with
  | [.int j] => if smallI j then .ok (fun _ => some (rng 0 j.toNat)) m1 else .stuck
  | _ => .stuck
def mRange2 (h : AF) : IF := fun e m => (h e m).bind fun ds m1 => match ds with
  | [.int i, .int j] => if smallI i ∧ smallI j then .ok (fun _ => some (rng i (j - i).toNat)) m1 else .stuck
  | _ => .stuck
theorem ti_bind {h : AF} {k : List D → Mu → R IVw} {s : L2.St} {H : Hp} {R' : It → Hp → Prop} {Q : List V → Hp → Prop} {F : Hp} {ro : List Addr} {e : En} {m : Mu} (sim : SimE X.K C F ro e m s H) (p : match (h e m).bind k with
      | .ok vw m1 => ∀ J H' F' ro', Ext F ro F' ro' → SimH X.K C F' ro' m1 H' → Wk X.K C F' ro' J vw → R' J H'
      | .exc c d m1 => ∀ dd v H' F' ro', Ext F ro F' ro' → SimH X.K C F' ro' m1 H' → Rep X.K C F' ro' v d → H' dd = some (.xd [("value", v)]) → W (.ref (C c)) (some dd) s H'
      | .stuck => False)
    (hk : ∀ xs H1 F1 ro1 m1 ds, SimH X.K C F1 ro1 m1 H1 → Reps X.K C F1 ro1 xs ds → (match k ds m1 with
      | .ok vw m2 => ∀ J H' F' ro', Ext F1 ro1 F' ro' → SimH X.K C F' ro' m2 H' → Wk X.K C F' ro' J vw → R' J H'
      | .exc c d m2 => True
      | .stuck => False) → Q xs H1) (hne : ∀ ds m1, ∀ c d m2, k ds m1 ≠ .exc c d m2) : tA X.K C W h s H Q := by
  refine ⟨F, ro, e, m, sim, ?_⟩
  cases hh : h e m with
  | ok ds m1 =>
    rw [hh] at p
    intro xs H1 F1 ro1 x1 sim1 r1
    refine hk xs H1 F1 ro1 m1 ds sim1 r1 ?_
    have p' : match k ds m1 with
      | .ok vw m1 => ∀ J H' F' ro', Ext F ro F' ro' → SimH X.K C F' ro' m1 H' → Wk X.K C F' ro' J vw → R' J H'
      | .exc c d m1 => ∀ dd v H' F' ro', Ext F ro F' ro' → SimH X.K C F' ro' m1 H' → Rep X.K C F' ro' v d → H' dd = some (.xd [("value", v)]) → W (.ref (C c)) (some dd) s H'
      | .stuck => False := p
    cases h2 : k ds m1 with
    | ok vw m2 => rw [h2] at p'; exact fun J H' F' ro' x a w => p' J H' F' ro' (x1.trans x) a w
    | exc c d m2 => trivial
    | stuck => rw [h2] at p'; exact p'
  | exc c d m1 => rw [hh] at p; exact p
  | stuck => rw [hh] at p; exact p
theorem si_range1 {tg : Expr} {h : AF} {p0 : Pos} (hg : Gl X "range") (hm : X.mg "range" = none) (ha : PA X [a] (tA X.K C W h)) (hs : starEach [a] X.env = [(false, eval a X.env)] := by rfl) : PI X tg (.Call (.Name "range" p0) [a] [] pos) (tI X.K C W (mRange1 h)) :=
  PI.im (pi_range1 hg hm ha hs) fun s H Q ⟨F, ro, e, m, sim, p⟩ => ti_bind sim p (fun xs H1 F1 ro1 m1 ds sim1 r1 p1 => by
    cases r1 with
    | nil => exact p1.elim
    | cons r t =>
      cases t with
      | nil =>
        cases r with
        | int j =>
          dsimp only at p1
          by_cases hj : smallI j
          · rw [if_pos hj] at p1
            exact ⟨j, rfl, hj.1, hj.2, p1 _ _ _ _ .refl sim1 wk_range⟩
          · rw [if_neg hj] at p1; exact p1.elim
        | _ => exact p1.elim
      | cons _ _ => cases r <;> exact p1.elim) fun ds m1 c d m2 q => by
    split at q
    · split at q <;> cases q
    · cases q
theorem si_range2 {tg : Expr} {h : AF} {p0 : Pos} (hg : Gl X "range") (hm : X.mg "range" = none) (ha : PA X [a, b] (tA X.K C W h)) (hs : starEach [a, b] X.env = [(false, eval a X.env), (false, eval b X.env)] := by rfl) (hs2 : starEach [b] X.env = [(false, eval b X.env)] := by rfl) :
    PI X tg (.Call (.Name "range" p0) [a, b] [] pos) (tI X.K C W (mRange2 h)) :=
  PI.im (pi_range2 hg hm ha hs hs2) fun s H Q ⟨F, ro, e, m, sim, p⟩ => ti_bind sim p (fun xs H1 F1 ro1 m1 ds sim1 r1 p1 => by
    cases r1 with
    | nil => exact p1.elim
    | cons r t =>
      cases t with
      | nil => cases r <;> exact p1.elim
      | cons r2 t =>
        cases t with
        | cons _ _ => cases r <;> cases r2 <;> exact p1.elim
        | nil =>
          cases r with
          | int i =>
            cases r2 with
            | int j =>
              dsimp only at p1
              by_cases hj : smallI i ∧ smallI j
              · rw [if_pos hj] at p1
                exact ⟨i, j, rfl, ⟨hj.1.1, hj.1.2, hj.2.1, hj.2.2⟩, p1 _ _ _ _ .refl sim1 wk_range⟩
              · rw [if_neg hj] at p1; exact p1.elim
            | _ => exact p1.elim
          | _ => cases r2 <;> exact p1.elim) fun ds m1 c d m2 q => by
    split at q
    · split at q <;> cases q
    · cases q
/-- enumerate(list) -/
def enumD : Nat → List D → List D
  | _, [] => []
  | i, d :: ds => .tup [.int (i : Int), d] :: enumD (i + 1) ds
theorem enumD_len : ∀ (i : Nat) (ds : List D), (enumD i ds).length = ds.length
  | _, [] => rfl
  | i, _ :: ds => congrArg (· + 1) (enumD_len (i + 1) ds)
theorem enumD_get : ∀ (k : Nat) (ds : List D) (i : Nat) (x : D), (enumD k ds)[i]? = some x → ∃ d, ds[i]? = some d ∧ x = .tup [.int ((k + i : Nat) : Int), d]
  | _, [], _, _, h => by simp [enumD] at h
  | k, d :: ds, 0, x, h => by simp [enumD] at h; exact ⟨d, rfl, by rw [← h]; rfl⟩
  | k, d :: ds, i + 1, x, h => by
    obtain ⟨d', h1, h2⟩ := enumD_get (k + 1) ds i x (by simpa [enumD] using h)
    exact ⟨d', by simpa using h1, by rw [h2]; congr 4; omega⟩
def mEnum (h : AF) : IF := fun e m => (h e m).bind fun ds m1 => match ds with
  | [d] => (match listOf m1 d with
    | some _ => .ok (fun m => (listOf m d).map (enumD 0)) m1
    | none => .stuck)
  | _ => .stuck
theorem wk_enum {K : PySem.W.Frag} {F : Hp} {ro : List Addr} {a : Addr} {vw : IVw} (h : ∀ (F1 : Hp) (ro1 : List Addr) (m : Mu) (H : Hp) (all : List D), Ext F ro F1 ro1 → SimH K C F1 ro1 m H → vw m = some all → ∃ vs, SqL K H a vs ∧ Reps K C F1 ro1 vs all) : Wk K C F ro (Ite K a) (fun m => (vw m).map (enumD 0)) where
  go := fun F1 ro1 m H all i d x sim e hi => by
    cases hv : vw m with
    | none => rw [hv] at e; cases e
    | some al =>
      rw [hv] at e
      cases e
      obtain ⟨d', h1, rfl⟩ := enumD_get 0 al i d hi
      obtain ⟨ws, w1, w2⟩ := h F1 ro1 m H al x sim hv
      obtain ⟨y, y1, y2⟩ := w2.get h1
      refine ⟨⟨ws, y, w1, y1⟩, fun z H' hz => ?_⟩
      obtain ⟨T, y', rfl, hT, rfl, hz⟩ := hz
      have := hz ws w1
      rw [y1] at this; cases this
      obtain ⟨s1, x1⟩ := sim.newF (o := .tup [.int (i : Nat), y]) hT
      refine ⟨_, _, x1, s1, .tup upd_same (.cons ?_ (.one (y2.mono x1)))⟩
      rw [Nat.zero_add]
      exact .int _
  stop := fun F1 ro1 m H all i x sim e hi => by
    cases hv : vw m with
    | none => rw [hv] at e; cases e
    | some al =>
      rw [hv] at e
      cases e
      obtain ⟨ws, w1, w2⟩ := h F1 ro1 m H al x sim hv
      rw [enumD_len] at hi
      exact ⟨ws, w1, by rw [w2.length]; exact hi⟩
theorem si_enum {elts : List Expr} {kk : Nat} {tpos p0 : Pos} {h : AF} (hg : Gl X "enumerate") (hm : X.mg "enumerate" = none) (ha : PA X [ex] (tA X.K C W h)) (hs : starEach [ex] X.env = [(false, eval ex X.env)] := by rfl) :
    PI X (.Tuple elts kk tpos) (.Call (.Name "enumerate" p0) [ex] [] pos) (tI X.K C W (mEnum h)) :=
  PI.im (pi_enum hg hm ha hs) fun s H Q ⟨F, ro, e, m, sim, p⟩ => ti_bind sim p (fun xs H1 F1 ro1 m1 ds sim1 r1 p1 => by
    cases r1 with
    | nil => exact p1.elim
    | @cons v d _ _ r t =>
      cases t with
      | cons _ _ => exact p1.elim
      | nil =>
        have p' : match (match listOf m1 d with | some _ => (.ok (fun m => (listOf m d).map (enumD 0)) m1 : R IVw) | none => .stuck) with
          | .ok vw m2 => ∀ J H' F' ro', Ext F1 ro1 F' ro' → SimH X.K C F' ro' m2 H' → Wk X.K C F' ro' J vw → Q J H'
          | .exc c d m2 => True
          | .stuck => False := p1
        cases hl : listOf m1 d with
        | none => rw [hl] at p'; exact p'.elim
        | some al =>
          rw [hl] at p'
          have p2 : ∀ J, Wk X.K C F1 ro1 J (fun m => (listOf m d).map (enumD 0)) → Q J H1 := fun J wk => p' J H1 F1 ro1 .refl sim1 wk
          cases r with
          | @lst a vs ds' q r =>
            exact ⟨a, vs, rfl, .of (sim1.exact q rfl), p2 _ (wk_enum fun F2 ro2 m2 H2 all x2 sim2 e2 => by cases e2; exact ⟨vs, .of (sim2.exact (x2.same _ _ q) rfl), r.mono x2⟩)⟩
          | @loc a i q =>
            obtain ⟨u, h3, _, h4⟩ := sim1.at q (listOf_loc hl)
            cases h4 with
            | @lst vs ds' r =>
              exact ⟨a, vs, rfl, .of h3, p2 _ (wk_enum fun F2 ro2 m2 H2 all x2 sim2 e2 => by
                obtain ⟨u', h3', _, h4'⟩ := sim2.at (x2.at q) (listOf_loc e2)
                cases h4' with
                | @lst vs' ds2 r' => exact ⟨vs', .of h3', r'⟩)⟩
          | _ => cases hl) fun ds m1 c d m2 q => by
    split at q
    · split at q <;> cases q
    · cases q

/-! ### a def -/
/-- what a body's end is, of a call -/
def RS.out : RS → R D
  | .nx _ m => .ok .non m
  | .ret d m => .ok d m
  | .exc c d _ m => .exc c d m
  | _ => .stuck
def mFun (n : Nat) (f : SF) (ds : List D) (m : Mu) : R D := (f (ds.map some ++ List.replicate (n - ds.length) none) m).out
abbrev Fn := List D → Mu → R D
/-- a def's promise: it does what d says -/
def spS (K : PySem.W.Frag) (C : Nat → Addr) (n : Nat) (d : Fn) : Sp := fun vs H Q E => ∃ F ro m ds, SimH K C F ro m H ∧ Reps K C F ro vs ds ∧ ds.length = n ∧ Post K C F ro (fun c dd _ H => E c dd H) [] Q (d ds m)
theorem start_sim {K : PySem.W.Frag} {F : Hp} {ro : List Addr} {m : Mu} {H : Hp} {N : List Str} {vs : List V} {ds : List D} (sim : SimH K C F ro m H) (r : Reps K C F ro vs ds) : SimE K C F ro (ds.map some ++ List.replicate (N.length - ds.length) none) m (L2.start N vs) H := by
  refine ⟨sim, by unfold L2.start; simp [r.length], fun i d q => ?_⟩
  unfold L2.start
  by_cases hi : i < ds.length
  · rw [List.getElem?_append_left (by simpa using hi), List.getElem?_map] at q
    cases hd : ds[i]? with
    | none => rw [hd] at q; cases q
    | some d' =>
      rw [hd] at q
      cases q
      obtain ⟨v, h1, h2⟩ := r.get hd
      exact ⟨v, by rw [List.getElem?_append_left (by simpa [r.length] using hi), List.getElem?_map, h1]; rfl, h2⟩
  · rw [List.getElem?_append_right (by simpa using hi), List.getElem?_replicate] at q
    split at q <;> cases q
/-- THE RULE for a def -/
theorem fn_ok {P : Program} {w : World} {K : PySem.W.Frag} {mg : Str → Option Value} {base : Heap} {x qual : Str} {st : Stmt} {fa : Addr} {fd : FuncData} {N ps : List Str} {k n nn : Nat} {f : SF}
    (Fu : Fun K x qual st fa fd) (S : FnScope N ps (defScope st)) (hn : ps.length = n) (hN : N.length = nn)
    (hbody : ∀ (cdv : Value) (A : Around) (outer : List Env) (s : Shared) (H : Hp) (E : XK), Room k (A.deeper (envOfC qual (defScope st) s.heap.objs.size fa cdv)) →
      Takes (cxOf (L2.CX P w) P w K mg base N qual (defScope st) fa cdv A outer s H E) (fun c dd _ H => E c dd H) → PassesOwn (model P w) (A.deeper (envOfC qual (defScope st) s.heap.objs.size fa cdv)) (envOfC qual (defScope st) s.heap.objs.size fa cdv) (cxOf (L2.CX P w) P w K mg base N qual (defScope st) fa cdv A outer s H E).xe →
      PSs (cxOf (L2.CX P w) P w K mg base N qual (defScope st) fa cdv A outer s H E) (defBody st) (tS K C (fun c dd _ H => E c dd H) f)) :
    FnOk P w K mg base (L2.CX P w) (k + 1) fa fd ps (spS K C n (mFun nn f)) := by
  refine Fu.okX S (fun vs H Q E h => ?_) (fun cdv A outer s H vs Q E hr h => ?_)
  · obtain ⟨F, ro, m, ds, _, r, hl, _⟩ := h
    rw [r.length, hl, hn]
  · obtain ⟨F, ro, m, ds, sim, r, hl, p⟩ := h
    refine ⟨_, hbody cdv A outer s H E hr (takes_of rfl rfl rfl rfl) (passes_of (X := cxOf (L2.CX P w) P w K mg base N qual (defScope st) fa cdv A outer s H E) rfl), ?_⟩
    refine ⟨F, ro, _, m, start_sim sim r, ?_⟩
    unfold mFun at p
    rw [← hN] at p
    revert p
    generalize f (ds.map some ++ List.replicate (N.length - ds.length) none) m = res
    intro p
    cases res with
    | nx e' m' => exact fun s' H' F' ro' x a => p V.non H' F' ro' x a.h .non
    | ret d m' => exact p
    | bk _ _ => exact p.elim
    | ct _ _ => exact p.elim
    | exc c d e' m' => exact fun dd v s' H' F' ro' x a b q => p dd v H' F' ro' x a.h b q
    | stuck => exact p.elim
/-- a call of a def -/
def mCall (d : Fn) (h : AF) : EF := fun e m => (h e m).bind d
theorem PostA.call {d : Fn} {s : L2.St} {H : Hp} {Q : VK} {h : AF} {F : Hp} {ro : List Addr} {e : En} {m : Mu} (sim : SimE X.K C F ro e m s H) (p : Post X.K C F ro W s Q ((h e m).bind d)) : tA X.K C W h s H fun vs H1 => ∃ F ro m ds, SimH X.K C F ro m H1 ∧ Reps X.K C F ro vs ds ∧ Post X.K C F ro (fun c dd _ H => W c dd s H) [] Q (d ds m) :=
  tA_bind sim p fun xs H1 F1 ro1 m1 ds x1 sim1 r1 p1 => ⟨F1, ro1, m1, ds, sim1.h, r1, by
    cases h : d ds m1 with
    | ok d m2 => rw [h] at p1; exact p1
    | exc c d m2 => rw [h] at p1; exact p1
    | stuck => rw [h] at p1; exact p1⟩
def tCallW (sp : Sp) (W : WX) (t : TA) : TE := fun σ H Q => t σ H fun vs H1 => sp vs H1 Q fun c dd H => W c dd σ H
theorem se_call {k n : Nat} {fa : Addr} {fd : FuncData} {ps : List Str} {d : Fn} {x : Str} {p0 : Pos} {h : AF} (G : FnOk X.prog X.w X.K X.mg X.base (L2.CX X.prog X.w) k fa fd ps (spS X.K C n d)) (hr : Room k X.A) (hg : Gl X x) (hm : X.mg x = some (.ref fa)) (hk : PySem.W.keepIn X.K (.ref fa) = true) (hb : Binds X.K fd ps [])
    (tk : Takes X W) (ha : PA X (ex :: es) (tA X.K C W h)) (hn : (ex :: es).length = n := by rfl) (hdb : (x == ("__debug__" : Str)) = false := by decide) (he : starEach (ex :: es) X.env = (false, eval ex X.env) :: starEach es X.env := by rfl) (hpl : (backTo pos (starEach es X.env)).any (·.1) = false := by rfl)
    (hlen : ∀ e m ds m1, h e m = .ok ds m1 → ds.length = n) :
    PE X (.Call (.Name x p0) (ex :: es) [] pos) (tE X.K C W (mCall d h)) :=
  PE.im (pe_callS (E := fun σ c dd H => W c dd σ H) G hr hg hm hk hb (fun σ => passAt tk σ) ha hdb he hpl) fun s H Q ⟨F, ro, e, m, sim, p⟩ => by
    refine ⟨F, ro, e, m, sim, ?_⟩
    unfold mCall at p
    cases hh : h e m with
    | ok ds m1 =>
      rw [hh] at p
      intro vs H1 F1 ro1 x1 sim1 r1
      refine ⟨F1, ro1, m1, ds, sim1, r1, hlen _ _ _ _ hh, ?_⟩
      have p1 : Post X.K C F1 ro1 W s Q (d ds m1) := Post.mono x1 p
      cases h2 : d ds m1 with
      | ok d m2 => rw [h2] at p1; exact p1
      | exc c d m2 => rw [h2] at p1; exact p1
      | stuck => rw [h2] at p1; exact p1
    | exc c d m1 => rw [hh] at p; exact p
    | stuck => rw [hh] at p; exact p
end
/-- the number of the arguments -/
theorem len_nil : ∀ e m ds m1, mNil e m = .ok ds m1 → ds.length = 0 := fun _ _ _ _ h => by cases h; rfl
theorem len_cons {f : EF} {h : AF} {n : Nat} (ih : ∀ e m ds m1, h e m = .ok ds m1 → ds.length = n) : ∀ e m ds m1, mCons f h e m = .ok ds m1 → ds.length = n + 1 := fun e m ds m1 q => by
  unfold mCons at q
  cases h1 : f e m with
  | ok d m2 =>
    rw [h1] at q
    have q' : (h e m2).bind (fun xs m2 => R.ok (d :: xs) m2) = .ok ds m1 := q
    cases h2 : h e m2 with
    | ok xs m3 => rw [h2] at q'; cases q'; exact congrArg (· + 1) (ih _ _ _ _ h2)
    | exc c d m3 => rw [h2] at q'; cases q'
    | stuck => rw [h2] at q'; cases q'
  | exc c d m3 => rw [h1] at q; cases q
  | stuck => rw [h1] at q; cases q
end SL
namespace SL
open PySem PySem.Spec PyProof.Rows L2

/-! ### objects of the store that no longer change -/
mutual
/-- no object of the store from n on is meant -/
def LocB (n : Nat) : D → Prop
  | .non => True
  | .bl _ => True
  | .int _ => True
  | .str _ => True
  | .scr _ => True
  | .loc i => i < n
  | .ktp _ => True
  | .tup ds => LocBs n ds
  | .lst ds => LocBs n ds
  | .dct ds => LocBt n ds
  | .dck ds => LocBk n ds
  | .ins _ ds => LocBf n ds
def LocBs (n : Nat) : List D → Prop
  | [] => True
  | d :: ds => LocB n d ∧ LocBs n ds
def LocBt (n : Nat) : List (List Key × D) → Prop
  | [] => True
  | (_, d) :: ds => LocB n d ∧ LocBt n ds
def LocBk (n : Nat) : List (Key × D) → Prop
  | [] => True
  | (_, d) :: ds => LocB n d ∧ LocBk n ds
def LocBf (n : Nat) : List (Str × D) → Prop
  | [] => True
  | (_, d) :: ds => LocB n d ∧ LocBf n ds
end
def LocM (n : Nat) : MO → Prop
  | .lst ds => LocBs n ds
  | .dct ds => LocBt n ds
  | .dck ds => LocBk n ds
  | .ins _ ds => LocBf n ds
theorem LocBs.of {n : Nat} : ∀ {ds : List D}, (∀ d ∈ ds, LocB n d) → LocBs n ds
  | [], _ => trivial
  | d :: ds, h => ⟨h d (List.Mem.head _), LocBs.of fun x hx => h x (List.Mem.tail _ hx)⟩
theorem LocBs.at {n : Nat} : ∀ {ds : List D}, LocBs n ds → ∀ d ∈ ds, LocB n d
  | _ :: _, ⟨a, _⟩, _, .head _ => a
  | _ :: _, ⟨_, t⟩, d, .tail _ h => LocBs.at t d h
theorem LocBs.map {α : Type} {n : Nat} {f : α → D} (h : ∀ x, LocB n (f x)) (xs : List α) : LocBs n (xs.map f) := .of fun d hd => by
  obtain ⟨x, _, rfl⟩ := List.mem_map.mp hd
  exact h x
theorem LocBt.map {α : Type} {n : Nat} {f : α → List Key × D} (h : ∀ x, LocB n (f x).2) : ∀ xs : List α, LocBt n (xs.map f)
  | [] => trivial
  | x :: xs => by
    show LocBt n (((f x).1, (f x).2) :: xs.map f)
    exact ⟨h x, LocBt.map h xs⟩
section
variable {K : PySem.W.Frag} {C : Nat → Addr} {F F' : Hp} {ro : List Addr}
mutual
theorem Rep.locB : ∀ {v : V} {d : D}, Rep K C F ro v d → LocB ro.length d
  | _, _, .non => trivial
  | _, _, .bl b => trivial
  | _, _, .int i => trivial
  | _, _, .str s => trivial
  | _, _, .tup h r => Reps.locB r
  | _, _, .ktp _ => trivial
  | _, _, .lst h r => Reps.locB r
  | _, _, .scr h => trivial
  | _, _, .dct h r => RepT.locB r
  | _, _, .dck h r => RepK.locB r
  | _, _, .ins h r => RepF.locB r
  | _, _, .loc h => (List.getElem?_eq_some_iff.mp h).1
theorem Reps.locB : ∀ {v : List V} {d : List D}, Reps K C F ro v d → LocBs ro.length d
  | _, _, .nil => trivial
  | _, _, .cons h t => ⟨Rep.locB h, Reps.locB t⟩
theorem RepT.locB : ∀ {v : List (List Key × V)} {d : List (List Key × D)}, RepT K C F ro v d → LocBt ro.length d
  | _, _, .nil => trivial
  | _, _, .cons h t => ⟨Rep.locB h, RepT.locB t⟩
theorem RepK.locB : ∀ {v : List (Key × V)} {d : List (Key × D)}, RepK K C F ro v d → LocBk ro.length d
  | _, _, .nil => trivial
  | _, _, .cons h t => ⟨Rep.locB h, RepK.locB t⟩
theorem RepF.locB : ∀ {v : List (Str × V)} {d : List (Str × D)}, RepF K C F ro v d → LocBf ro.length d
  | _, _, .nil => trivial
  | _, _, .cons h t => ⟨Rep.locB h, RepF.locB t⟩
end
theorem RepM.locB {u : HO} {o : MO} (h : RepM K C F ro u o) : LocM ro.length o := by
  cases h with
  | lst r => exact r.locB
  | dct r => exact r.locB
  | dck r => exact r.locB
  | ins r => exact r.locB
mutual
theorem Rep.cut {n : Nat} (e : Same F F') : ∀ {v : V} {d : D}, Rep K C F ro v d → LocB n d → Rep K C F' (ro.take n) v d
  | _, _, .non, _ => .non
  | _, _, .bl b, _ => .bl b
  | _, _, .int i, _ => .int i
  | _, _, .str s, _ => .str s
  | _, _, .tup h r, l => .tup (e _ _ h) (Reps.cut e r l)
  | _, _, .ktp h, _ => .ktp h
  | _, _, .lst h r, l => .lst (e _ _ h) (Reps.cut e r l)
  | _, _, .scr h, _ => .scr (e.seq h)
  | _, _, .dct h r, l => .dct (e _ _ h) (RepT.cut e r l)
  | _, _, .dck h r, l => .dck (e _ _ h) (RepK.cut e r l)
  | _, _, .ins h r, l => .ins (e _ _ h) (RepF.cut e r l)
  | _, _, .loc h, l => .loc (by rw [List.getElem?_take_of_lt l]; exact h)
theorem Reps.cut {n : Nat} (e : Same F F') : ∀ {v : List V} {d : List D}, Reps K C F ro v d → LocBs n d → Reps K C F' (ro.take n) v d
  | _, _, .nil, _ => .nil
  | _, _, .cons h t, l => .cons (Rep.cut e h l.1) (Reps.cut e t l.2)
theorem RepT.cut {n : Nat} (e : Same F F') : ∀ {v : List (List Key × V)} {d : List (List Key × D)}, RepT K C F ro v d → LocBt n d → RepT K C F' (ro.take n) v d
  | _, _, .nil, _ => .nil
  | _, _, .cons h t, l => .cons (Rep.cut e h l.1) (RepT.cut e t l.2)
theorem RepK.cut {n : Nat} (e : Same F F') : ∀ {v : List (Key × V)} {d : List (Key × D)}, RepK K C F ro v d → LocBk n d → RepK K C F' (ro.take n) v d
  | _, _, .nil, _ => .nil
  | _, _, .cons h t, l => .cons (Rep.cut e h l.1) (RepK.cut e t l.2)
theorem RepF.cut {n : Nat} (e : Same F F') : ∀ {v : List (Str × V)} {d : List (Str × D)}, RepF K C F ro v d → LocBf n d → RepF K C F' (ro.take n) v d
  | _, _, .nil, _ => .nil
  | _, _, .cons h t, l => .cons (Rep.cut e h l.1) (RepF.cut e t l.2)
end
theorem RepM.cut {n : Nat} (e : Same F F') {u : HO} {o : MO} (h : RepM K C F ro u o) (l : LocM n o) : RepM K C F' (ro.take n) u o := by
  cases h with
  | lst r => exact .lst (r.cut e l)
  | dct r => exact .dct (r.cut e l)
  | dck r => exact .dck (r.cut e l)
  | ins r => exact .ins (r.cut e l)
end
def optL {α β : Type} (f : α → Option β) : List α → Option (List β)
  | [] => some []
  | x :: xs => match f x, optL f xs with
    | some y, some ys => some (y :: ys)
    | _, _ => none
def optV {α κ β : Type} (f : α → Option β) : List (κ × α) → Option (List (κ × β))
  | [] => some []
  | (k, x) :: xs => match f x, optV f xs with
    | some y, some ys => some ((k, y) :: ys)
    | _, _ => none
open Classical in
/-- a value in which the objects of the store from n on are said by what they hold -/
noncomputable def frz (m : Mu) (n : Nat) : Nat → D → Option D
  | 0, d => if LocB n d then some d else none
  | k + 1, d => if LocB n d then some d else match d with
    | .tup ds => (optL (frz m n k) ds).map .tup
    | .lst ds => (optL (frz m n k) ds).map .lst
    | .dct ds => (optV (frz m n k) ds).map .dct
    | .dck ds => (optV (frz m n k) ds).map .dck
    | .ins c ds => (optV (frz m n k) ds).map (.ins c)
    | .loc i => (match m[i]? with
      | some (.lst ds) => (optL (frz m n k) ds).map .lst
      | some (.dct ds) => (optV (frz m n k) ds).map .dct
      | some (.dck ds) => (optV (frz m n k) ds).map .dck
      | some (.ins c ds) => (optV (frz m n k) ds).map (.ins c)
      | none => none)
    | _ => none
section
variable {K : PySem.W.Frag} {C : Nat → Addr} {F F' : Hp} {ro : List Addr} {m : Mu} {H : Hp} {n : Nat}
theorem optL_reps {f : D → Option D} {ro' : List Addr} (ih : ∀ v d d', Rep K C F ro v d → f d = some d' → Rep K C F' ro' v d') : ∀ {vs : List V} {ds ds' : List D}, Reps K C F ro vs ds → optL f ds = some ds' → Reps K C F' ro' vs ds'
  | _, _, _, .nil, h => by cases h; exact .nil
  | _, _, ds', @Reps.cons _ _ _ _ v d vs ds h t, e => by
    unfold optL at e
    split at e
    · rename_i y ys h1 h2
      cases e
      exact .cons (ih _ _ _ h h1) (optL_reps ih t h2)
    · cases e
theorem optV_T {f : D → Option D} {ro' : List Addr} (ih : ∀ v d d', Rep K C F ro v d → f d = some d' → Rep K C F' ro' v d') : ∀ {vs : List (List Key × V)} {ds ds' : List (List Key × D)}, RepT K C F ro vs ds → optV f ds = some ds' → RepT K C F' ro' vs ds'
  | _, _, _, .nil, h => by cases h; exact .nil
  | _, _, ds', .cons h t, e => by
    unfold optV at e
    split at e
    · rename_i y ys h1 h2
      cases e
      exact .cons (ih _ _ _ h h1) (optV_T ih t h2)
    · cases e
theorem optV_K {f : D → Option D} {ro' : List Addr} (ih : ∀ v d d', Rep K C F ro v d → f d = some d' → Rep K C F' ro' v d') : ∀ {vs : List (Key × V)} {ds ds' : List (Key × D)}, RepK K C F ro vs ds → optV f ds = some ds' → RepK K C F' ro' vs ds'
  | _, _, _, .nil, h => by cases h; exact .nil
  | _, _, ds', .cons h t, e => by
    unfold optV at e
    split at e
    · rename_i y ys h1 h2
      cases e
      exact .cons (ih _ _ _ h h1) (optV_K ih t h2)
    · cases e
theorem optV_F {f : D → Option D} {ro' : List Addr} (ih : ∀ v d d', Rep K C F ro v d → f d = some d' → Rep K C F' ro' v d') : ∀ {vs : List (Str × V)} {ds ds' : List (Str × D)}, RepF K C F ro vs ds → optV f ds = some ds' → RepF K C F' ro' vs ds'
  | _, _, _, .nil, h => by cases h; exact .nil
  | _, _, ds', .cons h t, e => by
    unfold optV at e
    split at e
    · rename_i y ys h1 h2
      cases e
      exact .cons (ih _ _ _ h h1) (optV_F ih t h2)
    · cases e
/-- F' holds what the objects from n on hold -/
theorem frz_rep (sim : SimH K C F ro m H) (e : Same F F') (hF : ∀ i a, n ≤ i → ro[i]? = some a → F' a = H a) : ∀ (k : Nat) (v : V) (d d' : D), Rep K C F ro v d → frz m n k d = some d' → Rep K C F' (ro.take n) v d'
  | 0, v, d, d', r, h => by
    unfold frz at h
    split at h
    · rename_i l; cases h; exact r.cut e l
    · cases h
  | k + 1, v, d, d', r, h => by
    have ih := frz_rep sim e hF k
    unfold frz at h
    split at h
    · rename_i l; cases h; exact r.cut e l
    · rename_i nl
      cases r with
      | tup q r =>
        obtain ⟨ds', h1, rfl⟩ := Option.map_eq_some_iff.mp h
        exact .tup (e _ _ q) (optL_reps ih r h1)
      | lst q r =>
        obtain ⟨ds', h1, rfl⟩ := Option.map_eq_some_iff.mp h
        exact .lst (e _ _ q) (optL_reps ih r h1)
      | dct q r =>
        obtain ⟨ds', h1, rfl⟩ := Option.map_eq_some_iff.mp h
        exact .dct (e _ _ q) (optV_T ih r h1)
      | dck q r =>
        obtain ⟨ds', h1, rfl⟩ := Option.map_eq_some_iff.mp h
        exact .dck (e _ _ q) (optV_K ih r h1)
      | ins q r =>
        obtain ⟨ds', h1, rfl⟩ := Option.map_eq_some_iff.mp h
        exact .ins (e _ _ q) (optV_F ih r h1)
      | @loc a i q =>
        have hn : n ≤ i := Nat.le_of_not_lt nl
        have h' : (match m[i]? with
          | some (.lst ds) => (optL (frz m n k) ds).map D.lst
          | some (.dct ds) => (optV (frz m n k) ds).map D.dct
          | some (.dck ds) => (optV (frz m n k) ds).map D.dck
          | some (.ins c ds) => (optV (frz m n k) ds).map (D.ins c)
          | none => none) = some d' := h
        cases hm : m[i]? with
        | none => rw [hm] at h'; cases h'
        | some o =>
          obtain ⟨u, h1, h2, h3⟩ := sim.at q hm
          have hF' := hF i a hn q
          rw [h1] at hF'
          rw [hm] at h'
          cases h3 with
          | lst r => obtain ⟨ds', h4, rfl⟩ := Option.map_eq_some_iff.mp h'; exact .lst hF' (optL_reps ih r h4)
          | dct r => obtain ⟨ds', h4, rfl⟩ := Option.map_eq_some_iff.mp h'; exact .dct hF' (optV_T ih r h4)
          | dck r => obtain ⟨ds', h4, rfl⟩ := Option.map_eq_some_iff.mp h'; exact .dck hF' (optV_K ih r h4)
          | ins r => obtain ⟨ds', h4, rfl⟩ := Option.map_eq_some_iff.mp h'; exact .ins hF' (optV_F ih r h4)
      | _ => cases h
/-- the older objects do not mean the newer ones -/
def NoEsc (m m2 : Mu) : Prop := m.length ≤ m2.length ∧ ∀ (i : Nat) (o : MO), i < m.length → m2[i]? = some o → m[i]? = some o ∨ LocM m.length o
open Classical in
theorem SimH.frz {F1 : Hp} {ro1 : List Addr} {m1 : Mu} {H1 : Hp} (sim1 : SimH K C F1 ro1 m1 H1) (sim : SimH K C F ro m H) (x : Ext F1 ro1 F ro) (ne : NoEsc m1 m) :
    ∃ F', Same F F' ∧ (∀ i a, m1.length ≤ i → ro[i]? = some a → F' a = H a) ∧ SimH K C F' (ro.take m1.length) (m.take m1.length) H ∧ ro.take m1.length = ro1 := by
  obtain ⟨more, hmore⟩ := x.pre
  have hro : ro.take m1.length = ro1 := by rw [hmore, ← sim1.len]; simp
  refine ⟨fun a => if ∃ i, m1.length ≤ i ∧ ro[i]? = some a then H a else F a, fun a o q => ?_, fun i a hi h => if_pos ⟨i, hi, h⟩, ?_, hro⟩
  · by_cases hc : ∃ i, m1.length ≤ i ∧ ro[i]? = some a
    · obtain ⟨i, hi, h⟩ := hc
      have hlt : i < m.length := by rw [← sim.len]; exact (List.getElem?_eq_some_iff.mp h).1
      obtain ⟨a', u, h1, h2, h3, _⟩ := sim.live i _ (List.getElem?_eq_getElem hlt)
      rw [h] at h1; cases h1
      rw [h3] at q; cases q
    · show (if _ then _ else _) = _
      rw [if_neg hc]; exact q
  · have same : Same F (fun a => if ∃ i, m1.length ≤ i ∧ ro[i]? = some a then H a else F a) := fun a o q => by
      by_cases hc : ∃ i, m1.length ≤ i ∧ ro[i]? = some a
      · obtain ⟨i, hi, h⟩ := hc
        have hlt : i < m.length := by rw [← sim.len]; exact (List.getElem?_eq_some_iff.mp h).1
        obtain ⟨a', u, h1, h2, h3, _⟩ := sim.live i _ (List.getElem?_eq_getElem hlt)
        rw [h] at h1; cases h1
        rw [h3] at q; cases q
      · show (if _ then _ else _) = _
        rw [if_neg hc]; exact q
    refine ⟨fun a o q => ?_, ?_, fun i o q => ?_, sim.dis.sublist (List.take_sublist _ _)⟩
    · by_cases hc : ∃ i, m1.length ≤ i ∧ ro[i]? = some a
      · have q' : H a = some o := (if_pos hc).symm.trans q
        exact .inl q'
      · have q' : F a = some o := (if_neg hc).symm.trans q
        exact sim.sub a o q'
    · rw [List.length_take, List.length_take, sim.len]
    · have hi : i < m1.length := by
        have := (List.getElem?_eq_some_iff.mp q).1
        rw [List.length_take] at this; omega
      rw [List.getElem?_take_of_lt hi] at q
      obtain ⟨a, u, h1, h2, h3, h4⟩ := sim.live i o q
      have lm : LocM m1.length o := by
        rcases ne.2 i o hi q with h | h
        · obtain ⟨_, _, _, _, _, r⟩ := sim1.live i o h
          rw [← sim1.len]; exact r.locB
        · exact h
      refine ⟨a, u, by rw [List.getElem?_take_of_lt hi]; exact h1, h2, ?_, h4.cut same lm⟩
      have hc : ¬ ∃ j, m1.length ≤ j ∧ ro[j]? = some a := fun ⟨j, hj, h⟩ => by
        have := nd_ix sim.dis h1 h
        omega
      show (if _ then _ else _) = _
      rw [if_neg hc]; exact h3
end
open Classical in
noncomputable def cutR (m : Mu) : R D → R D
  | .ok d m2 => if NoEsc m m2 then (match frz m2 m.length 8 d with
    | some d' => .ok d' (m2.take m.length)
    | none => .stuck) else .stuck
  | .exc c d m2 => if NoEsc m m2 then (match frz m2 m.length 8 d with
    | some d' => .exc c d' (m2.take m.length)
    | none => .stuck) else .stuck
  | .stuck => .stuck
section
variable {K : PySem.W.Frag} {C : Nat → Addr} {F : Hp} {ro : List Addr} {m : Mu} {H : Hp} {W : WX} {s : L2.St} {Q : VK}
theorem Post.cut (sim : SimH K C F ro m H) {r : R D} (p : Post K C F ro W s Q (cutR m r)) : Post K C F ro W s Q r := by
  cases r with
  | ok d m2 =>
    intro v H' F' ro' x a r
    by_cases ne : NoEsc m m2
    · have e : cutR m (.ok d m2) = (match frz m2 m.length 8 d with | some d' => .ok d' (m2.take m.length) | none => .stuck) := if_pos ne
      rw [e] at p
      cases hd : frz m2 m.length 8 d with
      | none => rw [hd] at p; exact p.elim
      | some d' =>
        rw [hd] at p
        obtain ⟨F2, same, hF, s2, hro⟩ := sim.frz a x ne
        exact p v H' F2 (ro'.take m.length) ⟨x.same.trans same, [], by rw [hro]; simp⟩ s2 (frz_rep a same hF 8 v d d' r hd)
    · have e : cutR m (.ok d m2) = .stuck := if_neg ne
      rw [e] at p; exact p.elim
  | exc c d m2 =>
    intro dd v H' F' ro' x a r q
    by_cases ne : NoEsc m m2
    · have e : cutR m (.exc c d m2) = (match frz m2 m.length 8 d with | some d' => .exc c d' (m2.take m.length) | none => .stuck) := if_pos ne
      rw [e] at p
      cases hd : frz m2 m.length 8 d with
      | none => rw [hd] at p; exact p.elim
      | some d' =>
        rw [hd] at p
        obtain ⟨F2, same, hF, s2, hro⟩ := sim.frz a x ne
        exact p dd v H' F2 (ro'.take m.length) ⟨x.same.trans same, [], by rw [hro]; simp⟩ s2 (frz_rep a same hF 8 v d d' r hd) q
    · have e : cutR m (.exc c d m2) = .stuck := if_neg ne
      rw [e] at p; exact p.elim
  | stuck => exact p
/-- an expression whose value and new objects no longer change -/
noncomputable def mFrz (f : EF) : EF := fun e m => cutR m (f e m)
theorem se_frz {X : Cx} {C : Nat → Addr} {W : WX} {ex : Expr} {f : EF} (h : PE X ex (tE X.K C W f)) : PE X ex (tE X.K C W (mFrz f)) := PE.im h fun s H Q ⟨F, ro, e, m, sim, p⟩ => ⟨F, ro, e, m, sim, Post.cut sim.h p⟩
noncomputable def frzFn (d : Fn) : Fn := fun ds m => cutR m (d ds m)
theorem fn_frz {P : Program} {w : World} {K : PySem.W.Frag} {mg : Str → Option Value} {base : Heap} {CX : CXT} {k n : Nat} {f : Addr} {fd : FuncData} {ps : List Str} {d : Fn} (h : FnOk P w K mg base CX k f fd ps (spS K C n d)) : FnOk P w K mg base CX k f fd ps (spS K C n (frzFn d)) :=
  h.imp fun vs H Q E ⟨F, ro, m, ds, sim, r, hl, p⟩ => ⟨F, ro, m, ds, sim, r, hl, Post.cut sim p⟩
/-- a def's promise, by an equal function -/
theorem fn_eq {P : Program} {w : World} {K : PySem.W.Frag} {mg : Str → Option Value} {base : Heap} {CX : CXT} {k n : Nat} {f : Addr} {fd : FuncData} {ps : List Str} {d d' : Fn} (h : FnOk P w K mg base CX k f fd ps (spS K C n d)) (e : ∀ ds m, d' ds m = .stuck ∨ d' ds m = d ds m) : FnOk P w K mg base CX k f fd ps (spS K C n d') :=
  h.imp fun vs H Q E ⟨F, ro, m, ds, sim, r, hl, p⟩ => ⟨F, ro, m, ds, sim, r, hl, by
    rcases e ds m with q | q
    · rw [q] at p; exact p.elim
    · rw [← q]; exact p⟩
end
end SL
namespace SL
open PySem PySem.Spec PyProof.Rows L2

def sS (s : Txt) : Str := ⟨s.toArray⟩
theorem sS_len (s : Txt) : (sS s).length = s.length := by show s.toArray.size = s.length; simp
theorem sS_app (s t : Txt) : sS s ++ sS t = sS (s ++ t) := by
  show Str.append (sS s) (sS t) = sS (s ++ t)
  unfold Str.append sS
  simp
theorem sS_inj {s t : Txt} : sS s = sS t ↔ s = t := by
  unfold sS
  constructor
  · intro h; injection h with h; simpa using congrArg Array.toList h
  · intro h; rw [h]
theorem sS_dec (s t : Txt) : decide (V.str (sS s) = V.str (sS t)) = decide (s = t) := by
  by_cases h : s = t
  · subst h; simp
  · rw [decide_eq_false h, decide_eq_false]
    intro q; injection q with q; exact h (sS_inj.mp q)

/-! ### sizes of ints -/
def Mid (i : Int) : Prop := -(2 ^ 4096) < i ∧ i < 2 ^ 4096
def Sml (i : Int) : Prop := -(2 ^ 64) < i ∧ i < 2 ^ 64
def MulOk (i j : Int) : Prop := Sml i ∨ Sml j ∨ (Mid i ∧ Mid j)
theorem mid_log {i : Int} (h : Mid i) : i.natAbs.log2 < 4096 := by
  have : i.natAbs < 2 ^ 4096 := by obtain ⟨h1, h2⟩ := h; omega
  exact PySem.Flt.log2_lt_of (by decide) this
theorem mulOk_ok {i j : Int} (h : MulOk i j) : IntMulOk i j := by
  rcases h with h | h | ⟨h1, h2⟩
  · exact CMul.ok (.inl h)
  · exact CMul.ok (.inr h)
  · have a := mid_log h1
    have b := mid_log h2
    exact CMulW.ok (show _ < _ by omega)
def DivOk (j : Int) : Prop := j ≠ 0 ∧ Mid j
section
variable {X : Cx}
theorem op_mulX : OpR X (binaryOp .Mult) (rI MulOk fun i j => .int (i * j)) := opI fun _ _ _ _ _ _ _ hc q => mul_int q (mulOk_ok hc)
theorem op_fdivX : OpR X (binaryOp .FloorDiv) (rI (fun _ j => DivOk j) fun i j => .int (i.fdiv j)) := opI fun i j _ _ _ _ _ hc q =>
  floordiv_int hc.1 q (.inl (PyProof.noPylong_of_log2 (Nat.lt_of_lt_of_le (mid_log hc.2) (by decide))))
end

/-! ### + - * // % ** & -/
open Classical in
noncomputable def mulD (al : Bool) (x y : D) (m : Mu) : R D := match x, y with
  | .int i, .int j => if MulOk i j then .ok (.int (i * j)) m else .stuck
  | .str s, .int j => if s.length ≤ 16 ∧ -(2 ^ 63) ≤ j ∧ j ≤ 1048576 then .ok (.str (List.replicate j.toNat s).flatten) m else .stuck
  | x, .int j => match listOf m x with
    | some xs => if -(2 ^ 63) ≤ j ∧ j < 2 ^ 63 ∧ xs.length * j.toNat ≤ 1048576 then mkL al (List.replicate j.toNat xs).flatten m else .stuck
    | none => .stuck
  | _, _ => .stuck
def addD (al : Bool) (x y : D) (m : Mu) : R D := match x, y with
  | .int i, .int j => .ok (.int (i + j)) m
  | .str s, .str t => if s.length + t.length ≤ 1048576 then .ok (.str (s ++ t)) m else .stuck
  | x, y => match listOf m x, listOf m y with
    | some xs, some ys => if xs.length + ys.length ≤ 1048576 then mkL al (xs ++ ys) m else .stuck
    | _, _ => .stuck
def intsD (x y : D) (k : Int → Int → R D) : R D := match x, y with
  | .int i, .int j => k i j
  | _, _ => .stuck
def subD (x y : D) (m : Mu) : R D := intsD x y fun i j => .ok (.int (i - j)) m
open Classical in
noncomputable def fdivD (x y : D) (m : Mu) : R D := intsD x y fun i j => if DivOk j then .ok (.int (i.fdiv j)) m else .stuck
def modD (x y : D) (m : Mu) : R D := intsD x y fun i j => if j ≠ 0 then .ok (.int (i.fmod j)) m else .stuck
def powD (x y : D) (m : Mu) : R D := intsD x y fun i j => if 0 ≤ j ∧ j ≤ 1000000 ∧ i.natAbs < 2 ^ 64 then .ok (.int (i ^ j.toNat)) m else .stuck
def andD (x y : D) (m : Mu) : R D := intsD x y fun i j => .ok (.int (Builtin.bitAnd i j)) m
section
variable {X : Cx} {C : Nat → Addr} {W : WX} {ex a b : Expr} {pos : Pos} {fa fb : EF}
theorem ints_of {K : PySem.W.Frag} {F : Hp} {ro : List Addr} {x y : V} {dx dy : D} {W : WX} {s : L2.St} {Q : VK} {k : Int → Int → R D} (rx : Rep K C F ro x dx) (ry : Rep K C F ro y dy)
    (p : Post K C F ro W s Q (intsD dx dy k)) : ∃ i j, x = .int i ∧ y = .int j ∧ Post K C F ro W s Q (k i j) := by
  cases rx with
  | int i =>
    cases ry with
    | int j => exact ⟨i, j, rfl, rfl, p⟩
    | _ => exact p.elim
  | _ => exact p.elim
theorem ok_sub : OpOk X C (rI0 fun i j => .int (i - j)) subD := fun F ro m H x y dx dy W s Q sim rx ry p => by
  obtain ⟨i, j, rfl, rfl, p⟩ := ints_of rx ry p
  exact ⟨i, j, rfl, rfl, p.val sim (.int _)⟩
theorem ok_fdiv : OpOk X C (rI (fun _ j => DivOk j) fun i j => .int (i.fdiv j)) fdivD := fun F ro m H x y dx dy W s Q sim rx ry p => by
  obtain ⟨i, j, rfl, rfl, p⟩ := ints_of rx ry p
  split at p
  · rename_i h; exact ⟨i, j, rfl, rfl, h, p.val sim (.int _)⟩
  · exact p.elim
theorem ok_mod : OpOk X C (rI (fun _ j => j ≠ 0) fun i j => .int (i.fmod j)) modD := fun F ro m H x y dx dy W s Q sim rx ry p => by
  obtain ⟨i, j, rfl, rfl, p⟩ := ints_of rx ry p
  split at p
  · rename_i h; exact ⟨i, j, rfl, rfl, h, p.val sim (.int _)⟩
  · exact p.elim
theorem ok_pow : OpOk X C (rI CPow fun i j => .int (i ^ j.toNat)) powD := fun F ro m H x y dx dy W s Q sim rx ry p => by
  obtain ⟨i, j, rfl, rfl, p⟩ := ints_of rx ry p
  split at p
  · rename_i h; exact ⟨i, j, rfl, rfl, h, p.val sim (.int _)⟩
  · exact p.elim
theorem ok_and : OpOk X C (rI0 fun i j => .int (Builtin.bitAnd i j)) andD := fun F ro m H x y dx dy W s Q sim rx ry p => by
  obtain ⟨i, j, rfl, rfl, p⟩ := ints_of rx ry p
  exact ⟨i, j, rfl, rfl, p.val sim (.int _)⟩
def rAddX : R2 := fun x y H Q => (rI0 (fun i j => .int (i + j)) x y H Q ∨ ∃ i j, x = .str i ∧ y = .str j ∧ i.length + j.length ≤ sizeLine ∧ Q (.str (i ++ j)) H) ∨ rCat x y H Q
theorem op_addX : OpR X (binaryOp .Add) rAddX := (op_add.or op_add_str).or op_cat
theorem ok_addL {al : Bool} {F : Hp} {ro : List Addr} {m : Mu} {H : Hp} {x y : V} {dx dy : D} {W : WX} {s : L2.St} {Q : VK} (sim : SimH X.K C F ro m H) (rx : Rep X.K C F ro x dx) (ry : Rep X.K C F ro y dy)
    (p : Post X.K C F ro W s Q (match listOf m dx, listOf m dy with
    | some xs, some ys => if xs.length + ys.length ≤ 1048576 then mkL al (xs ++ ys) m else .stuck
    | _, _ => .stuck)) : rCat x y H Q := by
  cases h1 : listOf m dx with
  | none => rw [h1] at p; exact p.elim
  | some xs =>
    cases h2 : listOf m dy with
    | none => rw [h1, h2] at p; exact p.elim
    | some ys =>
      rw [h1, h2] at p
      obtain ⟨a, vs, rfl, e1, r1⟩ := listOf_rep sim rx h1
      obtain ⟨b, ws, rfl, e2, r2⟩ := listOf_rep sim ry h2
      dsimp only at p
      split at p
      · rename_i hl
        exact ⟨a, b, vs, ws, rfl, rfl, e1, e2, by rw [r1.length, r2.length, sizeLine_eq]; omega, fun l hl => p.newL sim (r1.app r2) hl⟩
      · exact p.elim
theorem ok_add (al : Bool) : OpOk X C rAddX (addD al) := fun F ro m H x y dx dy W s Q sim rx ry p => by
  cases rx with
  | int i =>
    cases ry with
    | int j => exact .inl (.inl ⟨i, j, rfl, rfl, p.val sim (.int _)⟩)
    | _ => exact p.elim
  | str t =>
    cases ry with
    | str u =>
      have p' : Post X.K C F ro W s Q (if t.length + u.length ≤ 1048576 then .ok (.str (t ++ u)) m else .stuck) := p
      split at p'
      · rename_i h
        refine .inl (.inr ⟨_, _, rfl, rfl, ?_, ?_⟩)
        · show (sS t).length + (sS u).length ≤ sizeLine
          rw [sS_len, sS_len, sizeLine_eq]; omega
        · show Q (.str (sS t ++ sS u)) H
          rw [sS_app]; exact p'.val sim (.str _)
      · exact p'.elim
    | _ => exact p.elim
  | lst q r => exact .inr (ok_addL sim (.lst q r) ry p)
  | loc q => exact .inr (ok_addL sim (.loc q) ry p)
  | _ => exact p.elim
theorem foldl_cps (a : Array Nat) : ∀ (n : Nat) (acc : Array Nat), (List.replicate n a).foldl (· ++ ·) acc = acc ++ (List.replicate n a.toList).flatten.toArray
  | 0, acc => by simp
  | n + 1, acc => by
    rw [List.replicate_succ, List.foldl_cons, foldl_cps a n, List.replicate_succ, List.flatten_cons]
    apply Array.ext'
    simp
theorem mul_txt (t : Txt) (j : Int) : PySem.Txt.mul (sS t) j = sS (List.replicate j.toNat t).flatten := by
  unfold PySem.Txt.mul
  split
  · rename_i h
    have : j.toNat = 0 := by omega
    rw [this]; rfl
  · split
    · rename_i h1 h2
      rcases (Bool.or_eq_true_iff.mp h2) with h3 | h3
      · have : j = 1 := by simpa using h3
        subst this
        simp
      · have : t = [] := by
          have := eq_of_beq h3
          rw [sS_len] at this
          exact List.eq_nil_of_length_eq_zero this
        subst this
        simp [sS]
    · unfold sS
      rw [foldl_cps]
      simp
theorem op_strMul : OpR X (binaryOp .Mult) (fun x y H Q => ∃ (s : Txt) (j : Int), x = .str (sS s) ∧ y = .int j ∧ s.length ≤ 16 ∧ -(2 ^ 63) ≤ j ∧ j ≤ 1048576 ∧ Q (.str (sS (List.replicate j.toNat s).flatten)) H) := by
  intro pins s σ H x y v u Q I rx ry h
  obtain ⟨t, j, rfl, rfl, h1, h2, h3, q⟩ := h
  obtain ⟨k1, rfl⟩ := rx
  obtain ⟨k2, rfl⟩ := ry
  refine PySem.W.KXi.mul (n := t.length) (sS_len t) h1 h2 h3 fun t' k _ _ => ⟨.str (sS (List.replicate j.toNat t).flatten), H, I.tok _, ⟨t', ?_⟩, q⟩
  rw [mul_txt]
open Classical in
def rMulX : R2 := fun x y H Q => (rI MulOk (fun i j => .int (i * j)) x y H Q ∨ ∃ (s : Txt) (j : Int), x = .str (sS s) ∧ y = .int j ∧ s.length ≤ 16 ∧ -(2 ^ 63) ≤ j ∧ j ≤ 1048576 ∧ Q (.str (sS (List.replicate j.toNat s).flatten)) H) ∨ rRep x y H Q
theorem op_mulXX : OpR X (binaryOp .Mult) rMulX := (op_mulX.or op_strMul).or op_rep
theorem ok_mulL {al : Bool} {F : Hp} {ro : List Addr} {m : Mu} {H : Hp} {x : V} {j : Int} {dx : D} {W : WX} {s : L2.St} {Q : VK} (sim : SimH X.K C F ro m H) (rx : Rep X.K C F ro x dx)
    (p : Post X.K C F ro W s Q (match listOf m dx with
    | some xs => if -(2 ^ 63) ≤ j ∧ j < 2 ^ 63 ∧ xs.length * j.toNat ≤ 1048576 then mkL al (List.replicate j.toNat xs).flatten m else .stuck
    | none => .stuck)) : rRep x (.int j) H Q := by
  cases h1 : listOf m dx with
  | none => rw [h1] at p; exact p.elim
  | some xs =>
    rw [h1] at p
    obtain ⟨a, vs, rfl, e1, r1⟩ := listOf_rep sim rx h1
    dsimp only at p
    split at p
    · rename_i hl
      exact ⟨a, j, vs, rfl, rfl, e1, hl.1, hl.2.1, by rw [r1.length, sizeLine_eq]; omega, fun l hl => p.newL sim (r1.rep _) hl⟩
    · exact p.elim
open Classical in
theorem ok_mul (al : Bool) : OpOk X C rMulX (mulD al) := fun F ro m H x y dx dy W s Q sim rx ry p => by
  cases ry with
  | int j =>
    cases rx with
    | int i =>
      have p' : Post X.K C F ro W s Q (if MulOk i j then .ok (.int (i * j)) m else .stuck) := p
      split at p'
      · rename_i h; exact .inl (.inl ⟨i, j, rfl, rfl, h, p'.val sim (.int _)⟩)
      · exact p'.elim
    | str t =>
      have p' : Post X.K C F ro W s Q (if t.length ≤ 16 ∧ -(2 ^ 63) ≤ j ∧ j ≤ 1048576 then .ok (.str (List.replicate j.toNat t).flatten) m else .stuck) := p
      split at p'
      · rename_i h; exact .inl (.inr ⟨t, j, rfl, rfl, h.1, h.2.1, h.2.2, p'.val sim (.str _)⟩)
      · exact p'.elim
    | lst q r => exact .inr (ok_mulL sim (.lst q r) p)
    | loc q => exact .inr (ok_mulL sim (.loc q) p)
    | _ => exact p.elim
  | _ => cases rx <;> exact p.elim

/-! ### comparisons of ints -/
def ltD (x y : D) (m : Mu) : R D := intsD x y fun i j => .ok (.bl (decide (i < j))) m
def leD (x y : D) (m : Mu) : R D := intsD x y fun i j => .ok (.bl (decide (i ≤ j))) m
def gtD (x y : D) (m : Mu) : R D := intsD x y fun i j => .ok (.bl (decide (j < i))) m
def geD (x y : D) (m : Mu) : R D := intsD x y fun i j => .ok (.bl (decide (j ≤ i))) m
theorem ok_lt : OpOk X C (rI0 fun i j => .bl (decide (i < j))) ltD := fun F ro m H x y dx dy W s Q sim rx ry p => by
  obtain ⟨i, j, rfl, rfl, p⟩ := ints_of rx ry p
  exact ⟨i, j, rfl, rfl, p.val sim (.bl _)⟩
theorem ok_le : OpOk X C (rI0 fun i j => .bl (decide (i ≤ j))) leD := fun F ro m H x y dx dy W s Q sim rx ry p => by
  obtain ⟨i, j, rfl, rfl, p⟩ := ints_of rx ry p
  exact ⟨i, j, rfl, rfl, p.val sim (.bl _)⟩
theorem ok_gt : OpOk X C (rI0 fun i j => .bl (decide (j < i))) gtD := fun F ro m H x y dx dy W s Q sim rx ry p => by
  obtain ⟨i, j, rfl, rfl, p⟩ := ints_of rx ry p
  exact ⟨i, j, rfl, rfl, p.val sim (.bl _)⟩
theorem ok_ge : OpOk X C (rI0 fun i j => .bl (decide (j ≤ i))) geD := fun F ro m H x y dx dy W s Q sim rx ry p => by
  obtain ⟨i, j, rfl, rfl, p⟩ := ints_of rx ry p
  exact ⟨i, j, rfl, rfl, p.val sim (.bl _)⟩
/-- a op b op c -/
def mChain (g g' : D → D → Mu → R D) (fa fb fc : EF) : EF := fun e m => (fa e m).bind fun x m1 => (fb e m1).bind fun y m2 => (g x y m2).bind fun z m3 => match z with
  | .bl k => if k = true then (fc e m3).bind fun w m4 => g' y w m4 else .ok (.bl false) m3
  | _ => .stuck
theorem chain_read {r r' : R2} {g g' : D → D → Mu → R D} {fc : EF} (h1 : OpOk X C r g) (h2 : OpOk X C r' g') (ng : ∀ x y m c d m', g x y m ≠ .exc c d m') {s : L2.St} {H : Hp} {Q : VK} (q : tE X.K C W (mChain g g' fa fb fc) s H Q) :
    tChain r r' (tE X.K C W fa) (tE X.K C W fb) (tE X.K C W fc) s H Q := by
  obtain ⟨F, ro, e, m, sim, p⟩ := q
  refine tE_bind sim p fun x H1 F1 ro1 m1 dx x1 sim1 r1 p1 => ?_
  refine tE_bind sim1 p1 fun y H2 F2 ro2 m2 dy x2 sim2 r2 p2 => ?_
  refine h1 F2 ro2 m2 H2 x y dx dy W s _ sim2.h (r1.mono x2) r2 ?_
  cases hg : g dx dy m2 with
  | ok z m3 =>
    rw [hg] at p2
    intro v H3 F3 ro3 x3 a3 r3
    have p3 := Post.mono x3 p2
    cases r3 with
    | bl k =>
      refine ⟨k, rfl, ?_⟩
      cases k with
      | false => exact p3.val a3 (.bl false)
      | true => exact tE_bind (sim2.mk' x3 a3) p3 fun w H4 F4 ro4 m4 dw x4 sim4 r4 p4 => h2 F4 ro4 m4 H4 y w dy dw W s Q sim4.h ((r2.mono x3).mono x4) r4 p4
    | _ => exact p3.elim
  | exc c d m3 => exact absurd hg (ng _ _ _ _ _ _)
  | stuck => rw [hg] at p2; exact p2.elim
theorem noexc_ints {f : Int → Int → D} : ∀ (x y : D) (m : Mu) (c : Nat) (d : D) (m' : Mu), (intsD x y fun i j => .ok (f i j) m) ≠ .exc c d m' := fun x y m c d m' q => by
  unfold intsD at q
  split at q <;> cases q
theorem se_chain {op op' : CmpOp} {r r' : R2} {g g' : D → D → Mu → R D} {fc : EF} {c : Expr} (ho : OpR X (compareOp op) r) (ho' : OpR X (compareOp op') r') (h1 : OpOk X C r g) (h2 : OpOk X C r' g') (ng : ∀ x y m c d m', g x y m ≠ .exc c d m')
    (ha : PE X a (tE X.K C W fa)) (hb : PE X b (tE X.K C W fb)) (hc : PE X c (tE X.K C W fc)) (hm : lastMarks [op, op'] [b, c] = false := by with_unfolding_all rfl) : PE X (.Compare a [op, op'] [b, c] pos) (tE X.K C W (mChain g g' fa fb fc)) :=
  PE.im (pe_chain ho ho' ha hb hc hm) fun s H Q q => chain_read h1 h2 ng q
theorem st_chain {op op' : CmpOp} {r r' : R2} {g g' : D → D → Mu → R D} {fc : EF} {c : Expr} (ho : OpR X (compareOp op) r) (ho' : OpR X (compareOp op') r') (h1 : OpOk X C r g) (h2 : OpOk X C r' g') (ng : ∀ x y m c d m', g x y m ≠ .exc c d m')
    (ha : PE X a (tE X.K C W fa)) (hb : PE X b (tE X.K C W fb)) (hc : PE X c (tE X.K C W fc)) (hm : lastMarks [op, op'] [b, c] = false := by with_unfolding_all rfl) : PT X (.Compare a [op, op'] [b, c] pos) (tT X.K C W (mTest (mChain g g' fa fb fc))) :=
  PT.im (pt_chain ho ho' ha hb hc hm) fun s H Q q => test_read (t := tChain r r' (tE X.K C W fa) (tE X.K C W fb) (tE X.K C W fc)) (fun s H Q q => chain_read h1 h2 ng q) q
/-- unary minus -/
def mNeg (fa : EF) : EF := fun e m => (fa e m).bind fun x m1 => match x with
  | .int i => .ok (.int (-i)) m1
  | _ => .stuck
theorem se_neg (ha : PE X a (tE X.K C W fa)) : PE X (.UnaryOp .USub a pos) (tE X.K C W (mNeg fa)) :=
  PE.im (pe_un un_neg ha) fun s H Q ⟨F, ro, e, m, sim, p⟩ => tE_bind sim p fun x H1 F1 ro1 m1 d x1 sim1 r1 p1 => by
    cases r1 with
    | int i => exact ⟨i, rfl, p1.val sim1.h (.int _)⟩
    | _ => exact p1.elim

/-! ### == of data, is -/
def toPy (m : Mu) : Nat → D → Option PyData
  | 0, _ => none
  | n + 1, d => match d with
    | .non => some .none
    | .bl b => some (.bool b)
    | .int i => some (.int i)
    | .str s => some (.str (sS s))
    | .tup ds => (optL (toPy m n) ds).map .tuple
    | .lst ds => (optL (toPy m n) ds).map .list
    | .scr ns => some (.list (ns.map .int))
    | .loc i => match m[i]? with
      | some (.lst ds) => (optL (toPy m n) ds).map .list
      | _ => none
    | _ => none
theorem optL_dp {K : PySem.W.Frag} {F : Hp} {ro : List Addr} {H : Hp} {f : D → Option PyData} (ih : ∀ v d p, Rep K C F ro v d → f d = some p → Dp K H v p) : ∀ {vs : List V} {ds : List D} {ps : List PyData}, Reps K C F ro vs ds → optL f ds = some ps → DpAll K H vs ps
  | _, _, _, .nil, e => by cases e; exact .nil
  | _, _, _, .cons h t, e => by
    unfold optL at e
    split at e
    · rename_i y ys h1 h2
      cases e
      exact .cons (ih _ _ _ h h1) (optL_dp ih t h2)
    · cases e
theorem dp_ints {K : PySem.W.Frag} {H : Hp} : ∀ ns : List Int, DpAll K H (ns.map V.int) (ns.map PyData.int)
  | [] => .nil
  | n :: ns => .cons (.int n) (dp_ints ns)
theorem toPy_dp {K : PySem.W.Frag} {F : Hp} {ro : List Addr} {m : Mu} {H : Hp} (sim : SimH K C F ro m H) : ∀ (n : Nat) (v : V) (d : D) (p : PyData), Rep K C F ro v d → toPy m n d = some p → Dp K H v p
  | 0, _, _, _, _, e => by cases e
  | n + 1, v, d, p, r, e => by
    have ih := toPy_dp sim n
    cases r with
    | non => cases e; exact .non
    | bl b => cases e; exact .bl b
    | int i => cases e; exact .int i
    | str s => cases e; exact .str _
    | tup q r =>
      obtain ⟨ps, h1, rfl⟩ := Option.map_eq_some_iff.mp e
      exact .tup (.of (sim.exact q rfl)) (optL_dp ih r h1)
    | lst q r =>
      obtain ⟨ps, h1, rfl⟩ := Option.map_eq_some_iff.mp e
      exact .lst (.of (sim.exact q rfl)) (optL_dp ih r h1)
    | scr q => cases e; exact .lst (sim.sql q) (dp_ints _)
    | @loc a i q =>
      have e' : (match m[i]? with | some (.lst ds) => (optL (toPy m n) ds).map PyData.list | _ => none) = some p := e
      split at e'
      · rename_i ds hm
        obtain ⟨u, h1, h2, h3⟩ := sim.at q hm
        cases h3 with
        | lst r =>
          obtain ⟨ps, h4, rfl⟩ := Option.map_eq_some_iff.mp e'
          exact .lst (.of h1) (optL_dp ih r h4)
      · cases e'
    | _ => cases e
def eqB (x y : D) (m : Mu) : Option Bool := match x, y with
  | .int i, .int j => some (decide (i = j))
  | .str s, .str t => some (decide (s = t))
  | .bl a, .bl b => some (decide (a = b))
  | x, y => match toPy m 8 x, toPy m 8 y with
    | some a, some b => if SeqAt.shaped a = true ∧ SeqAt.shaped b = true then some (PyData.eqv a b) else none
    | _, _ => none
def bR (o : Option Bool) (m : Mu) : R D := match o with
  | some b => .ok (.bl b) m
  | none => .stuck
def eqD (x y : D) (m : Mu) : R D := bR (eqB x y m) m
def neD (x y : D) (m : Mu) : R D := bR ((eqB x y m).map (!·)) m
theorem eqB_of {K : PySem.W.Frag} {F : Hp} {ro : List Addr} {m : Mu} {H : Hp} {x y : V} {dx dy : D} {c : Bool} (sim : SimH K C F ro m H) (rx : Rep K C F ro x dx) (ry : Rep K C F ro y dy) (e : eqB dx dy m = some c) :
    (scal x y = true ∧ c = decide (x = y)) ∨ ∃ d f, Dp K H x d ∧ Dp K H y f ∧ SeqAt.shaped d = true ∧ SeqAt.shaped f = true ∧ c = PyData.eqv d f := by
  have deep : ∀ {dx dy : D}, Rep K C F ro x dx → Rep K C F ro y dy → (match toPy m 8 dx, toPy m 8 dy with
    | some a, some b => if SeqAt.shaped a = true ∧ SeqAt.shaped b = true then some (PyData.eqv a b) else none
    | _, _ => none) = some c → ∃ d f, Dp K H x d ∧ Dp K H y f ∧ SeqAt.shaped d = true ∧ SeqAt.shaped f = true ∧ c = PyData.eqv d f := fun {dx dy} rx ry e => by
    cases h1 : toPy m 8 dx with
    | none => rw [h1] at e; cases e
    | some a =>
      cases h2 : toPy m 8 dy with
      | none => rw [h1, h2] at e; cases e
      | some b =>
        rw [h1, h2] at e
        dsimp only at e
        split at e
        · rename_i hs
          cases e
          exact ⟨a, b, toPy_dp sim 8 _ _ _ rx h1, toPy_dp sim 8 _ _ _ ry h2, hs.1, hs.2, rfl⟩
        · cases e
  cases rx with
  | int i =>
    cases ry with
    | int j => cases e; exact .inl ⟨rfl, by rw [dec_int]; by_cases h : i = j <;> simp [h]⟩
    | non => exact .inr (deep (.int i) .non e)
    | bl b => exact .inr (deep (.int i) (.bl b) e)
    | str s => exact .inr (deep (.int i) (.str s) e)
    | tup q r => exact .inr (deep (.int i) (.tup q r) e)
    | lst q r => exact .inr (deep (.int i) (.lst q r) e)
    | scr q => exact .inr (deep (.int i) (.scr q) e)
    | loc q => exact .inr (deep (.int i) (.loc q) e)
    | _ => cases e
  | str s =>
    cases ry with
    | str t => cases e; exact .inl ⟨rfl, (sS_dec s t).symm⟩
    | non => exact .inr (deep (.str s) .non e)
    | bl b => exact .inr (deep (.str s) (.bl b) e)
    | int i => exact .inr (deep (.str s) (.int i) e)
    | tup q r => exact .inr (deep (.str s) (.tup q r) e)
    | lst q r => exact .inr (deep (.str s) (.lst q r) e)
    | scr q => exact .inr (deep (.str s) (.scr q) e)
    | loc q => exact .inr (deep (.str s) (.loc q) e)
    | _ => cases e
  | bl a =>
    cases ry with
    | bl b => cases e; exact .inl ⟨rfl, by rw [dec_bl]; cases a <;> cases b <;> rfl⟩
    | non => exact .inr (deep (.bl a) .non e)
    | str b => exact .inr (deep (.bl a) (.str b) e)
    | int i => exact .inr (deep (.bl a) (.int i) e)
    | tup q r => exact .inr (deep (.bl a) (.tup q r) e)
    | lst q r => exact .inr (deep (.bl a) (.lst q r) e)
    | scr q => exact .inr (deep (.bl a) (.scr q) e)
    | loc q => exact .inr (deep (.bl a) (.loc q) e)
    | _ => cases e
  | non => exact .inr (deep .non ry e)
  | tup q r => exact .inr (deep (.tup q r) ry e)
  | lst q r => exact .inr (deep (.lst q r) ry e)
  | scr q => exact .inr (deep (.scr q) ry e)
  | loc q => exact .inr (deep (.loc q) ry e)
  | dct q r => cases e
  | dck q r => cases e
  | ins q r => cases e
  | ktp q => cases e
def rEqX (K : PySem.W.Frag) : R2 := fun x y H Q => rEq x y H Q ∨ rEqD K x y H Q
def rNeX (K : PySem.W.Frag) : R2 := fun x y H Q => rNe x y H Q ∨ rNeD K x y H Q
theorem op_eqX (hu : X.A.units + 64 < cLine) : OpR X (compareOp .Eq) (rEqX X.K) := op_eq.or (op_eqD hu)
theorem op_neX (hu : X.A.units + 64 < cLine) : OpR X (compareOp .NotEq) (rNeX X.K) := op_ne.or (op_neD hu)
theorem ok_eq : OpOk X C (rEqX X.K) eqD := fun F ro m H x y dx dy W s Q sim rx ry p => by
  unfold eqD at p
  cases e : eqB dx dy m with
  | none => rw [e] at p; exact p.elim
  | some c =>
    rw [e] at p
    have q := p.val sim (.bl c)
    rcases eqB_of sim rx ry e with ⟨h, rfl⟩ | ⟨d, f, h1, h2, h3, h4, rfl⟩
    · exact .inl ⟨h, q⟩
    · exact .inr ⟨d, f, h1, h2, h3, h4, q⟩
theorem ok_ne : OpOk X C (rNeX X.K) neD := fun F ro m H x y dx dy W s Q sim rx ry p => by
  unfold neD at p
  cases e : eqB dx dy m with
  | none => rw [e] at p; exact p.elim
  | some c =>
    rw [e] at p
    have q := p.val sim (.bl (!c))
    rcases eqB_of sim rx ry e with ⟨h, rfl⟩ | ⟨d, f, h1, h2, h3, h4, rfl⟩
    · exact .inl ⟨h, q⟩
    · exact .inr ⟨d, f, h1, h2, h3, h4, q⟩
def isNonB : D → Bool
  | .non => true
  | _ => false
/-- x is y: y None; both truth values -/
def isD (x y : D) (m : Mu) : R D := match y with
  | .non => .ok (.bl (isNonB x)) m
  | .bl b => (match x with
    | .bl a => .ok (.bl (decide (a = b))) m
    | _ => .stuck)
  | _ => .stuck
def isnD (x y : D) (m : Mu) : R D := match y with
  | .non => .ok (.bl (!isNonB x)) m
  | .bl b => (match x with
    | .bl a => .ok (.bl (!decide (a = b))) m
    | _ => .stuck)
  | _ => .stuck
theorem isNon_of {K : PySem.W.Frag} {F : Hp} {ro : List Addr} {x : V} {d : D} (r : Rep K C F ro x d) : decide (x = .non) = isNonB d := by
  cases r <;> simp [isNonB]
def rIsX : R2 := fun x y H Q => (y = .non ∧ Q (.bl (decide (x = .non))) H) ∨ rIsB x y H Q
def rIsnX : R2 := fun x y H Q => (y = .non ∧ Q (.bl (!decide (x = .non))) H) ∨ rNotB x y H Q
theorem op_isX : OpR X (compareOp .Is) rIsX := op_isN.or op_isBl
theorem op_isnX : OpR X (compareOp .IsNot) rIsnX := op_notN.or op_notBl
theorem ok_is : OpOk X C rIsX isD := fun F ro m H x y dx dy W s Q sim rx ry p => by
  cases ry with
  | non => exact .inl ⟨rfl, by rw [isNon_of rx]; exact p.val sim (.bl _)⟩
  | bl b =>
    cases rx with
    | bl a => exact .inr ⟨a, b, rfl, rfl, p.val sim (.bl _)⟩
    | _ => exact p.elim
  | _ => exact p.elim
theorem ok_isn : OpOk X C rIsnX isnD := fun F ro m H x y dx dy W s Q sim rx ry p => by
  cases ry with
  | non => exact .inl ⟨rfl, by rw [isNon_of rx]; exact p.val sim (.bl _)⟩
  | bl b =>
    cases rx with
    | bl a => exact .inr ⟨a, b, rfl, rfl, p.val sim (.bl _)⟩
    | _ => exact p.elim
  | _ => exact p.elim
end
end SL
namespace SL
open PySem PySem.Spec PyProof.Rows L2

/-! ### keys -/
def atomK : D → Option Key
  | .int i => some (.inl i)
  | .str s => some (.inr (sS s))
  | _ => none
def keyT : D → Option (List Key)
  | .tup ds => optL atomK ds
  | _ => none
section
variable {K : PySem.W.Frag} {C : Nat → Addr} {F : Hp} {ro : List Addr} {m : Mu} {H : Hp} {x y : V} {d dy : D}
theorem atomK_rep (r : Rep K C F ro x d) {k : Key} (e : atomK d = some k) : x = kV k := by
  cases r <;> first | (cases e; rfl) | cases e
theorem atomKs_rep : ∀ {vs : List V} {ds : List D} {ks : List Key}, Reps K C F ro vs ds → optL atomK ds = some ks → vs = ks.map kV
  | _, _, _, .nil, e => by cases e; rfl
  | _, _, _, .cons h t, e => by
    unfold optL at e
    split at e
    · rename_i y ys h1 h2
      cases e
      rw [atomK_rep h h1, atomKs_rep t h2]; rfl
    · cases e
theorem keyT_rep (sim : SimH K C F ro m H) (r : Rep K C F ro x d) {k : List Key} (e : keyT d = some k) : ∃ b, x = .ref b ∧ H b = some (.tup (k.map kV)) := by
  cases r with
  | @tup a vs ds q r =>
    have e' : optL atomK ds = some k := e
    have := atomKs_rep r e'
    subst this
    exact ⟨a, rfl, sim.exact q rfl⟩
  | _ => cases e
/-- what a table holds -/
def lookD {κ : Type} [DecidableEq κ] (kvs : List (κ × D)) (k : κ) : Option D := (kvs.find? fun kv => decide (kv.1 = k)).map (·.2)
def putDD {κ : Type} [DecidableEq κ] (kvs : List (κ × D)) (k : κ) (v : D) : List (κ × D) :=
  if (kvs.any fun kv => decide (kv.1 = k)) = true then kvs.map fun kv => if kv.1 = k then (kv.1, v) else kv else kvs ++ [(k, v)]
def OptRep (K : PySem.W.Frag) (C : Nat → Addr) (F : Hp) (ro : List Addr) : Option V → Option D → Prop
  | some v, some d => Rep K C F ro v d
  | none, none => True
  | _, _ => False
theorem RepT.look {k : List Key} : ∀ {vs : List (List Key × V)} {ds : List (List Key × D)}, RepT K C F ro vs ds → OptRep K C F ro (valV vs k) (lookD ds k)
  | _, _, .nil => trivial
  | _, _, @RepT.cons _ _ _ _ k' v d vs ds h t => by
    have ih := RepT.look (k := k) t
    unfold lookD valV at ih ⊢
    by_cases e : k' = k
    · simp only [List.find?_cons, e, decide_true, Option.map_some]; exact h
    · simp only [List.find?_cons, e, decide_false]; exact ih
theorem RepK.look {k : Key} : ∀ {vs : List (Key × V)} {ds : List (Key × D)}, RepK K C F ro vs ds → OptRep K C F ro (valV vs k) (lookD ds k)
  | _, _, .nil => trivial
  | _, _, @RepK.cons _ _ _ _ k' v d vs ds h t => by
    have ih := RepK.look (k := k) t
    unfold lookD valV at ih ⊢
    by_cases e : k' = k
    · simp only [List.find?_cons, e, decide_true, Option.map_some]; exact h
    · simp only [List.find?_cons, e, decide_false]; exact ih
theorem RepT.any_ {k : List Key} : ∀ {vs : List (List Key × V)} {ds : List (List Key × D)}, RepT K C F ro vs ds → (vs.any fun kv => decide (kv.1 = k)) = (ds.any fun kv => decide (kv.1 = k))
  | _, _, .nil => rfl
  | _, _, .cons h t => by simp only [List.any_cons, RepT.any_ t]
theorem RepK.any_ {k : Key} : ∀ {vs : List (Key × V)} {ds : List (Key × D)}, RepK K C F ro vs ds → (vs.any fun kv => decide (kv.1 = k)) = (ds.any fun kv => decide (kv.1 = k))
  | _, _, .nil => rfl
  | _, _, .cons h t => by simp only [List.any_cons, RepK.any_ t]
theorem RepT.repl {k : List Key} {v : V} {d : D} (r : Rep K C F ro v d) : ∀ {vs : List (List Key × V)} {ds : List (List Key × D)}, RepT K C F ro vs ds → RepT K C F ro (vs.map fun kv => if kv.1 = k then (kv.1, v) else kv) (ds.map fun kv => if kv.1 = k then (kv.1, d) else kv)
  | _, _, .nil => .nil
  | _, _, @RepT.cons _ _ _ _ k' v' d' vs ds h t => by
    have ih := RepT.repl (k := k) r t
    simp only [List.map_cons]
    by_cases e : k' = k
    · simp only [e, if_true]; exact .cons r ih
    · simp only [e, if_false]; exact .cons h ih
theorem RepK.repl {k : Key} {v : V} {d : D} (r : Rep K C F ro v d) : ∀ {vs : List (Key × V)} {ds : List (Key × D)}, RepK K C F ro vs ds → RepK K C F ro (vs.map fun kv => if kv.1 = k then (kv.1, v) else kv) (ds.map fun kv => if kv.1 = k then (kv.1, d) else kv)
  | _, _, .nil => .nil
  | _, _, @RepK.cons _ _ _ _ k' v' d' vs ds h t => by
    have ih := RepK.repl (k := k) r t
    simp only [List.map_cons]
    by_cases e : k' = k
    · simp only [e, if_true]; exact .cons r ih
    · simp only [e, if_false]; exact .cons h ih
theorem RepT.snoc {k : List Key} {v : V} {d : D} (r : Rep K C F ro v d) : ∀ {vs : List (List Key × V)} {ds : List (List Key × D)}, RepT K C F ro vs ds → RepT K C F ro (vs ++ [(k, v)]) (ds ++ [(k, d)])
  | _, _, .nil => .cons r .nil
  | _, _, .cons h t => .cons h (RepT.snoc r t)
theorem RepK.snoc {k : Key} {v : V} {d : D} (r : Rep K C F ro v d) : ∀ {vs : List (Key × V)} {ds : List (Key × D)}, RepK K C F ro vs ds → RepK K C F ro (vs ++ [(k, v)]) (ds ++ [(k, d)])
  | _, _, .nil => .cons r .nil
  | _, _, .cons h t => .cons h (RepK.snoc r t)
theorem RepT.put {k : List Key} {v : V} {d : D} (r : Rep K C F ro v d) {vs : List (List Key × V)} {ds : List (List Key × D)} (h : RepT K C F ro vs ds) : RepT K C F ro (putK vs k v) (putDD ds k d) := by
  unfold putK putDD
  rw [h.any_]
  split
  · exact h.repl r
  · exact h.snoc r
theorem RepK.put {k : Key} {v : V} {d : D} (r : Rep K C F ro v d) {vs : List (Key × V)} {ds : List (Key × D)} (h : RepK K C F ro vs ds) : RepK K C F ro (putK vs k v) (putDD ds k d) := by
  unfold putK putDD
  rw [h.any_]
  split
  · exact h.repl r
  · exact h.snoc r
theorem RepT.length : ∀ {vs : List (List Key × V)} {ds : List (List Key × D)}, RepT K C F ro vs ds → vs.length = ds.length
  | _, _, .nil => rfl
  | _, _, .cons _ t => congrArg (· + 1) (RepT.length t)
theorem RepK.length : ∀ {vs : List (Key × V)} {ds : List (Key × D)}, RepK K C F ro vs ds → vs.length = ds.length
  | _, _, .nil => rfl
  | _, _, .cons _ t => congrArg (· + 1) (RepK.length t)
theorem dctOf_rep (sim : SimH K C F ro m H) (r : Rep K C F ro x d) {ks : List (List Key × D)} (e : dctOf m d = some ks) : ∃ a vs, x = .ref a ∧ Rd H a (.dT vs) ∧ RepT K C F ro vs ks := by
  cases r with
  | dct q r =>
    cases e
    refine ⟨_, _, rfl, ?_, r⟩
    rcases sim.sub _ _ q with h | ⟨_, ob, h⟩
    · exact .inl h
    · exact .inr ⟨ob, h⟩
  | loc q =>
    obtain ⟨u, h1, h2, h3⟩ := sim.at q (dctOf_loc e)
    cases h3 with
    | dct r => exact ⟨_, _, rfl, .inl h1, r⟩
  | _ => cases e
theorem dckOf_rep (sim : SimH K C F ro m H) (r : Rep K C F ro x d) {ks : List (Key × D)} (e : dckOf m d = some ks) : ∃ a vs, x = .ref a ∧ Rd H a (.dK vs) ∧ RepK K C F ro vs ks := by
  cases r with
  | dck q r =>
    cases e
    refine ⟨_, _, rfl, ?_, r⟩
    rcases sim.sub _ _ q with h | ⟨_, ob, h⟩
    · exact .inl h
    · exact .inr ⟨ob, h⟩
  | loc q =>
    obtain ⟨u, h1, h2, h3⟩ := sim.at q (dckOf_loc e)
    cases h3 with
    | dck r => exact ⟨_, _, rfl, .inl h1, r⟩
  | _ => cases e
/-- what the dict d holds at the key y -/
def getDD (m : Mu) (d y : D) : Option (Option D) := match dctOf m d, keyT y with
  | some ks, some k => some (lookD ks k)
  | _, _ => match dckOf m d, atomK y with
    | some ks, some k => some (lookD ks k)
    | _, _ => none
theorem getDD_rep (sim : SimH K C F ro m H) (r : Rep K C F ro x d) (ry : Rep K C F ro y dy) {o : Option D} (e : getDD m d dy = some o) : ∃ a ov, x = .ref a ∧ DGet H a y ov ∧ OptRep K C F ro ov o := by
  unfold getDD at e
  split at e
  · rename_i ks k h1 h2
    cases e
    obtain ⟨a, vs, rfl, hq, rr⟩ := dctOf_rep sim r h1
    obtain ⟨b, rfl, hb⟩ := keyT_rep sim ry h2
    exact ⟨a, _, rfl, .inr ⟨vs, k, b, hq, rfl, hb, rfl⟩, rr.look⟩
  · split at e
    · rename_i ks k h1 h2
      cases e
      obtain ⟨a, vs, rfl, hq, rr⟩ := dckOf_rep sim r h1
      exact ⟨a, _, rfl, .inl ⟨vs, k, hq, atomK_rep ry h2, rfl⟩, rr.look⟩
    · cases e
end

/-! ### in -/
def txtsOf : D → Option (List Txt)
  | .ktp ss => some ss
  | _ => none
def inB (x y : D) (m : Mu) : Option Bool := match y with
  | .str t => (match x with
    | .str [c] => some (decide (c ∈ t))
    | _ => none)
  | .ktp ss => (match x with
    | .str s => some (decide (s ∈ ss))
    | _ => none)
  | y => match listOf m y with
    | some _ => (match toPy m 8 x, toPy m 8 y with
      | some a, some (.list bs) => if SeqAt.shaped a = true ∧ SeqAt.shaped (.list bs) = true then some (bs.any fun z => PyData.eqv z a) else none
      | _, _ => none)
    | none => (getDD m y x).map (·.isSome)
def inD (x y : D) (m : Mu) : R D := bR (inB x y m) m
def ninD (x y : D) (m : Mu) : R D := bR ((inB x y m).map (!·)) m
section
variable {X : Cx} {C : Nat → Addr} {W : WX} {ex a b : Expr} {pos : Pos} {fa fb : EF}
def rDIn (neg : Bool) : R2 := fun y x H Q => ∃ a o, x = .ref a ∧ DGet H a y o ∧ Q (.bl (if neg then !o.isSome else o.isSome)) H
theorem op_dIn (hu : X.A.units + 1 < cLine) : OpR X (compareOp .In) (rDIn false) := by
  intro pins s σ H y x v u Q I ry rx h
  obtain ⟨a, o, rfl, g, q⟩ := h
  cases rx
  exact d_in hu I g ry fun s3 I3 => ⟨.bl o.isSome, H, I3, rfl, q⟩
theorem op_dNin (hu : X.A.units + 1 < cLine) : OpR X (compareOp .NotIn) (rDIn true) := by
  intro pins s σ H y x v u Q I ry rx h
  obtain ⟨a, o, rfl, g, q⟩ := h
  cases rx
  exact d_notIn hu I g ry fun s3 I3 => ⟨.bl (!o.isSome), H, I3, rfl, q⟩
def rSgn (neg : Bool) : R2 := fun x y H Q => ∃ (c : Nat) (z : Str), x = .str ⟨#[c]⟩ ∧ y = .str z ∧ Q (.bl (if neg then !decide (c ∈ z.cps.toList) else decide (c ∈ z.cps.toList))) H
theorem op_sgnIn : OpR X (compareOp .In) (rSgn false) := op_in_sign
theorem op_sgnNin : OpR X (compareOp .NotIn) (rSgn true) := op_notIn_sign
def rInDD (K : PySem.W.Frag) (neg : Bool) : R2 := fun x y H Q => ∃ d ds, Dp K H x d ∧ Dp K H y (.list ds) ∧ SeqAt.shaped d = true ∧ SeqAt.shaped (.list ds) = true ∧ Q (.bl (if neg then !(ds.any fun z => PyData.eqv z d) else (ds.any fun z => PyData.eqv z d))) H
theorem op_lIn (hu : X.A.units + 65 < cLine) : OpR X (compareOp .In) (rInDD X.K false) := op_inD hu
theorem op_lNin (hu : X.A.units + 65 < cLine) : OpR X (compareOp .NotIn) (rInDD X.K true) := op_notInD hu
def rInX (K : PySem.W.Frag) (neg : Bool) : R2 := fun x y H Q => ((rSgn neg x y H Q ∨ rIn K neg x y H Q) ∨ rInDD K neg x y H Q) ∨ rDIn neg x y H Q
theorem op_inX (hu : X.A.units + 65 < cLine) : OpR X (compareOp .In) (rInX X.K false) := ((op_sgnIn.or op_in_seq).or (op_lIn hu)).or (op_dIn (by omega))
theorem op_ninX (hu : X.A.units + 65 < cLine) : OpR X (compareOp .NotIn) (rInX X.K true) := ((op_sgnNin.or op_notIn_seq).or (op_lNin hu)).or (op_dNin (by omega))
theorem inV_txts (s : Txt) : ∀ ss : List Txt, inV (.str (sS s)) (ss.map fun s => V.str ⟨s.toArray⟩) = decide (s ∈ ss)
  | [] => rfl
  | t :: ss => by
    have ih := inV_txts s ss
    have e1 : inV (.str (sS s)) ((t :: ss).map fun s => V.str ⟨s.toArray⟩) = (eqV (.str (sS t)) (.str (sS s)) || inV (.str (sS s)) (ss.map fun s => V.str ⟨s.toArray⟩)) := rfl
    have e2 : eqV (.str (sS t)) (.str (sS s)) = decide (t = s) := by
      have : eqV (.str (sS t)) (.str (sS s)) = (sS t == sS s) := by first | rfl | simp [eqV]
      rw [this]
      by_cases h : t = s
      · subst h; simp
      · have : sS t ≠ sS s := fun q => h (sS_inj.mp q)
        simp [h, this]
    rw [e1, e2, ih]
    by_cases h : t = s
    · subst h; simp
    · have : ¬ s = t := fun q => h q.symm
      simp [h, this]
theorem inB_read {neg : Bool} {F : Hp} {ro : List Addr} {m : Mu} {H : Hp} {x y : V} {dx dy : D} {c : Bool} {Q : VK} (sim : SimH X.K C F ro m H) (rx : Rep X.K C F ro x dx) (ry : Rep X.K C F ro y dy) (e : inB dx dy m = some c) (q : Q (.bl (if neg then !c else c)) H) : rInX X.K neg x y H Q := by
  have rest : ∀ {dy : D}, Rep X.K C F ro y dy → (match listOf m dy with
    | some _ => (match toPy m 8 dx, toPy m 8 dy with
      | some a, some (.list bs) => if SeqAt.shaped a = true ∧ SeqAt.shaped (.list bs) = true then some (bs.any fun z => PyData.eqv z a) else none
      | _, _ => none)
    | none => (getDD m dy dx).map (·.isSome)) = some c → rInX X.K neg x y H Q := fun {dy} ry e => by
    cases hl : listOf m dy with
    | some xs =>
      rw [hl] at e
      dsimp only at e
      split at e
      · rename_i a bs h1 h2
        split at e
        · rename_i hs
          cases e
          exact .inl (.inr ⟨a, bs, toPy_dp sim 8 _ _ _ rx h1, toPy_dp sim 8 _ _ _ ry h2, hs.1, hs.2, q⟩)
        · cases e
      · cases e
    | none =>
      rw [hl] at e
      obtain ⟨o, h1, h2⟩ := Option.map_eq_some_iff.mp e
      obtain ⟨a, ov, rfl, g, ho⟩ := getDD_rep sim ry rx h1
      refine .inr ⟨a, ov, rfl, g, ?_⟩
      have : ov.isSome = c := by
        rw [← h2]
        cases ov <;> cases o <;> first | rfl | exact ho.elim
      rw [this]; exact q
  cases ry with
  | str t =>
    cases rx with
    | str s =>
      cases s with
      | nil => cases e
      | cons k s' =>
        cases s' with
        | nil =>
          cases e
          refine .inl (.inl (.inl ⟨k, _, rfl, rfl, ?_⟩))
          simpa using q
        | cons _ _ => cases e
    | _ => cases e
  | @ktp a ss h =>
    cases rx with
    | str s =>
      cases e
      refine .inl (.inl (.inr ⟨_, _, rfl, .inr (h H), rfl, by simp [flatV], ?_⟩))
      rw [show inV (V.str ⟨s.toArray⟩) _ = _ from inV_txts s ss]
      exact q
    | _ => cases e
  | lst q r => exact rest (.lst q r) e
  | loc q => exact rest (.loc q) e
  | dct q r => exact rest (.dct q r) e
  | dck q r => exact rest (.dck q r) e
  | tup q r => exact rest (.tup q r) e
  | scr q => exact rest (.scr q) e
  | ins q r => exact rest (.ins q r) e
  | non => exact rest .non e
  | bl _ => exact rest (.bl _) e
  | int _ => exact rest (.int _) e
theorem ok_in : OpOk X C (rInX X.K false) inD := fun F ro m H x y dx dy W s Q sim rx ry p => by
  unfold inD at p
  cases e : inB dx dy m with
  | none => rw [e] at p; exact p.elim
  | some c => rw [e] at p; exact inB_read sim rx ry e (p.val sim (.bl c))
theorem ok_nin : OpOk X C (rInX X.K true) ninD := fun F ro m H x y dx dy W s Q sim rx ry p => by
  unfold ninD at p
  cases e : inB dx dy m with
  | none => rw [e] at p; exact p.elim
  | some c => rw [e] at p; exact inB_read sim rx ry e (p.val sim (.bl (!c)))

/-! ### subscripts -/
def ixR (x i : D) (m : Mu) : R D := match seqOf m x, i with
  | some xs, .int j => (match atI xs j with
    | some d => .ok d m
    | none => .stuck)
  | _, _ => match getDD m x i with
    | some (some d) => .ok d m
    | _ => .stuck
def ixD (x i : D) (m : Mu) : R D := match x, i with
  | .str t, .int j => (match atI t j with
    | some c => if t.length ≤ 1048576 then .ok (.str [c]) m else .stuck
    | none => .stuck)
  | x, i => ixR x i m
theorem Reps.atI {K : PySem.W.Frag} {F : Hp} {ro : List Addr} {vs : List V} {ds : List D} (r : Reps K C F ro vs ds) {j : Int} {d : D} (e : atI ds j = some d) : ∃ v, L2.atI vs j = some v ∧ Rep K C F ro v d := by
  unfold L2.atI at e ⊢
  rw [r.length]
  cases h : ixN ds.length j with
  | none => rw [h] at e; cases e
  | some k =>
    rw [h] at e
    exact r.get e
def rIxDct : R2 := fun x y H Q => ∃ a v, x = .ref a ∧ DGet H a y (some v) ∧ Q v H
theorem ix_dct (hu : X.A.units + 1 < cLine) : IxR X rIxDct := by
  intro value slice pins s σ H x y v u Q I rx ry h hs
  obtain ⟨a, z, rfl, g, q⟩ := h
  cases rx
  exact tail_any (dict_typeIs I g) PySem.F.slot_dict_getitem.lookup (d_getItem hu I g ry fun w' s3 I3 rw' => ⟨z, H, I3, rw', q⟩) hs
def rIxX (K : PySem.W.Frag) : R2 := fun x y H Q => rIx K x y H Q ∨ rIxDct x y H Q
theorem ok_ix : OpOk X C (rIxX X.K) ixD := fun F ro m H x y dx dy W s Q sim rx ry p => by
  have rest : ∀ {dx : D}, Rep X.K C F ro x dx → Post X.K C F ro W s Q (ixR dx dy m) → rIxX X.K x y H Q := fun {dx} rx p => by
    unfold ixR at p
    split at p
    · rename_i xs j hs hpp
      obtain ⟨a, vs, rfl, hq, r⟩ := seqOf_rep sim rx hs
      cases ry
      split at p
      · rename_i d hd
        obtain ⟨v, h1, h2⟩ := r.atI hd
        rcases hq with hq | hq
        · exact .inl (.inl ⟨a, vs, j, v, rfl, rfl, hq, h1, p.val sim h2⟩)
        · exact .inl (.inr (.inl ⟨a, vs, j, v, rfl, rfl, hq, h1, p.val sim h2⟩))
      · exact p.elim
    · split at p
      · rename_i d hd
        obtain ⟨a, ov, rfl, g, ho⟩ := getDD_rep sim rx ry hd
        cases ov with
        | none => exact ho.elim
        | some v => exact .inr ⟨a, v, rfl, g, p.val sim ho⟩
      · exact p.elim
  cases rx with
  | str t =>
    cases ry with
    | int j =>
      have p' : Post X.K C F ro W s Q (match atI t j with
        | some c => if t.length ≤ 1048576 then .ok (.str [c]) m else .stuck
        | none => .stuck) := p
      split at p'
      · rename_i c hc
        split at p'
        · rename_i hl
          refine .inl (.inr (.inr ⟨_, j, c, rfl, rfl, ?_, by simpa using hc, p'.val sim (.str [c])⟩))
          show (sS t).length ≤ sizeLine
          rw [sS_len, sizeLine_eq]; omega
        · exact p'.elim
      · exact p'.elim
    | non => exact rest (.str t) p
    | bl _ => exact rest (.str t) p
    | str _ => exact rest (.str t) p
    | tup q r => exact rest (.str t) p
    | lst q r => exact rest (.str t) p
    | scr q => exact rest (.str t) p
    | dct q r => exact rest (.str t) p
    | dck q r => exact rest (.str t) p
    | ins q r => exact rest (.str t) p
    | loc q => exact rest (.str t) p
    | ktp q => exact rest (.str t) p
  | non => exact rest .non p
  | bl _ => exact rest (.bl _) p
  | int _ => exact rest (.int _) p
  | tup q r => exact rest (.tup q r) p
  | lst q r => exact rest (.lst q r) p
  | scr q => exact rest (.scr q) p
  | dct q r => exact rest (.dct q r) p
  | dck q r => exact rest (.dck q r) p
  | ins q r => exact rest (.ins q r) p
  | loc q => exact rest (.loc q) p
  | ktp q => exact rest (.ktp q) p
theorem se_ix (hu : X.A.units + 64 < cLine) (ha : PE X a (tE X.K C W fa)) (hb : PE X b (tE X.K C W fb)) (hs : PlainIx b) : PE X (.Subscript a b pos) (tE X.K C W (mBin ixD fa fb)) :=
  PE.im (pe_ix (ix_seq.or (ix_dct (by omega))) ha hb hs) fun s H Q q => op_read (r := rIxX X.K) ok_ix q

/-! ### o[i] = v -/
def setM (o : MO) (i v : D) : Option MO := match o with
  | .lst xs => (match i with
    | .int j => (ixN xs.length j).map fun k => .lst (xs.set k v)
    | _ => none)
  | .dct ks => (match keyT i with
    | some k => if ks.length ≤ 1048576 then some (.dct (putDD ks k v)) else none
    | none => none)
  | .dck ks => (match atomK i with
    | some k => if ks.length ≤ 1048576 then some (.dck (putDD ks k v)) else none
    | none => none)
  | _ => none
def setD (o i v : D) (m : Mu) : Option Mu := match o with
  | .loc n => (match m[n]? with
    | some u => (setM u i v).map fun u' => m.set n u'
    | none => none)
  | _ => none
def rSetX : TSet := fun o i v H Q => rSetL o i v H Q ∨ ∃ a H', o = .ref a ∧ DPut H a i v H' ∧ Q H'
theorem set_X (hu : X.A.units + 1 < cLine) : PSet X rSetX := by
  intro pins s σ H o i v ov iv u Q I ro ri rv h
  rcases h with h | ⟨a, H', rfl, g, q⟩
  · exact set_list pins s σ H o i v ov iv u Q I ro ri rv h
  · cases ro
    exact d_setItem hu I g ri rv fun s3 I3 => ⟨H', I3, q⟩
def mGSub (fo fi : EF) : GF := fun v e m => match fo e m with
  | .ok o m1 => (match fi e m1 with
    | .ok i m2 => (match setD o i v m2 with
      | some m3 => .nx e m3
      | none => .stuck)
    | _ => .stuck)
  | _ => .stuck
theorem setD_read {F : Hp} {ro : List Addr} {m m3 : Mu} {H : Hp} {o i v : V} {dO di dv : D} {Q : Hp → Prop} (sim : SimH X.K C F ro m H) (rO : Rep X.K C F ro o dO) (ri : Rep X.K C F ro i di) (rv : Rep X.K C F ro v dv) (e : setD dO di dv m = some m3)
    (q : ∀ H', SimH X.K C F ro m3 H' → Q H') : rSetX o i v H Q := by
  cases rO with
  | @loc a n ha =>
    have e' : (match m[n]? with
      | some u => (setM u di dv).map fun u' => m.set n u'
      | none => none) = some m3 := e
    cases hm : m[n]? with
    | none => rw [hm] at e'; cases e'
    | some u =>
      rw [hm] at e'
      obtain ⟨u', hs, rfl⟩ := Option.map_eq_some_iff.mp e'
      obtain ⟨w, h1, h2, h3⟩ := sim.at ha hm
      cases h3 with
      | lst r =>
        cases ri with
        | int j =>
          obtain ⟨k, hk, rfl⟩ := Option.map_eq_some_iff.mp hs
          exact .inl ⟨a, _, j, k, rfl, rfl, h1, by rw [r.length]; exact hk, q _ (sim.write ha (.lst (Reps.set rv k r)))⟩
        | _ => cases hs
      | @dct vs ds r =>
        have hs' : (match keyT di with | some k => if ds.length ≤ 1048576 then some (.dct (putDD ds k dv)) else none | none => none) = some u' := hs
        cases hk : keyT di with
        | none => rw [hk] at hs'; cases hs'
        | some k =>
          rw [hk] at hs'
          dsimp only at hs'
          split at hs'
          · rename_i hl
            cases hs'
            obtain ⟨b, rfl, hb⟩ := keyT_rep sim ri hk
            exact .inr ⟨a, _, rfl, .inr ⟨_, k, b, h1, rfl, hb, by rw [r.length, sizeLine_eq]; omega, rfl⟩, q _ (sim.write ha (.dct (r.put rv)))⟩
          · cases hs'
      | @dck vs ds r =>
        have hs' : (match atomK di with | some k => if ds.length ≤ 1048576 then some (.dck (putDD ds k dv)) else none | none => none) = some u' := hs
        cases hk : atomK di with
        | none => rw [hk] at hs'; cases hs'
        | some k =>
          rw [hk] at hs'
          dsimp only at hs'
          split at hs'
          · rename_i hl
            cases hs'
            have := atomK_rep ri hk
            subst this
            exact .inr ⟨a, _, rfl, .inl ⟨_, k, h1, rfl, by rw [r.length, sizeLine_eq]; omega, rfl⟩, q _ (sim.write ha (.dck (r.put rv)))⟩
          · cases hs'
      | ins r => cases hs
  | _ => cases e
/-- nothing is raised there -/
theorem sg_sub (hu : X.A.units + 64 < cLine) (ha : PE X.nox a (tE X.K C W fa)) (hb : PE X.nox b (tE X.K C W fb))
    (hs : ∀ v, assign (.Subscript a b pos) X.env v = (do
      let ov ← holding [v] (eval a X.env)
      let iv ← holding [v, ov] (eval b X.env)
      standAt pos
      holding [v, ov, iv] (setItem ov iv v)
      release [v, ov, iv] []) := by intro _; rfl) : PG X (.Subscript a b pos) (tG X.K C (mGSub fa fb)) :=
  PG.im (pg_sub ha.nox hb.nox (set_X (by omega)) hs) fun v s H Q ⟨F, ro, e, m, d, sim, r, p⟩ => by
    unfold mGSub at p
    cases h1 : fa e m with
    | ok o m1 =>
      rw [h1] at p
      refine ⟨F, ro, e, m, sim, ?_⟩
      rw [h1]
      intro ov H1 F1 ro1 x1 sim1 r1
      dsimp only at p
      cases h2 : fb e m1 with
      | ok i m2 =>
        rw [h2] at p
        refine ⟨F1, ro1, e, m1, sim.mk' x1 sim1, ?_⟩
        rw [h2]
        intro iv H2 F2 ro2 x2 sim2 r2
        dsimp only at p
        cases h3 : setD o i d m2 with
        | none => rw [h3] at p; exact p.elim
        | some m3 =>
          rw [h3] at p
          exact setD_read sim2 (r1.mono x2) r2 ((r.mono x1).mono x2) h3 fun H3 sim3 => p s H3 F2 ro2 (x1.trans x2) (sim.mk' (x1.trans x2) sim3)
      | _ => rw [h2] at p; exact p.elim
    | _ => rw [h1] at p; exact p.elim
end
end SL
namespace SL
open PySem PySem.Spec PyProof.Rows L2

/-! ### slices -/
abbrev PF := En → Mu → R (Option Int)
def tP (K : PySem.W.Frag) (C : Nat → Addr) (W : WX) (f : PF) : TO := fun s H Q => ∃ F ro e m, SimE K C F ro e m s H ∧ match f e m with
  | .ok o m1 => ∀ H' F' ro', Ext F ro F' ro' → SimH K C F' ro' m1 H' → Q o H'
  | _ => False
def cutDs {α : Type} (xs : List α) (lo hi : Option Int) : List α := (xs.drop (HT.sIx xs.length 0 lo)).take (HT.sIx xs.length xs.length hi - HT.sIx xs.length 0 lo)
section
variable {X : Cx} {C : Nat → Addr} {W : WX} {ex a b : Expr} {es : List Expr} {pos : Pos} {fa fb : EF}
theorem PO.im {o : Option Expr} {t t' : TO} (h : PO X o t) (i : ∀ s H Q, t' s H Q → t s H Q) : PO X o t' := ⟨fun p s σ H Q I q => h.run p s σ H Q I (i _ _ _ q)⟩
def mNoP : PF := fun _ m => .ok none m
def mPart (f : EF) : PF := fun e m => match f e m with
  | .ok (.int i) m1 => .ok (some i) m1
  | _ => .stuck
theorem sp_none : PO X none (tP X.K C W mNoP) := PO.im po_none fun s H Q ⟨F, ro, e, m, sim, p⟩ => p _ _ _ .refl sim.h
theorem sp_some (h : PE X ex (tE X.K C W fa)) : PO X (some ex) (tP X.K C W (mPart fa)) := PO.im (po_some h) fun s H Q ⟨F, ro, e, m, sim, p⟩ => by
  refine ⟨F, ro, e, m, sim, ?_⟩
  unfold mPart at p
  cases hf : fa e m with
  | ok d m1 =>
    rw [hf] at p
    intro v H1 F1 ro1 x1 sim1 r1
    cases r1 with
    | int i => exact ⟨i, rfl, p _ _ _ x1 sim1⟩
    | _ => exact p.elim
  | exc c d m1 => rw [hf] at p; exact p.elim
  | stuck => rw [hf] at p; exact p
def sliceD (al : Bool) (d : D) (lo hi : Option Int) (m : Mu) : R D := match d with
  | .str t => if t.length ≤ 1048576 then .ok (.str (cutDs t lo hi)) m else .stuck
  | .tup ds => if HT.sIx ds.length 0 lo = 0 ∧ HT.sIx ds.length ds.length hi = ds.length then .stuck else .ok (.tup (cutDs ds lo hi)) m
  | d => match seqOf m d with
    | some xs => mkL al (cutDs xs lo hi) m
    | none => .stuck
def mSlice (al : Bool) (f : EF) (l h : PF) : EF := fun e m => (f e m).bind fun d m1 => match l e m1 with
  | .ok lo m2 => (match h e m2 with
    | .ok hi m3 => sliceD al d lo hi m3
    | _ => .stuck)
  | _ => .stuck
theorem Reps.cut_ {K : PySem.W.Frag} {F : Hp} {ro : List Addr} {vs : List V} {ds : List D} (r : Reps K C F ro vs ds) (lo hi : Option Int) : Reps K C F ro (cutV vs lo hi) (cutDs ds lo hi) := by
  unfold cutV cutDs
  rw [r.length]
  exact (r.drop _).take _
def rSlX (K : PySem.W.Frag) : V → Option Int → Option Int → Hp → VK → Prop := fun x lo hi H Q => (rSlL K x lo hi H Q ∨ rSlT K x lo hi H Q) ∨ rSlS x lo hi H Q
theorem se_slice (al : Bool) {lo hi : Option Expr} {l h : PF} {p2 : Pos} (he : PE X ex (tE X.K C W fa)) (hl : PO X lo (tP X.K C W l)) (hh : PO X hi (tP X.K C W h)) : PE X (.Subscript ex (.Slice lo hi none p2) pos) (tE X.K C W (mSlice al fa l h)) :=
  PE.im (pe_slice (r := rSlX X.K) ((sl_list.or sl_tup).or sl_str) he hl hh) fun s H Q ⟨F, ro, e, m, sim, p⟩ => tE_bind sim p fun x H1 F1 ro1 m1 d x1 sim1 r1 p1 => by
    refine ⟨F1, ro1, e, m1, sim1, ?_⟩
    cases h1 : l e m1 with
    | ok o1 m2 =>
      rw [h1] at p1
      intro H2 F2 ro2 x2 sim2
      refine ⟨F2, ro2, e, m2, sim1.mk' x2 sim2, ?_⟩
      dsimp only at p1
      cases h2 : h e m2 with
      | ok o2 m3 =>
        rw [h2] at p1
        intro H3 F3 ro3 x3 sim3
        have p3 : Post X.K C F3 ro3 W s Q (sliceD al d o1 o2 m3) := Post.mono (x2.trans x3) p1
        have r3 := r1.mono (x2.trans x3)
        cases r3 with
        | str t =>
          have p4 : Post X.K C F3 ro3 W s Q (if t.length ≤ 1048576 then .ok (.str (cutDs t o1 o2)) m3 else .stuck) := p3
          split at p4
          · rename_i hl
            refine .inr ⟨sS t, rfl, by rw [sS_len, sizeLine_eq]; omega, ?_⟩
            have e : cutS (sS t) o1 o2 = sS (cutDs t o1 o2) := by
              unfold cutS cutDs
              rw [sS_len]; rfl
            rw [e]
            exact p4.val sim3 (.str _)
          · exact p4.elim
        | @tup a vs ds q r =>
          have p4 : Post X.K C F3 ro3 W s Q (if HT.sIx ds.length 0 o1 = 0 ∧ HT.sIx ds.length ds.length o2 = ds.length then .stuck else .ok (.tup (cutDs ds o1 o2)) m3) := p3
          split at p4
          · exact p4.elim
          · rename_i hn
            exact .inl (.inr ⟨a, vs, rfl, .of (sim3.exact q rfl), by rw [r.length]; exact hn, fun l hl => p4.newT sim3 (r.cut_ o1 o2) hl⟩)
        | @lst a vs ds q r => exact .inl (.inl ⟨a, vs, rfl, .of (sim3.exact q rfl), fun l hl => Post.newL (ds := cutDs ds o1 o2) p3 sim3 (r.cut_ o1 o2) hl⟩)
        | @scr a ns q => exact .inl (.inl ⟨a, _, rfl, sim3.sql q, fun l hl => Post.newL (ds := cutDs (ns.map D.int) o1 o2) p3 sim3 (Reps.cut_ (.ofInts ns) o1 o2) hl⟩)
        | @loc a i q =>
          have p4 : Post X.K C F3 ro3 W s Q (match seqOf m3 (.loc i) with
            | some xs => mkL al (cutDs xs o1 o2) m3
            | none => .stuck) := p3
          cases hs : seqOf m3 (.loc i) with
          | none => rw [hs] at p4; exact p4.elim
          | some xs =>
            rw [hs] at p4
            obtain ⟨u, h1, h2, h3⟩ := sim3.at q (seqOf_loc hs)
            cases h3 with
            | @lst vs ds r => exact .inl (.inl ⟨a, vs, rfl, .of h1, fun l hl => p4.newL sim3 (r.cut_ o1 o2) hl⟩)
        | _ => exact p3.elim
      | exc c d m3 => rw [h2] at p1; exact p1.elim
      | stuck => rw [h2] at p1; exact p1
    | exc c d m3 => rw [h1] at p1; exact p1.elim
    | stuck => rw [h1] at p1; exact p1
/-- xs[::-1] -/
def mRev (al : Bool) (f : EF) : EF := fun e m => (f e m).bind fun d m1 => match listOf m1 d with
  | some xs => mkL al xs.reverse m1
  | none => .stuck
theorem se_rev (al : Bool) {k : Nat} {p1 p2 p3 : Pos} (he : PE X ex (tE X.K C W fa)) : PE X (.Subscript ex (.Slice none none (some (.UnaryOp .USub (.Constant (.int 1) k p1) p2)) p3) pos) (tE X.K C W (mRev al fa)) :=
  PE.im (pe_revL he) fun s H Q ⟨F, ro, e, m, sim, p⟩ => tE_bind sim p fun x H1 F1 ro1 m1 d x1 sim1 r1 p1 => by
    cases hs : listOf m1 d with
    | none => rw [hs] at p1; exact p1.elim
    | some xs =>
      rw [hs] at p1
      obtain ⟨a, vs, rfl, e1, r⟩ := listOf_rep sim1.h r1 hs
      exact ⟨a, vs, rfl, .of e1, fun l hl => p1.newL sim1.h r.rev hl⟩

/-! ### calls of built-ins -/
def CallOk (X : Cx) (C : Nat → Addr) (r : List V → Hp → VK → Prop) (k : Fn) : Prop := ∀ (F : Hp) (ro : List Addr) (m : Mu) (H : Hp) (xs : List V) (ds : List D) (W : WX) (s : L2.St) (Q : VK),
  SimH X.K C F ro m H → Reps X.K C F ro xs ds → Post X.K C F ro W s Q (k ds m) → r xs H Q
theorem se_callB {x : Str} {id : String} {p0 : Pos} {r : List V → Hp → VK → Prop} {k : Fn} {h : AF} (hc : CallR X (.builtin id) r) (ok : CallOk X C r k) (hg : Gl X x) (hm : X.mg x = none) (hv : bootBuiltins x = some (.builtin id)) (ha : PA X (ex :: es) (tA X.K C W h)) (hn : x ≠ "__name__" := by decide) (hdb : (x == ("__debug__" : Str)) = false := by decide)
    (he : starEach (ex :: es) X.env = (false, eval ex X.env) :: starEach es X.env := by rfl) (hpl : (backTo pos (starEach es X.env)).any (·.1) = false := by rfl) : PE X (.Call (.Name x p0) (ex :: es) [] pos) (tE X.K C W (mCall k h)) :=
  PE.im (pe_callB hc hg hm hv ha hn hdb he hpl) fun s H Q ⟨F, ro, e, m, sim, p⟩ => tA_bind sim p fun xs H1 F1 ro1 m1 ds x1 sim1 r1 p1 => ok _ _ _ _ _ _ _ _ _ sim1.h r1 p1
theorem se_callTy {x : Str} {T : String} {p0 : Pos} {r : List V → Hp → VK → Prop} {k : Fn} {h : AF} (hc : CallR X (.type T) r) (ok : CallOk X C r k) (hg : Gl X x) (hm : X.mg x = none) (hv : bootBuiltins x = some (.type T)) (ha : PA X (ex :: es) (tA X.K C W h)) (hn : x ≠ "__name__" := by decide) (hdb : (x == ("__debug__" : Str)) = false := by decide)
    (he : starEach (ex :: es) X.env = (false, eval ex X.env) :: starEach es X.env := by rfl) (hpl : (backTo pos (starEach es X.env)).any (·.1) = false := by rfl) : PE X (.Call (.Name x p0) (ex :: es) [] pos) (tE X.K C W (mCall k h)) :=
  PE.im (pe_callTy hc hg hm hv ha hn hdb he hpl) fun s H Q ⟨F, ro, e, m, sim, p⟩ => tA_bind sim p fun xs H1 F1 ro1 m1 ds x1 sim1 r1 p1 => ok _ _ _ _ _ _ _ _ _ sim1.h r1 p1
/-- one argument -/
def one (k : D → Mu → R D) : Fn := fun ds m => match ds with
  | [d] => k d m
  | _ => .stuck
theorem CallOk.one {r : List V → Hp → VK → Prop} {k : D → Mu → R D} (h : ∀ (F : Hp) (ro : List Addr) (m : Mu) (H : Hp) (x : V) (d : D) (W : WX) (s : L2.St) (Q : VK), SimH X.K C F ro m H → Rep X.K C F ro x d → Post X.K C F ro W s Q (k d m) → r [x] H Q) : CallOk X C r (SL.one k) := fun F ro m H xs ds W s Q sim rs p => by
  cases rs with
  | nil => exact p.elim
  | cons r1 t =>
    cases t with
    | nil => exact h F ro m H _ _ W s Q sim r1 p
    | cons _ _ => exact p.elim
def lenD : Fn := one fun d m => match d with
  | .str t => if t.length ≤ 1048576 then .ok (.int (t.length : Int)) m else .stuck
  | d => match seqOf m d with
    | some xs => .ok (.int (xs.length : Int)) m
    | none => .stuck
def rLenX (K : PySem.W.Frag) : List V → Hp → VK → Prop := fun xs H Q => (∃ z, xs = [.str z] ∧ z.length ≤ sizeLine ∧ Q (.int z.length) H) ∨ (∃ p ys, xs = [.ref p] ∧ (SqL K H p ys ∨ SqT K H p ys) ∧ Q (.int ys.length) H)
theorem call_lenX : CallR X (.builtin "len") (rLenX X.K) := call_len_str.or call_len_seq
theorem ok_len : CallOk X C (rLenX X.K) lenD := .one fun F ro m H x d W s Q sim r p => by
  have rest : ∀ {d : D}, Rep X.K C F ro x d → Post X.K C F ro W s Q (match seqOf m d with | some xs => .ok (.int (xs.length : Int)) m | none => .stuck) → rLenX X.K [x] H Q := fun {d} r p => by
    cases hs : seqOf m d with
    | none => rw [hs] at p; exact p.elim
    | some xs =>
      rw [hs] at p
      obtain ⟨a, vs, rfl, hq, rr⟩ := seqOf_rep sim r hs
      exact .inr ⟨a, vs, rfl, hq, by rw [rr.length]; exact p.val sim (.int _)⟩
  cases r with
  | str t =>
    have p4 : Post X.K C F ro W s Q (if t.length ≤ 1048576 then .ok (.int (t.length : Int)) m else .stuck) := p
    split at p4
    · rename_i hl
      refine .inl ⟨sS t, rfl, by rw [sS_len, sizeLine_eq]; omega, ?_⟩
      rw [sS_len]
      exact p4.val sim (.int _)
    · exact p4.elim
  | non => exact rest .non p
  | bl _ => exact rest (.bl _) p
  | int _ => exact rest (.int _) p
  | tup q r => exact rest (.tup q r) p
  | lst q r => exact rest (.lst q r) p
  | scr q => exact rest (.scr q) p
  | dct q r => exact rest (.dct q r) p
  | dck q r => exact rest (.dck q r) p
  | ins q r => exact rest (.ins q r) p
  | loc q => exact rest (.loc q) p
  | ktp q => exact rest (.ktp q) p
/-- len of a dict with tuple keys -/
def lenT : Fn := one fun d m => match dctOf m d with
  | some ks => .ok (.int (ks.length : Int)) m
  | none => .stuck
def listD (al : Bool) : Fn := one fun d m => match seqOf m d with
  | some xs => mkL al xs m
  | none => .stuck
theorem ok_list (al : Bool) : CallOk X C (fun xs H Q => ∃ p ys, xs = [.ref p] ∧ (SqL X.K H p ys ∨ SqT X.K H p ys) ∧ ∀ l, H l = none → Q (.ref l) (upd H l (.lst ys))) (listD al) := .one fun F ro m H x d W s Q sim r p => by
  cases hs : seqOf m d with
  | none => rw [hs] at p; exact p.elim
  | some xs =>
    rw [hs] at p
    obtain ⟨a, vs, rfl, hq, rr⟩ := seqOf_rep sim r hs
    exact ⟨a, vs, rfl, hq, fun l hl => p.newL sim rr hl⟩
def tupleD : Fn := one fun d m => match d with
  | .tup ds => .ok (.tup ds) m
  | d => match listOf m d with
    | some xs => .ok (.tup xs) m
    | none => .stuck
theorem ok_tuple : CallOk X C (fun xs H Q => ∃ p ys, xs = [.ref p] ∧ ((SqL X.K H p ys ∧ ∀ l, H l = none → Q (.ref l) (upd H l (.tup ys))) ∨ (SqT X.K H p ys ∧ Q (.ref p) H))) tupleD := .one fun F ro m H x d W s Q sim r p => by
  have rest : ∀ {d : D}, Rep X.K C F ro x d → Post X.K C F ro W s Q (match listOf m d with | some xs => .ok (.tup xs) m | none => .stuck) → ∃ p ys, [x] = [V.ref p] ∧ ((SqL X.K H p ys ∧ ∀ l, H l = none → Q (.ref l) (upd H l (.tup ys))) ∨ (SqT X.K H p ys ∧ Q (.ref p) H)) := fun {d} r p => by
    cases hs : listOf m d with
    | none => rw [hs] at p; exact p.elim
    | some xs =>
      rw [hs] at p
      obtain ⟨a, vs, rfl, hq, rr⟩ := listOf_rep sim r hs
      exact ⟨a, vs, rfl, .inl ⟨.of hq, fun l hl => p.newT sim rr hl⟩⟩
  cases r with
  | tup q r => exact ⟨_, _, rfl, .inr ⟨.of (sim.exact q rfl), p.val sim (.tup q r)⟩⟩
  | lst q r => exact rest (.lst q r) p
  | loc q => exact rest (.loc q) p
  | _ => exact p.elim
def intD : Fn := one fun d m => match d with
  | .int i => .ok (.int i) m
  | .bl b => .ok (.int (if b then 1 else 0)) m
  | _ => .stuck
theorem ok_int : CallOk X C (fun xs H Q => (∃ i, xs = [.int i] ∧ Q (.int i) H) ∨ ∃ k, xs = [.bl k] ∧ Q (.int (if k then 1 else 0)) H) intD := .one fun F ro m H x d W s Q sim r p => by
  cases r with
  | int i => exact .inl ⟨i, rfl, p.val sim (.int i)⟩
  | bl b => exact .inr ⟨b, rfl, p.val sim (.int _)⟩
  | _ => exact p.elim
def absD : Fn := one fun d m => match d with
  | .int i => .ok (.int (if i < 0 then -i else i)) m
  | _ => .stuck
theorem ok_abs : CallOk X C (fun xs H Q => ∃ i, xs = [.int i] ∧ Q (.int (if i < 0 then -i else i)) H) absD := .one fun F ro m H x d W s Q sim r p => by
  cases r with
  | int i => exact ⟨i, rfl, p.val sim (.int _)⟩
  | _ => exact p.elim
def intsL : List D → Option (List Int)
  | [] => some []
  | .int i :: ds => (intsL ds).map (i :: ·)
  | _ :: _ => none
theorem intsL_eq : ∀ {ds : List D} {ns : List Int}, intsL ds = some ns → ds = ns.map D.int
  | [], _, e => by cases e; rfl
  | d :: ds, ns, e => by
    cases d with
    | int i =>
      obtain ⟨ns', h, rfl⟩ := Option.map_eq_some_iff.mp e
      rw [intsL_eq h]; rfl
    | _ => cases e
theorem intsL_map : ∀ ns : List Int, intsL (ns.map D.int) = some ns
  | [] => rfl
  | n :: ns => by show (intsL (ns.map D.int)).map (n :: ·) = _; rw [intsL_map ns]; rfl
def minI : List Int → Int
  | [] => 0
  | [x] => x
  | x :: y :: r => min x (minI (y :: r))
def maxI : List Int → Int
  | [] => 0
  | [x] => x
  | x :: y :: r => max x (maxI (y :: r))
theorem minI_le : ∀ {ns : List Int} {y : Int}, y ∈ ns → minI ns ≤ y
  | [x], y, h => by have : y = x := by simpa using h
                    rw [this]; exact Int.le_refl _
  | x :: z :: r, y, h => by
    show min x (minI (z :: r)) ≤ y
    rcases List.mem_cons.mp h with e | e
    · rw [e]; exact Int.min_le_left _ _
    · exact Int.le_trans (Int.min_le_right _ _) (minI_le e)
theorem minI_mem : ∀ {ns : List Int}, ns ≠ [] → minI ns ∈ ns
  | [], h => absurd rfl h
  | [x], _ => by simp [minI]
  | x :: z :: r, _ => by
    have ih := minI_mem (ns := z :: r) (by simp)
    show min x (minI (z :: r)) ∈ _
    by_cases h : x ≤ minI (z :: r)
    · rw [Int.min_eq_left h]; exact List.mem_cons_self
    · rw [Int.min_eq_right (by omega)]; exact List.mem_cons_of_mem _ ih
theorem le_maxI : ∀ {ns : List Int} {y : Int}, y ∈ ns → y ≤ maxI ns
  | [x], y, h => by have : y = x := by simpa using h
                    rw [this]; exact Int.le_refl _
  | x :: z :: r, y, h => by
    show y ≤ max x (maxI (z :: r))
    rcases List.mem_cons.mp h with e | e
    · rw [e]; exact Int.le_max_left _ _
    · exact Int.le_trans (le_maxI e) (Int.le_max_right _ _)
theorem maxI_mem : ∀ {ns : List Int}, ns ≠ [] → maxI ns ∈ ns
  | [], h => absurd rfl h
  | [x], _ => by simp [maxI]
  | x :: z :: r, _ => by
    have ih := maxI_mem (ns := z :: r) (by simp)
    show max x (maxI (z :: r)) ∈ _
    by_cases h : x ≤ maxI (z :: r)
    · rw [Int.max_eq_right h]; exact List.mem_cons_of_mem _ ih
    · rw [Int.max_eq_left (by omega)]; exact List.mem_cons_self
def minD : Fn := fun ds m => match ds with
  | [.int i, .int j] => .ok (.int (if j < i then j else i)) m
  | [d] => (match (listOf m d).bind intsL with
    | some (n :: ns) => .ok (.int (minI (n :: ns))) m
    | _ => .stuck)
  | _ => .stuck
def maxD : Fn := fun ds m => match ds with
  | [.int i, .int j] => .ok (.int (if j > i then j else i)) m
  | [d] => (match (listOf m d).bind intsL with
    | some (n :: ns) => .ok (.int (maxI (n :: ns))) m
    | _ => .stuck)
  | _ => .stuck
def rMinX (K : PySem.W.Frag) : List V → Hp → VK → Prop := fun xs H Q => (∃ i j, xs = [.int i, .int j] ∧ Q (.int (if j < i then j else i)) H) ∨ rMin K xs H Q
def rMaxX (K : PySem.W.Frag) : List V → Hp → VK → Prop := fun xs H Q => (∃ i j, xs = [.int i, .int j] ∧ Q (.int (if j > i then j else i)) H) ∨ rMax K xs H Q
theorem call_minX (hc : X.calm = true) : CallR X (.builtin "min") (rMinX X.K) := (call_min2 hc).or (cr_min hc)
theorem call_maxX (hc : X.calm = true) : CallR X (.builtin "max") (rMaxX X.K) := (call_max2 hc).or (cr_max hc)
theorem listInts {K : PySem.W.Frag} {F : Hp} {ro : List Addr} {m : Mu} {H : Hp} {x : V} {d : D} (sim : SimH K C F ro m H) (r : Rep K C F ro x d) {ns : List Int} (e : (listOf m d).bind intsL = some ns) : ∃ a, x = .ref a ∧ H a = some (.lst (ns.map V.int)) := by
  obtain ⟨xs, h1, h2⟩ := Option.bind_eq_some_iff.mp e
  obtain ⟨a, vs, rfl, hq, rr⟩ := listOf_rep sim r h1
  have := intsL_eq h2
  subst this
  rw [rr.ints] at hq
  exact ⟨a, rfl, hq⟩
theorem ok_min : CallOk X C (rMinX X.K) minD := fun F ro m H xs ds W s Q sim rs p => by
  cases rs with
  | nil => exact p.elim
  | @cons v d _ _ r1 t =>
    cases t with
    | nil =>
      have p' : Post X.K C F ro W s Q (match (listOf m d).bind intsL with
        | some (n :: ns) => .ok (.int (minI (n :: ns))) m
        | _ => .stuck) := by cases r1 <;> exact p
      split at p'
      · rename_i n ns hn
        obtain ⟨a, rfl, hq⟩ := listInts sim r1 hn
        refine .inr ⟨a, n :: ns, rfl, .of hq, by simp, fun k hk hle => ?_⟩
        have e : k = minI (n :: ns) := Int.le_antisymm (hle _ (minI_mem (by simp))) (minI_le hk)
        rw [e]; exact p'.val sim (.int _)
      · exact p'.elim
    | cons r2 t =>
      cases t with
      | nil =>
        cases r1 with
        | int i =>
          cases r2 with
          | int j => exact .inl ⟨i, j, rfl, p.val sim (.int _)⟩
          | _ => exact p.elim
        | _ => cases r2 <;> exact p.elim
      | cons _ _ => cases r1 <;> cases r2 <;> exact p.elim
theorem ok_max : CallOk X C (rMaxX X.K) maxD := fun F ro m H xs ds W s Q sim rs p => by
  cases rs with
  | nil => exact p.elim
  | @cons v d _ _ r1 t =>
    cases t with
    | nil =>
      have p' : Post X.K C F ro W s Q (match (listOf m d).bind intsL with
        | some (n :: ns) => .ok (.int (maxI (n :: ns))) m
        | _ => .stuck) := by cases r1 <;> exact p
      split at p'
      · rename_i n ns hn
        obtain ⟨a, rfl, hq⟩ := listInts sim r1 hn
        refine .inr ⟨a, n :: ns, rfl, .of hq, by simp, fun k hk hle => ?_⟩
        have e : k = maxI (n :: ns) := Int.le_antisymm (le_maxI hk) (hle _ (maxI_mem (by simp)))
        rw [e]; exact p'.val sim (.int _)
      · exact p'.elim
    | cons r2 t =>
      cases t with
      | nil =>
        cases r1 with
        | int i =>
          cases r2 with
          | int j => exact .inl ⟨i, j, rfl, p.val sim (.int _)⟩
          | _ => exact p.elim
        | _ => cases r2 <;> exact p.elim
      | cons _ _ => cases r1 <;> cases r2 <;> exact p.elim
def sumD : Fn := one fun d m => match (listOf m d).bind intsL with
  | some ns => .ok (.int ns.sum) m
  | none => .stuck
theorem ok_sum : CallOk X C (rSum X.K) sumD := .one fun F ro m H x d W s Q sim r p => by
  cases hs : (listOf m d).bind intsL with
  | none => rw [hs] at p; exact p.elim
  | some ns =>
    rw [hs] at p
    obtain ⟨a, rfl, hq⟩ := listInts sim r hs
    exact ⟨a, ns, rfl, .of hq, p.val sim (.int _)⟩
def blsL : List D → Option (List Bool)
  | [] => some []
  | .bl i :: ds => (blsL ds).map (i :: ·)
  | _ :: _ => none
theorem blsL_eq : ∀ {ds : List D} {ns : List Bool}, blsL ds = some ns → ds = ns.map D.bl
  | [], _, e => by cases e; rfl
  | d :: ds, ns, e => by
    cases d with
    | bl i =>
      obtain ⟨ns', h, rfl⟩ := Option.map_eq_some_iff.mp e
      rw [blsL_eq h]; rfl
    | _ => cases e
theorem blsL_map : ∀ ns : List Bool, blsL (ns.map D.bl) = some ns
  | [] => rfl
  | n :: ns => by show (blsL (ns.map D.bl)).map (n :: ·) = _; rw [blsL_map ns]; rfl
theorem Reps.bls {K : PySem.W.Frag} {F : Hp} {ro : List Addr} : ∀ {v : List V} {ns : List Bool}, Reps K C F ro v (ns.map D.bl) → v = ns.map V.bl
  | _, [], .nil => rfl
  | _, n :: ns, .cons h t => by cases h; rw [Reps.bls t]; rfl
def allD : Fn := one fun d m => match (listOf m d).bind blsL with
  | some bs => .ok (.bl (bs.all id)) m
  | none => .stuck
theorem ok_all : CallOk X C (rAll X.K) allD := .one fun F ro m H x d W s Q sim r p => by
  cases hs : (listOf m d).bind blsL with
  | none => rw [hs] at p; exact p.elim
  | some ns =>
    rw [hs] at p
    obtain ⟨xs, h1, h2⟩ := Option.bind_eq_some_iff.mp hs
    obtain ⟨a, vs, rfl, hq, rr⟩ := listOf_rep sim r h1
    have := blsL_eq h2
    subst this
    rw [rr.bls] at hq
    exact ⟨a, ns, rfl, .of hq, p.val sim (.bl _)⟩

/-! ### isinstance with a built-in class -/
def tyOfD (m : Mu) : D → Option String
  | .non => some "NoneType"
  | .bl _ => some "bool"
  | .int _ => some "int"
  | .str _ => some "str"
  | .tup _ => some "tuple"
  | .lst _ => some "list"
  | .loc i => match m[i]? with
    | some (.lst _) => some "list"
    | _ => none
  | _ => none
def mIsI (T : String) (f : EF) : EF := fun e m => (f e m).bind fun d m1 => match (tyOfD m1 d).bind fun a => kitB a T with
  | some b => .ok (.bl b) m1
  | none => .stuck
theorem tyOfD_rep {K : PySem.W.Frag} {F : Hp} {ro : List Addr} {m : Mu} {H : Hp} {x : V} {d : D} (sim : SimH K C F ro m H) (r : Rep K C F ro x d) {a : String} (e : tyOfD m d = some a) : TyX K H x (.type a) := by
  cases r with
  | non => cases e; exact .base .non
  | bl b => cases e; exact .base (.bl b)
  | int b => cases e; exact .base (.int b)
  | str b => cases e; exact .base (.str _)
  | tup q r => cases e; exact .base (.tup (sim.exact q rfl))
  | lst q r => cases e; exact .base (.lst (sim.exact q rfl))
  | @loc p i q =>
    have e' : (match m[i]? with | some (.lst _) => some "list" | _ => none) = some a := e
    split at e'
    · rename_i xs hm
      cases e'
      obtain ⟨u, h1, h2, h3⟩ := sim.at q hm
      cases h3 with
      | lst r => exact .base (.lst h1)
    · cases e'
  | _ => cases e
theorem se_isI {y : Str} {T : String} {p0 p1 : Pos} (hg : Gl X "isinstance") (hm : X.mg "isinstance" = none) (hg2 : Gl X y) (hm2 : X.mg y = none) (hv2 : bootBuiltins y = some (.type T)) (ha : PE X a (tE X.K C W fa)) (hny : y ≠ "__name__" := by decide) (hdy : (y == ("__debug__" : Str)) = false := by decide)
    (he : starEach [a, .Name y p1] X.env = (false, eval a X.env) :: starEach [.Name y p1] X.env := by rfl) (he2 : starEach [.Name y p1] X.env = (false, eval (.Name y p1) X.env) :: starEach [] X.env := by rfl) (hpl : (backTo pos (starEach [.Name y p1] X.env)).any (·.1) = false := by rfl) :
    PE X (.Call (.Name "isinstance" p0) [a, .Name y p1] [] pos) (tE X.K C W (mIsI T fa)) :=
  PE.im (pe_callB call_isi hg hm (by decide +kernel) (pa_cons ha (pa_cons (pe_bltn (v := .ty T) hg2 hm2 hv2 rfl hny hdy) pa_nil he2) he) (by decide) (by decide) he hpl) fun s H Q ⟨F, ro, e, m, sim, p⟩ => tE_bind sim p fun x H1 F1 ro1 m1 d x1 sim1 r1 p1 => by
    cases h1 : tyOfD m1 d with
    | none => rw [h1] at p1; exact p1.elim
    | some a =>
      rw [h1] at p1
      have p2 : Post X.K C F1 ro1 W s Q (match kitB a T with | some b => .ok (.bl b) m1 | none => .stuck) := p1
      cases h2 : kitB a T with
      | none => rw [h2] at p2; exact p2.elim
      | some b =>
        rw [h2] at p2
        exact ⟨x, .ty T, .type a, .type T, b, rfl, .ty T, tyOfD_rep sim1.h r1 h1, kit_ty h2, p2.val sim1.h (.bl b)⟩
end
end SL
namespace SL
open PySem PySem.Spec PyProof.Rows L2

/-! ### methods of lists -/
section
variable {X : Cx} {C : Nat → Addr} {W : WX} {ex a b o : Expr} {es : List Expr} {pos apos : Pos} {fa fb fo fe : EF}
abbrev Mt := D → List D → Mu → R D
def MtOk (X : Cx) (C : Nat → Addr) (r : V → List V → Hp → VK → Prop) (k : Mt) : Prop := ∀ (F : Hp) (ro : List Addr) (m : Mu) (H : Hp) (x : V) (xs : List V) (d : D) (ds : List D) (W : WX) (s : L2.St) (Q : VK),
  SimH X.K C F ro m H → Rep X.K C F ro x d → Reps X.K C F ro xs ds → Post X.K C F ro W s Q (k d ds m) → r x xs H Q
/-- T "list": a list; "str": a text -/
def tyB (T : String) (m : Mu) (d : D) : Bool := match d with
  | .str _ => T == "str"
  | d => T == "list" && (listOf m d).isSome
theorem tyB_ok {K : PySem.W.Frag} {F : Hp} {ro : List Addr} {m : Mu} {H : Hp} {x : V} {d : D} {T : String} (sim : SimH K C F ro m H) (r : Rep K C F ro x d) (e : tyB T m d = true) : tyV K T x H := by
  have rest : ∀ {d : D}, Rep K C F ro x d → (T == "list" && (listOf m d).isSome) = true → tyV K T x H := fun {d} r e => by
    rw [Bool.and_eq_true] at e
    obtain ⟨ds, hd⟩ := Option.isSome_iff_exists.mp e.2
    obtain ⟨a, vs, rfl, hq, _⟩ := listOf_rep sim r hd
    exact .inl ⟨eq_of_beq e.1, vs, .of hq⟩
  cases r with
  | str s => exact eq_of_beq e
  | non => exact rest .non e
  | bl _ => exact rest (.bl _) e
  | int _ => exact rest (.int _) e
  | tup q r => exact rest (.tup q r) e
  | lst q r => exact rest (.lst q r) e
  | scr q => exact rest (.scr q) e
  | dct q r => exact rest (.dct q r) e
  | dck q r => exact rest (.dck q r) e
  | ins q r => exact rest (.ins q r) e
  | loc q => exact rest (.loc q) e
  | ktp q => exact rest (.ktp q) e
def mBM (T : String) (k : Mt) (f : EF) (h : AF) : EF := fun e m => (f e m).bind fun d m1 => if tyB T m1 d = true then (h e m1).bind fun ds m2 => k d ds m2 else .stuck
theorem se_bm {T id : String} {name : Str} {r : V → List V → Hp → VK → Prop} {k : Mt} {h : AF} (pa : PlainAttrs T) (slot : Slot T name id) (hty : typeOf (.builtin id) = pure (.type "method_descriptor")) (hm : MtR X id r) (ok : MtOk X C r k) (ho : PE X o (tE X.K C W fo)) (ha : PA X (ex :: es) (tA X.K C W h))
    (hbase : attributeBase o name X.env (eval o X.env) = eval o X.env := by rfl)
    (hfew : ((backTo pos (starEach (ex :: es) X.env)).all (fun x => !x.1) && (backToKw pos (keywordEach [] X.env)).all (fun x => x.1.isSome)
      && decide ((ex :: es).length + ([] : List Keyword).length + (if ([] : List Keyword).isEmpty then 0 else 1) < 30)) = true := by rfl)
    (hline : (apos.endLine == pos.line) = true := by rfl) (hs : starEach (ex :: es) X.env = (false, eval ex X.env) :: starEach es X.env := by rfl) (hplain : (backTo pos (starEach es X.env)).any (·.1) = false := by rfl) :
    PE X (.Call (.Attribute o name apos) (ex :: es) [] pos) (tE X.K C W (mBM T k fo h)) :=
  PE.im (pe_bm pa slot hty hm ho ha hbase hfew hline hs hplain) fun s H Q ⟨F, ro, e, m, sim, p⟩ => tE_bind sim p fun x H1 F1 ro1 m1 d x1 sim1 r1 p1 => by
    by_cases ht : tyB T m1 d = true
    · have p2 : Post X.K C F1 ro1 W s Q ((h e m1).bind fun ds m2 => k d ds m2) := by rw [if_pos ht] at p1; exact p1
      exact ⟨tyB_ok sim1.h r1 ht, tA_bind sim1 p2 fun xs H2 F2 ro2 m2 ds x2 sim2 r2 p3 => ok _ _ _ _ _ _ _ _ _ _ _ sim2.h (r1.mono x2) r2 p3⟩
    · rw [if_neg ht] at p1; exact p1.elim
theorem se_bm0 {T id : String} {name : Str} {r : V → List V → Hp → VK → Prop} {k : Mt} (pa : PlainAttrs T) (slot : Slot T name id) (hty : typeOf (.builtin id) = pure (.type "method_descriptor")) (hm : MtR X id r) (ok : MtOk X C r k) (ho : PE X o (tE X.K C W fo))
    (hbase : attributeBase o name X.env (eval o X.env) = eval o X.env := by rfl) (hline : (apos.endLine == pos.line) = true := by rfl) : PE X (.Call (.Attribute o name apos) [] [] pos) (tE X.K C W (mBM T k fo mNil)) :=
  PE.im (pe_bm0 pa slot hty hm ho hbase hline) fun s H Q ⟨F, ro, e, m, sim, p⟩ => tE_bind sim p fun x H1 F1 ro1 m1 d x1 sim1 r1 p1 => by
    by_cases ht : tyB T m1 d = true
    · have p2 : Post X.K C F1 ro1 W s Q (k d [] m1) := by rw [if_pos ht] at p1; exact p1
      exact ⟨tyB_ok sim1.h r1 ht, ok _ _ _ _ _ _ _ _ _ _ _ sim1.h r1 .nil p2⟩
    · rw [if_neg ht] at p1; exact p1.elim
/-- a list of the store is changed by g, and what is handed back -/
def onList (d : D) (m : Mu) (g : List D → Option (List D × D)) : R D := match d with
  | .loc i => (match m[i]? with
    | some (.lst xs) => (match g xs with
      | some (ys, r) => .ok r (m.set i (.lst ys))
      | none => .stuck)
    | _ => .stuck)
  | _ => .stuck
theorem onList_read {K : PySem.W.Frag} {F : Hp} {ro : List Addr} {m : Mu} {H : Hp} {x : V} {d : D} {W : WX} {s : L2.St} {Q : VK} {g : List D → Option (List D × D)} (sim : SimH K C F ro m H) (r : Rep K C F ro x d) (p : Post K C F ro W s Q (onList d m g)) :
    ∃ a vs xs ys z, x = .ref a ∧ H a = some (.lst vs) ∧ Reps K C F ro vs xs ∧ g xs = some (ys, z) ∧ ∀ ws v, Reps K C F ro ws ys → Rep K C F ro v z → Q v (upd H a (.lst ws)) := by
  cases r with
  | @loc a i q =>
    have p' : Post K C F ro W s Q (match m[i]? with
      | some (.lst xs) => (match g xs with
        | some (ys, r) => .ok r (m.set i (.lst ys))
        | none => .stuck)
      | _ => .stuck) := p
    split at p'
    · rename_i xs hm
      obtain ⟨u, h1, h2, h3⟩ := sim.at q hm
      cases h3 with
      | @lst vs _ r =>
        cases hg : g xs with
        | none => rw [hg] at p'; exact p'.elim
        | some yz =>
          obtain ⟨ys, z⟩ := yz
          rw [hg] at p'
          exact ⟨a, vs, xs, ys, z, rfl, h1, r, hg, fun ws v rw' rv => p' v _ F ro .refl (sim.write q (.lst rw')) rv⟩
    · exact p'.elim
  | _ => exact p.elim
def appendD : Mt := fun d ds m => match ds with
  | [y] => onList d m fun xs => if xs.length < 1048576 then some (xs ++ [y], .non) else none
  | _ => .stuck
theorem ok_append : MtOk X C rAppend appendD := fun F ro m H x vs d ds W s Q sim r rs p => by
  cases rs with
  | nil => exact p.elim
  | @cons v y _ _ r1 t =>
    cases t with
    | cons _ _ => exact p.elim
    | nil =>
      obtain ⟨a, vs, xs, ys, z, rfl, h1, r2, hg, k⟩ := onList_read (g := fun xs => if xs.length < 1048576 then some (xs ++ [y], .non) else none) sim r p
      split at hg
      · rename_i hl
        cases hg
        exact ⟨a, vs, v, rfl, rfl, h1, by rw [r2.length, sizeLine_eq]; omega, k _ _ (r2.app (.one r1)) .non⟩
      · cases hg
def extendD : Mt := fun d ds m => match ds with
  | [y] => (match listOf m y with
    | some zs => onList d m fun xs => if xs.length + zs.length ≤ 1048576 then some (xs ++ zs, .non) else none
    | none => .stuck)
  | _ => .stuck
theorem ok_extend : MtOk X C rExtend extendD := fun F ro m H x vs d ds W s Q sim r rs p => by
  cases rs with
  | nil => exact p.elim
  | @cons v y _ _ r1 t =>
    cases t with
    | cons _ _ => exact p.elim
    | nil =>
      have p' : Post X.K C F ro W s Q (match listOf m y with
        | some zs => onList d m fun xs => if xs.length + zs.length ≤ 1048576 then some (xs ++ zs, .non) else none
        | none => .stuck) := p
      cases hz : listOf m y with
      | none => rw [hz] at p'; exact p'.elim
      | some zs =>
        rw [hz] at p'
        obtain ⟨b, ws, rfl, h9, r9⟩ := listOf_rep sim r1 hz
        obtain ⟨a, vs, xs, ys, z, rfl, h1, r2, hg, k⟩ := onList_read (g := fun xs => if xs.length + zs.length ≤ 1048576 then some (xs ++ zs, .non) else none) sim r p'
        split at hg
        · rename_i hl
          cases hg
          exact ⟨a, b, vs, ws, rfl, rfl, h1, h9, by rw [r2.length, r9.length, sizeLine_eq]; omega, k _ _ (r2.app r9) .non⟩
        · cases hg
def popD : Mt := fun d ds m => match ds with
  | [] => onList d m fun xs => match xs[xs.length - 1]? with
    | some y => some (xs.dropLast, y)
    | none => none
  | _ => .stuck
theorem ok_pop : MtOk X C rPop popD := fun F ro m H x vs d ds W s Q sim r rs p => by
  cases rs with
  | cons _ _ => exact p.elim
  | nil =>
    obtain ⟨a, vs, xs, ys, z, rfl, h1, r2, hg, k⟩ := onList_read (g := fun xs => match xs[xs.length - 1]? with | some y => some (xs.dropLast, y) | none => none) sim r p
    split at hg
    · rename_i y hy
      cases hg
      obtain ⟨v, hv, rv⟩ := r2.get hy
      exact ⟨a, vs, v, rfl, rfl, h1, by rw [r2.length]; exact hv, k _ _ r2.dropLast rv⟩
    · cases hg
def popAtD : Mt := fun d ds m => match ds with
  | [.int i] => onList d m fun xs => if -(2 ^ 63) ≤ i ∧ i < 2 ^ 63 then (match ixN xs.length i with
    | some k => (match xs[k]? with
      | some y => some (xs.eraseIdx k, y)
      | none => none)
    | none => none) else none
  | _ => .stuck
theorem ok_popAt : MtOk X C rPopAt popAtD := fun F ro m H x vs d ds W s Q sim r rs p => by
  cases rs with
  | nil => exact p.elim
  | @cons v y _ _ r1 t =>
    cases t with
    | cons _ _ => cases r1 <;> exact p.elim
    | nil =>
      cases r1 with
      | int i =>
        obtain ⟨a, vs, xs, ys, z, rfl, h1, r2, hg, k⟩ := onList_read (g := fun xs => if -(2 ^ 63) ≤ i ∧ i < 2 ^ 63 then (match ixN xs.length i with
          | some k => (match xs[k]? with
            | some y => some (xs.eraseIdx k, y)
            | none => none)
          | none => none) else none) sim r p
        split at hg
        · rename_i hi
          split at hg
          · rename_i j hj
            split at hg
            · rename_i y hy
              cases hg
              obtain ⟨v, hv, rv⟩ := r2.get hy
              exact ⟨a, vs, i, j, v, rfl, rfl, h1, hi.1, hi.2, by rw [r2.length]; exact (ixN_seq hj).1, hv, k _ _ (r2.erase j) rv⟩
            · cases hg
          · cases hg
        · cases hg
      | _ => exact p.elim
def reverseD : Mt := fun d ds m => match ds with
  | [] => onList d m fun xs => some (xs.reverse, .non)
  | _ => .stuck
theorem ok_reverse : MtOk X C rReverse reverseD := fun F ro m H x vs d ds W s Q sim r rs p => by
  cases rs with
  | cons _ _ => exact p.elim
  | nil =>
    obtain ⟨a, vs, xs, ys, z, rfl, h1, r2, hg, k⟩ := onList_read (g := fun xs => some (xs.reverse, .non)) sim r p
    cases hg
    exact ⟨a, vs, rfl, rfl, h1, k _ _ r2.rev .non⟩
def clearD : Mt := fun d ds m => match ds with
  | [] => onList d m fun _ => some ([], .non)
  | _ => .stuck
theorem ok_clear : MtOk X C rClear clearD := fun F ro m H x vs d ds W s Q sim r rs p => by
  cases rs with
  | cons _ _ => exact p.elim
  | nil =>
    obtain ⟨a, vs, xs, ys, z, rfl, h1, r2, hg, k⟩ := onList_read (g := fun _ => some ([], .non)) sim r p
    cases hg
    exact ⟨a, vs, rfl, rfl, h1, k _ _ .nil .non⟩
def insertD : Mt := fun d ds m => match ds with
  | [.int i, y] => onList d m fun xs => if xs.length < 1048576 ∧ 0 ≤ i ∧ i < 2 ^ 63 then some (xs.take i.toNat ++ [y] ++ xs.drop i.toNat, .non) else none
  | _ => .stuck
def rInsert : V → List V → Hp → VK → Prop := fun x vs H Q => ∃ (l : Addr) (xs : List V) (i : Int) (y : V), x = .ref l ∧ vs = [.int i, y] ∧ H l = some (.lst xs) ∧ xs.length < sizeLine ∧ 0 ≤ i ∧ i < 2 ^ 63 ∧
  Q .non (upd H l (.lst (xs.take i.toNat ++ [y] ++ xs.drop i.toNat)))
theorem mt_insertX : MtR X "list.insert" rInsert := mt_insert
theorem ok_insert : MtOk X C rInsert insertD := fun F ro m H x vs d ds W s Q sim r rs p => by
  cases rs with
  | nil => exact p.elim
  | @cons v y _ _ r1 t =>
    cases t with
    | nil => cases r1 <;> exact p.elim
    | @cons v2 y2 _ _ r3 t =>
      cases t with
      | cons _ _ => cases r1 <;> exact p.elim
      | nil =>
        cases r1 with
        | int i =>
          obtain ⟨a, vs, xs, ys, z, rfl, h1, r2, hg, k⟩ := onList_read (g := fun xs => if xs.length < 1048576 ∧ 0 ≤ i ∧ i < 2 ^ 63 then some (xs.take i.toNat ++ [y2] ++ xs.drop i.toNat, .non) else none) sim r p
          split at hg
          · rename_i hl
            cases hg
            exact ⟨a, vs, i, v2, rfl, rfl, h1, by rw [r2.length, sizeLine_eq]; omega, hl.2.1, hl.2.2, k _ _ (((r2.take _).app (.one r3)).app (r2.drop _)) .non⟩
          · cases hg
        | _ => exact p.elim
/-- xs.index(y) of data -/
def indexD : Mt := fun d ds m => match ds with
  | [y] => (match toPy m 8 y, toPy m 8 d with
    | some a, some (.list bs) => if SeqAt.shaped a = true ∧ SeqAt.shaped (.list bs) = true ∧ (bs.any fun z => PyData.eqv z a) = true then .ok (.int ((bs.findIdx fun z => PyData.eqv z a : Nat) : Int)) m else .stuck
    | _, _ => .stuck)
  | _ => .stuck
theorem ok_index : MtOk X C (rIndexD X.K) indexD := fun F ro m H x vs d ds W s Q sim r rs p => by
  cases rs with
  | nil => exact p.elim
  | @cons v y _ _ r1 t =>
    cases t with
    | cons _ _ => exact p.elim
    | nil =>
      have p' : Post X.K C F ro W s Q (match toPy m 8 y, toPy m 8 d with
        | some a, some (.list bs) => if SeqAt.shaped a = true ∧ SeqAt.shaped (.list bs) = true ∧ (bs.any fun z => PyData.eqv z a) = true then .ok (.int ((bs.findIdx fun z => PyData.eqv z a : Nat) : Int)) m else .stuck
        | _, _ => .stuck) := p
      split at p'
      · rename_i a bs h1 h2
        split at p'
        · rename_i hs
          have d1 := toPy_dp sim 8 _ _ _ r1 h1
          have d2 := toPy_dp sim 8 _ _ _ r h2
          have hlt : bs.findIdx (fun z => PyData.eqv z a) < bs.length := List.findIdx_lt_length_of_exists (by simpa using List.any_eq_true.mp hs.2.2)
          cases d2 with
          | @lst p0 xs _ hq hd =>
            refine ⟨p0, v, a, bs, _, bs[bs.findIdx fun z => PyData.eqv z a], rfl, rfl, .lst hq hd, d1, hs.2.1, hs.1, List.getElem?_eq_getElem hlt, List.findIdx_getElem (w := hlt), fun k z' hk hz => ?_, p'.val sim (.int _)⟩
            have hk2 := List.not_of_lt_findIdx hk
            rw [List.getElem?_eq_getElem (Nat.lt_trans hk hlt)] at hz
            cases hz
            simpa using hk2
        · exact p'.elim
      · exact p'.elim
/-- sep.join(texts) -/
def txtsL : List D → Option (List Txt)
  | [] => some []
  | .str s :: ds => (txtsL ds).map (s :: ·)
  | _ :: _ => none
theorem txtsL_eq : ∀ {ds : List D} {ns : List Txt}, txtsL ds = some ns → ds = ns.map D.str
  | [], _, e => by cases e; rfl
  | d :: ds, ns, e => by
    cases d with
    | str i =>
      obtain ⟨ns', h, rfl⟩ := Option.map_eq_some_iff.mp e
      rw [txtsL_eq h]; rfl
    | _ => cases e
theorem txtsL_map : ∀ ns : List Txt, txtsL (ns.map D.str) = some ns
  | [] => rfl
  | n :: ns => by show (txtsL (ns.map D.str)).map (n :: ·) = _; rw [txtsL_map ns]; rfl
theorem Reps.txts {K : PySem.W.Frag} {F : Hp} {ro : List Addr} : ∀ {v : List V} {ns : List Txt}, Reps K C F ro v (ns.map D.str) → v = (ns.map sS).map V.str
  | _, [], .nil => rfl
  | _, n :: ns, .cons h t => by cases h; rw [Reps.txts t]; rfl
def joinT (s : Txt) : List Txt → Txt
  | [] => []
  | [p] => p
  | p :: q :: r => p ++ (s ++ joinT s (q :: r))
def joinD : Mt := fun d ds m => match d, ds with
  | .str s, [y] => (match (listOf m y).bind txtsL with
    | some ts => if (ts.map (·.length)).sum + ts.length * s.length ≤ 1048576 then .ok (.str (joinT s ts)) m else .stuck
    | none => .stuck)
  | _, _ => .stuck
def rJoin (K : PySem.W.Frag) : V → List V → Hp → VK → Prop := fun x xs H Q => ∃ a p, ∃ ys : List Str, x = .str a ∧ xs = [.ref p] ∧ (SqL K H p (ys.map V.str) ∨ SqT K H p (ys.map V.str)) ∧
    (ys.map (·.length)).sum + ys.length * a.length ≤ 16777216 ∧ Q (.str (Txt.join a ys)) H
theorem joinT_eq (s : Txt) (ts : List Txt) : PySem.Txt.join (sS s) (ts.map sS) = sS (joinT s ts) := by
  rw [TL.join_eq]
  have : ∀ ts : List Txt, Str.join (sS s) (ts.map sS) = sS (joinT s ts) := by
    intro ts
    induction ts with
    | nil => rfl
    | cons p r ih =>
      cases r with
      | nil => rfl
      | cons q r =>
        show sS p ++ sS s ++ Str.join (sS s) ((q :: r).map sS) = sS (p ++ (s ++ joinT s (q :: r)))
        rw [ih, sS_app, sS_app, List.append_assoc]
  exact this ts
theorem ok_join : MtOk X C (rJoin X.K) joinD := fun F ro m H x vs d ds W s Q sim r rs p => by
  cases r with
  | str t =>
    cases rs with
    | nil => exact p.elim
    | @cons v y _ _ r1 tl =>
      cases tl with
      | cons _ _ => exact p.elim
      | nil =>
        have p' : Post X.K C F ro W s Q (match (listOf m y).bind txtsL with
          | some ts => if (ts.map (·.length)).sum + ts.length * t.length ≤ 1048576 then .ok (.str (joinT t ts)) m else .stuck
          | none => .stuck) := p
        cases hs : (listOf m y).bind txtsL with
        | none => rw [hs] at p'; exact p'.elim
        | some ts =>
          rw [hs] at p'
          dsimp only at p'
          split at p'
          · rename_i hl
            obtain ⟨xs, h1, h2⟩ := Option.bind_eq_some_iff.mp hs
            obtain ⟨a, vs, rfl, hq, rr⟩ := listOf_rep sim r1 h1
            have := txtsL_eq h2
            subst this
            rw [rr.txts] at hq
            refine ⟨sS t, a, ts.map sS, rfl, rfl, .inl (.of hq), ?_, ?_⟩
            · rw [sS_len, List.map_map, List.length_map]
              have : (ts.map ((·.length) ∘ sS)) = ts.map (·.length) := List.map_congr_left fun x _ => sS_len x
              rw [this]; omega
            · rw [joinT_eq]; exact p'.val sim (.str _)
          · exact p'.elim
  | _ => cases rs <;> exact p.elim
end
end SL
namespace SL
open PySem PySem.Spec PyProof.Rows L2

/-! ### instances -/
section
variable {X : Cx} {C : Nat → Addr} {W : WX} {ex a b o : Expr} {es : List Expr} {pos apos : Pos} {fa fb fo fe : EF}
def mFld (c : Nat) (f : Str) (fo : EF) : EF := fun e m => (fo e m).bind fun d m1 => match insOf m1 d with
  | some (c', fs) => if c' = c then (match fs.lookup f with
    | some x => .ok x m1
    | none => .stuck) else .stuck
  | none => .stuck
theorem se_fld {c : Nat} {f : Str} (cl : Cls X.K (C c)) (na : NoAttr X.K (C c) f) (ho : PE X ex (tE X.K C W fo)) (hb : attributeBase ex f X.env (eval ex X.env) = eval ex X.env := by rfl) : PE X (.Attribute ex f pos) (tE X.K C W (mFld c f fo)) :=
  PE.im (pe_fld ho hb) fun s H Q ⟨F, ro, e, m, sim, p⟩ => tE_bind sim p fun x H1 F1 ro1 m1 d x1 sim1 r1 p1 => by
    cases hi : insOf m1 d with
    | none => rw [hi] at p1; exact p1.elim
    | some cf =>
      obtain ⟨c', fs⟩ := cf
      rw [hi] at p1
      have p2 : Post X.K C F1 ro1 W s Q (if c' = c then (match fs.lookup f with | some x => .ok x m1 | none => .stuck) else .stuck) := p1
      split at p2
      · rename_i hc
        subst hc
        cases hl : fs.lookup f with
        | none => rw [hl] at p2; exact p2.elim
        | some y =>
          rw [hl] at p2
          obtain ⟨a, dx, vfs, rfl, ha, r⟩ := insOf_rep sim1.h r1 hi
          obtain ⟨v, hv, rv⟩ := r.look hl
          exact ⟨a, C c', dx, vfs, v, rfl, ha, cl, na, hv, p2.val sim1.h rv⟩
      · exact p2.elim
/-- self.f = e -/
def mSetF (c : Nat) (f : Str) (fo fe : EF) : SF := fun e m => (fe e m).toS e fun v m1 => match fo e m1 with
  | .ok (.loc i) m2 => (match m2[i]? with
    | some (.ins c' fs) => if c' = c ∧ fs.length < 900 then .nx e (m2.set i (.ins c (putD f v fs))) else .stuck
    | _ => .stuck)
  | _ => .stuck
theorem sS_fld {c : Nat} {f : Str} {p' : Pos} (cl : Cls X.K (C c)) (na : NoAttr X.K (C c) f) (ho : PE X o (tE X.K C W fo)) (he : PE X ex (tE X.K C W fe)) (hs : swapsWith ex (some (.Attribute o f p')) pos.line X.env = pure false := by rfl) :
    PS X (.Assign [.Attribute o f p'] ex pos) (tS X.K C W (mSetF c f fo fe)) :=
  PS.im (ps_fld ho he hs) fun Dd s H ⟨F, ro, e, m, sim, p⟩ => tE_toS sim p fun y H1 F1 ro1 m1 d x1 sim1 r1 p1 => by
    refine ⟨F1, ro1, e, m1, sim1, ?_⟩
    cases h : fo e m1 with
    | ok od m2 =>
      rw [h] at p1
      intro x H2 F2 ro2 x2 sim2 r2
      cases r2 with
      | @loc q i hq =>
        have p2 : PostS X.K C F1 ro1 W Dd (match m2[i]? with
          | some (.ins c' fs) => if c' = c ∧ fs.length < 900 then .nx e (m2.set i (.ins c (putD f d fs))) else .stuck
          | _ => .stuck) := p1
        split at p2
        · rename_i c' fs hm
          split at p2
          · rename_i hc
            obtain ⟨rfl, hl⟩ := hc
            obtain ⟨u, h1, h2, h3⟩ := sim2.at hq hm
            cases h3 with
            | @ins dx _ vfs _ r =>
              exact ⟨q, C c', dx, vfs, rfl, h1, cl, na, by rw [r.length]; omega, p2 _ _ F2 ro2 x2 (sim1.mk' x2 (sim2.write hq (.ins (r.put (r1.mono x2)))))⟩
          · exact p2.elim
        · exact p2.elim
      | _ => exact p1.elim
    | _ => rw [h] at p1; exact p1.elim
/-- a property that hands back what its getter does -/
def mProp (c : Nat) (d : Fn) (fo : EF) : EF := fun e m => (fo e m).bind fun x m1 => match insOf m1 x with
  | some (c', _) => if c' = c then (match d [x] m1 with
    | .ok y m2 => .ok y m2
    | _ => .stuck) else .stuck
  | none => .stuck
theorem se_prop {c k : Nat} {f : Str} {p0 g : Addr} {fd : FuncData} {d : Fn} {ps : List Str} (cl : Cls X.K (C c)) (hp : PropOf X.K (C c) f p0 g) (G : FnOk X.prog X.w X.K X.mg X.base (L2.CX X.prog X.w) k g fd ps (spS X.K C 1 d)) (hr : Room (k + 1) X.A) (hb : Binds X.K fd ps [])
    (ho : PE X ex (tE X.K C W fo)) (hab : attributeBase ex f X.env (eval ex X.env) = eval ex X.env := by rfl) : PE X (.Attribute ex f pos) (tE X.K C W (mProp c d fo)) :=
  PE.im (pe_prop ho cl hp G hr hb .nil (E := fun _ _ _ => False) passL hab) fun s H Q ⟨F, ro, e, m, sim, p⟩ => tE_bind sim p fun x H1 F1 ro1 m1 dd x1 sim1 r1 p1 => by
    cases hi : insOf m1 dd with
    | none => rw [hi] at p1; exact p1.elim
    | some cf =>
      obtain ⟨c', fs⟩ := cf
      rw [hi] at p1
      have p2 : Post X.K C F1 ro1 W s Q (if c' = c then (match d [dd] m1 with | .ok y m2 => .ok y m2 | _ => .stuck) else .stuck) := p1
      split at p2
      · rename_i hc
        subst hc
        obtain ⟨a, dx, vfs, rfl, ha, r⟩ := insOf_rep sim1.h r1 hi
        refine ⟨a, dx, vfs, rfl, ha, F1, ro1, m1, [dd], sim1.h, .one r1, rfl, ?_⟩
        cases hd : d [dd] m1 with
        | ok y m2 => rw [hd] at p2; exact p2
        | exc c d m2 => rw [hd] at p2; exact p2.elim
        | stuck => rw [hd] at p2; exact p2
      · exact p2.elim
/-- o.m(..): an own method; what it raises goes on -/
theorem run_fnW {k n : Nat} {fa : Addr} {fd : FuncData} {ps : List Str} {d : Fn} {pins : List (Addr × Obj)} {s : L2.St} {H : Hp} {sh : Shared} {Q : VK} {us : List Value} {vs : List V} (G : FnOk X.prog X.w X.K X.mg X.base (L2.CX X.prog X.w) k fa fd ps (spS X.K C n d)) (hr : Room k X.A) (hb : Binds X.K fd ps []) (tk : Takes X W)
    (I : Inv X pins s H sh) (r : Vals vs us) (h : spS X.K C n d vs H Q fun c dd H => W c dd s H) : wpAny (model X.prog X.w) X.A (call (.ref fa) us) (EP X pins s Q) X.xe sh :=
  run_fnS (E := fun s c dd H => W c dd s H) G hr hb (passAt tk s) I r h
def mMeth (c : Nat) (mn : Str) (d : Fn) (fo : EF) (h : AF) : EF := fun e m => (fo e m).bind fun x m1 => match insOf m1 x with
  | some (c', fs) => if c' = c ∧ fs.lookup mn = none then (h e m1).bind fun ds m2 => d (x :: ds) m2 else .stuck
  | none => .stuck
def tMethW (K : PySem.W.Frag) (Cc : Addr) (mn : Str) (sp : Sp) (W : WX) (ta : TE) (t : TA) : TE := fun σ H Q => ta σ H fun x H1 => ∃ a dx fs, x = .ref a ∧ H1 a = some (.ins Cc dx fs) ∧ fs.lookup mn = none ∧ t σ H1 fun vs H2 => sp (x :: vs) H2 Q fun c dd H => W c dd σ H
theorem pe_methW {c k n : Nat} {fa : Addr} {fd : FuncData} {ps : List Str} {d : Fn} {mn : Str} {ta : TE} {t : TA} {pl : Sem Bool} (he : PE X o ta) (cl : Cls X.K (C c)) (hm : Meth X.K (C c) mn fa) (G : FnOk X.prog X.w X.K X.mg X.base (L2.CX X.prog X.w) k fa fd ps (spS X.K C n d)) (hr : Room k X.A) (hb : Binds X.K fd ps []) (tk : Takes X W) (ha : PA X (ex :: es) t)
    (hst : starEach (ex :: es) X.env = (false, eval ex X.env) :: starEach es X.env := by rfl) (hpl : (backTo pos (starEach es X.env)).any (·.1) = false := by rfl)
    (ht : eval (.Call (.Attribute o mn apos) (ex :: es) [] pos) X.env = (do
      let ov ← eval o X.env
      standAt apos.atName
      let (f, first) ← holding [ov] (getMethod ov mn pl)
      callWith pos f first (backTo pos (starEach (ex :: es) X.env)) (backToKw pos (keywordEach [] X.env))) := by rfl) :
    PE X (.Call (.Attribute o mn apos) (ex :: es) [] pos) (tMethW X.K (C c) mn (spS X.K C n d) W ta t) := by
  refine ⟨fun pins s σ H Q I h => ?_⟩
  refine PySem.W.methodCall_KW (pl := pl) (thn (he.run pins s σ H _ I h) fun u s1 ⟨x, H1, I1, rx, a, dx, fs, ex, ea, l, q⟩ => ?_) ht
  subst ex
  obtain rfl : u = Value.ref a := rx
  refine getmeth_ok I1 ea cl hm l ?_
  refine PySem.W.callWith_K (first := [.ref a]) (h₀ := X.base) I.ok.mod.kin hm.kp (thn (ha.run pos pins s1 σ H1 _ I1 q) fun us s2 ⟨vs, H2, I2, r, q2⟩ => ⟨I2.kIn, ?_⟩) hst hpl
  exact run_fnW (us := .ref a :: us) (vs := .ref a :: vs) G hr hb tk I2 (.cons rfl r) q2
theorem pe_methW0 {c k n : Nat} {fa : Addr} {fd : FuncData} {ps : List Str} {d : Fn} {mn : Str} {ta : TE} {pl : Sem Bool} (he : PE X o ta) (cl : Cls X.K (C c)) (hm : Meth X.K (C c) mn fa) (G : FnOk X.prog X.w X.K X.mg X.base (L2.CX X.prog X.w) k fa fd ps (spS X.K C n d)) (hr : Room k X.A) (hb : Binds X.K fd ps []) (tk : Takes X W)
    (ht : eval (.Call (.Attribute o mn apos) [] [] pos) X.env = (do
      let ov ← eval o X.env
      standAt apos.atName
      let (f, first) ← holding [ov] (getMethod ov mn pl)
      callWith pos f first (backTo pos (starEach [] X.env)) (backToKw pos (keywordEach [] X.env))) := by rfl) :
    PE X (.Call (.Attribute o mn apos) [] [] pos) (tMethW X.K (C c) mn (spS X.K C n d) W ta tNil) := by
  refine ⟨fun pins s σ H Q I h => ?_⟩
  refine PySem.W.methodCall_KW (pl := pl) (thn (he.run pins s σ H _ I h) fun u s1 ⟨x, H1, I1, rx, a, dx, fs, ex, ea, l, q⟩ => ?_) ht
  subst ex
  obtain rfl : u = Value.ref a := rx
  refine getmeth_ok I1 ea cl hm l ?_
  exact PySem.W.callWith_K0 (first := [.ref a]) I1.kIn hm.kp (run_fnW (us := [.ref a]) (vs := [.ref a]) G hr hb tk I1 (.cons rfl .nil) q)
theorem meth_read {c n : Nat} {d : Fn} {mn : Str} {h : AF} (hlen : ∀ e m ds m1, h e m = .ok ds m1 → ds.length + 1 = n) {s : L2.St} {H : Hp} {Q : VK} (q : tE X.K C W (mMeth c mn d fo h) s H Q) : tMethW X.K (C c) mn (spS X.K C n d) W (tE X.K C W fo) (tA X.K C W h) s H Q := by
  obtain ⟨F, ro, e, m, sim, p⟩ := q
  refine tE_bind sim p fun x H1 F1 ro1 m1 dd x1 sim1 r1 p1 => ?_
  cases hi : insOf m1 dd with
  | none => rw [hi] at p1; exact p1.elim
  | some cf =>
    obtain ⟨c', fs⟩ := cf
    rw [hi] at p1
    have p2 : Post X.K C F1 ro1 W s Q (if c' = c ∧ fs.lookup mn = none then (h e m1).bind fun ds m2 => d (dd :: ds) m2 else .stuck) := p1
    split at p2
    · rename_i hc
      obtain ⟨rfl, hl⟩ := hc
      obtain ⟨a, dx, vfs, rfl, ha, r⟩ := insOf_rep sim1.h r1 hi
      refine ⟨a, dx, vfs, rfl, ha, r.none_ hl, F1, ro1, e, m1, sim1, ?_⟩
      cases hh : h e m1 with
      | ok ds m2 =>
        rw [hh] at p2
        intro vs H2 F2 ro2 x2 sim2 r2
        refine ⟨F2, ro2, m2, dd :: ds, sim2, .cons (r1.mono x2) r2, hlen _ _ _ _ hh, ?_⟩
        have p3 : Post X.K C F2 ro2 W s Q (d (dd :: ds) m2) := Post.mono x2 p2
        cases h2 : d (dd :: ds) m2 with
        | ok d m2 => rw [h2] at p3; exact p3
        | exc c d m2 => rw [h2] at p3; exact p3
        | stuck => rw [h2] at p3; exact p3
      | exc c d m2 => rw [hh] at p2; exact p2
      | stuck => rw [hh] at p2; exact p2
    · exact p2.elim
theorem se_meth {c k n : Nat} {fa : Addr} {fd : FuncData} {ps : List Str} {d : Fn} {mn : Str} {h : AF} {pl : Sem Bool} (he : PE X o (tE X.K C W fo)) (cl : Cls X.K (C c)) (hm : Meth X.K (C c) mn fa) (G : FnOk X.prog X.w X.K X.mg X.base (L2.CX X.prog X.w) k fa fd ps (spS X.K C n d)) (hr : Room k X.A) (hb : Binds X.K fd ps []) (tk : Takes X W) (ha : PA X (ex :: es) (tA X.K C W h))
    (hlen : ∀ e m ds m1, h e m = .ok ds m1 → ds.length + 1 = n)
    (hst : starEach (ex :: es) X.env = (false, eval ex X.env) :: starEach es X.env := by rfl) (hpl : (backTo pos (starEach es X.env)).any (·.1) = false := by rfl)
    (ht : eval (.Call (.Attribute o mn apos) (ex :: es) [] pos) X.env = (do
      let ov ← eval o X.env
      standAt apos.atName
      let (f, first) ← holding [ov] (getMethod ov mn pl)
      callWith pos f first (backTo pos (starEach (ex :: es) X.env)) (backToKw pos (keywordEach [] X.env))) := by rfl) : PE X (.Call (.Attribute o mn apos) (ex :: es) [] pos) (tE X.K C W (mMeth c mn d fo h)) :=
  PE.im (pe_methW he cl hm G hr hb tk ha hst hpl ht) fun s H Q q => meth_read hlen q
theorem se_meth0 {c k : Nat} {fa : Addr} {fd : FuncData} {ps : List Str} {d : Fn} {mn : Str} {pl : Sem Bool} (he : PE X o (tE X.K C W fo)) (cl : Cls X.K (C c)) (hm : Meth X.K (C c) mn fa) (G : FnOk X.prog X.w X.K X.mg X.base (L2.CX X.prog X.w) k fa fd ps (spS X.K C 1 d)) (hr : Room k X.A) (hb : Binds X.K fd ps []) (tk : Takes X W)
    (ht : eval (.Call (.Attribute o mn apos) [] [] pos) X.env = (do
      let ov ← eval o X.env
      standAt apos.atName
      let (f, first) ← holding [ov] (getMethod ov mn pl)
      callWith pos f first (backTo pos (starEach [] X.env)) (backToKw pos (keywordEach [] X.env))) := by rfl) : PE X (.Call (.Attribute o mn apos) [] [] pos) (tE X.K C W (mMeth c mn d fo mNil)) :=
  PE.im (pe_methW0 he cl hm G hr hb tk ht) fun s H Q q => by
    have h := meth_read (n := 1) (h := mNil) (fun e m ds m1 q => by cases q; rfl) q
    obtain ⟨F, ro, e, m, sim, p⟩ := h
    refine ⟨F, ro, e, m, sim, ?_⟩
    cases hf : fo e m with
    | ok d m1 =>
      rw [hf] at p
      intro v H1 F1 ro1 x1 sim1 r1
      obtain ⟨a, dx, fs, h1, h2, h3, F2, ro2, e2, m2, sim2, p2⟩ := p v H1 F1 ro1 x1 sim1 r1
      exact ⟨a, dx, fs, h1, h2, h3, p2 [] H1 F2 ro2 .refl sim2.h .nil⟩
    | exc c d m1 => rw [hf] at p; exact p
    | stuck => rw [hf] at p; exact p
/-- C(..): a new instance of the store, then its __init__ -/
def mMake (c : Nat) (d : Fn) (h : AF) : EF := fun e m => (h e m).bind fun ds m1 => match d (.loc m1.length :: ds) (m1 ++ [.ins c []]) with
  | .ok .non m2 => .ok (.loc m1.length) m2
  | .ok _ _ => .stuck
  | .exc c' x m2 => .exc c' x m2
  | .stuck => .stuck
def tMakeW (Cc : Addr) (sp : Sp) (W : WX) (t : TA) : TE := fun σ H Q => t σ H fun vs H1 => ∀ x dx, H1 x = none → H1 dx = none → dx ≠ x →
  sp (.ref x :: vs) (upd (upd H1 dx (.own x)) x (.ins Cc dx [])) (fun v H2 => v = .non ∧ Q (.ref x) H2) fun c dd H => W c dd σ H
theorem run_makeW {c k n : Nat} {fI : Addr} {fd : FuncData} {ps : List Str} {d : Fn} {pins : List (Addr × Obj)} {s : L2.St} {H : Hp} {sh : Shared} {Q : VK} {us : List Value} {vs : List V} (M : Mk X.K (C c) fI) (G : FnOk X.prog X.w X.K X.mg X.base (L2.CX X.prog X.w) k fI fd ps (spS X.K C n d)) (hr : Room (k + 1) X.A) (hb : Binds X.K fd ps []) (tk : Takes X W)
    (I : Inv X pins s H sh) (r : Vals vs us)
    (h : ∀ x dx, H x = none → H dx = none → dx ≠ x → spS X.K C n d (.ref x :: vs) (upd (upd H dx (.own x)) x (.ins (C c) dx [])) (fun v H2 => v = .non ∧ Q (.ref x) H2) fun c dd H => W c dd s H) :
    wpAny (model X.prog X.w) X.A (call (.ref (C c)) us) (EP X pins s Q) X.xe sh := by
  have hq := h (sh.heap.objs.size + 1) sh.heap.objs.size (I.hok.fresh (Nat.le_succ _)) (I.hok.fresh (Nat.le_refl _)) (Nat.ne_of_lt (Nat.lt_succ_self _))
  have I2 := Inv.made (C := C c) I
  have r2 : Vals (V.ref (sh.heap.objs.size + 1) :: vs) (Value.ref (sh.heap.objs.size + 1) :: us) := .cons rfl r
  have hl : ((Value.ref (sh.heap.objs.size + 1) :: us) ++ []).length = ps.length := by
    rw [List.append_nil, ← r2.length]; exact G.len _ _ _ _ hq
  have hbd := hb { sh with heap := (sh.heap.push PySem.W.emptyDict).push (PySem.W.instObj (C c) sh.heap.objs.size) } (Value.ref (sh.heap.objs.size + 1) :: us) I2.kIn hl
  rw [List.append_nil] at hbd
  refine wpAny_call (make_map (f := fI) I.kIn M.makes M.init (beq_iff_eq.mp M.fn) (codeAny_mono (G.run _ X.stack _ _ ⟨Value.ref (sh.heap.objs.size + 1) :: us, []⟩ (Value.ref (sh.heap.objs.size + 1) :: us) _ _ _ (hr.make (C c) us [])
    (I2.env0.make (C c) us []) hbd r2 hq) fun r s' hq' => ?_))
  cases r with
  | error e => exact passAt tk s pins _ _ e s' I2 hq'
  | ok fl =>
    cases fl with
    | ret u =>
      obtain ⟨v, H', I3, rv, ev, q3⟩ := I2.after hq'
      subst ev
      exact ⟨rv, ⟨V.ref (sh.heap.objs.size + 1), H', I3, rfl, q3⟩⟩
    | next => exact False.elim hq'
    | brk => exact False.elim hq'
    | cont => exact False.elim hq'
theorem se_make {c k n : Nat} {fI : Addr} {fd : FuncData} {ps : List Str} {d : Fn} {x : Str} {p0 : Pos} {h : AF} (M : Mk X.K (C c) fI) (G : FnOk X.prog X.w X.K X.mg X.base (L2.CX X.prog X.w) k fI fd ps (spS X.K C n d)) (hr : Room (k + 1) X.A) (hg : Gl X x) (hm : X.mg x = some (.ref (C c))) (hb : Binds X.K fd ps []) (tk : Takes X W)
    (ha : PA X (ex :: es) (tA X.K C W h)) (hlen : ∀ e m ds m1, h e m = .ok ds m1 → ds.length + 1 = n) (hdb : (x == ("__debug__" : Str)) = false := by decide) (he : starEach (ex :: es) X.env = (false, eval ex X.env) :: starEach es X.env := by rfl) (hpl : (backTo pos (starEach es X.env)).any (·.1) = false := by rfl) :
    PE X (.Call (.Name x p0) (ex :: es) [] pos) (tE X.K C W (mMake c d h)) := by
  have base : PE X (.Call (.Name x p0) (ex :: es) [] pos) (tMakeW (C c) (spS X.K C n d) W (tA X.K C W h)) := by
    refine ⟨fun pins s σ H Q I h => ?_⟩
    refine wpAny_Call_Name_kw (ld_glob I hg hm ?_ hdb)
    refine PySem.W.callWith_K (h₀ := X.base) I.ok.mod.kin M.kp (thn (ha.run pos pins s σ H _ I h) fun us s1 ⟨vs, H1, I1, r, q⟩ => ⟨I1.kIn, ?_⟩) he hpl
    exact run_makeW M G hr hb tk I1 r q
  refine PE.im base fun s H Q ⟨F, ro, e, m, sim, p⟩ => ?_
  refine ⟨F, ro, e, m, sim, ?_⟩
  unfold mMake at p
  cases hh : h e m with
  | ok ds m1 =>
    rw [hh] at p
    intro vs H1 F1 ro1 x1 sim1 r1 y dx hy hdx ne
    have p1 : Post X.K C F1 ro1 W s Q (match d (.loc m1.length :: ds) (m1 ++ [.ins c []]) with
      | .ok .non m2 => .ok (.loc m1.length) m2
      | .ok _ _ => .stuck
      | .exc c' x m2 => .exc c' x m2
      | .stuck => .stuck) := Post.mono x1 p
    obtain ⟨s2, x2⟩ := sim1.newF (o := .own y) hdx
    have hy2 : (upd H1 dx (.own y)) y = none := by rw [upd_ne (Ne.symm ne)]; exact hy
    obtain ⟨s3, x3⟩ := s2.newM (o := .ins (C c) dx []) (u := .ins c []) hy2 (.ins .nil)
    have hloc : Rep X.K C (upd F1 dx (.own y)) (ro1 ++ [y]) (.ref y) (.loc m1.length) := .loc (by rw [← sim1.len, List.getElem?_append_right (Nat.le_refl _), Nat.sub_self]; rfl)
    refine ⟨_, _, _, .loc m1.length :: ds, s3, .cons hloc (r1.mono (x2.trans x3)), hlen _ _ _ _ hh, ?_⟩
    cases h2 : d (.loc m1.length :: ds) (m1 ++ [.ins c []]) with
    | ok v m2 =>
      rw [h2] at p1
      intro w H4 F4 ro4 x4 a4 r4
      cases r4 with
      | non => exact ⟨rfl, p1 _ _ _ _ ((x2.trans x3).trans x4) a4 (hloc.mono x4)⟩
      | _ => exact p1.elim
    | exc c' v m2 =>
      rw [h2] at p1
      exact fun dd w H4 F4 ro4 x4 a4 r4 q => p1 dd w H4 F4 ro4 ((x2.trans x3).trans x4) a4 r4 q
    | stuck => rw [h2] at p1; exact p1
  | exc c' d m1 => rw [hh] at p; exact p
  | stuck => rw [hh] at p; exact p
end
end SL
namespace SL
open PySem PySem.Spec PyProof.Rows L2

/-! ### comprehensions -/
abbrev WNo : WX := fun _ _ _ _ => False
theorem takes_no {X : Cx} : Takes X WNo := fun u s' ⟨_, _, _, _, _, _, _, _, _, _, _, _, _, _, _, _, h⟩ => h.elim
inductive CT where | one (i : Nat) | tup (js : List Nat)
def CT.sl : CT → List Nat
  | .one i => [i]
  | .tup js => js
def CT.g : CT → GF
  | .one i => mGName i
  | .tup js => mGTup (js.map mGName)
def gNames : List Nat → TGs
  | [] => gNil
  | i :: js => gCons (gName i) (gNames js)
def CT.tg (K : PySem.W.Frag) : CT → TG
  | .one i => gName i
  | .tup js => gTup K js.length (gNames js)
def wip (e : En) : List Nat → En
  | [] => e
  | v :: vs => (wip e vs).set v none
section
variable {X : Cx} {C : Nat → Addr} {W : WX} {ex elt tg iter : Expr} {es : List Expr} {pos : Pos}
theorem ct_one {i : Nat} {x : Str} (h : PG X (.Name x pos) (gName i)) : PG X (.Name x pos) ((CT.one i).tg X.K) := h
theorem ct_nil : PGs X [] (gNames []) := pgs_nil
theorem ct_cons {i : Nat} {js : List Nat} (h1 : PG X ex (gName i)) (h2 : PGs X es (gNames js)) (hs : (assignEach (ex :: es) X.env).map (·.2) = assign ex X.env :: (assignEach es X.env).map (·.2) := by rfl) : PGs X (ex :: es) (gNames (i :: js)) := pgs_cons h1 h2 hs
theorem ct_tup {js : List Nat} {k : Nat} (hc : X.calm = true) (h : PGs X es (gNames js)) (hn : (assignEach es X.env).length = js.length := by rfl) (hst : (assignEach es X.env).findIdx? (·.1) = none := by rfl) : PG X (.Tuple es k pos) ((CT.tup js).tg X.K) := pg_tup hc h hn hst
theorem wipe_get (σ : L2.St) (i : Nat) : ∀ vs : List Nat, (wipe σ vs)[i]? = if i ∈ vs then (σ[i]?).map (fun _ => none) else σ[i]?
  | [] => by simp [wipe]
  | v :: vs => by
    unfold wipe
    by_cases hv : v = i
    · subst hv
      rw [if_pos (List.mem_cons_self ..)]
      by_cases hl : v < σ.length
      · rw [List.getElem?_set_self (by rw [wipe_length]; exact hl), List.getElem?_eq_getElem hl]; rfl
      · rw [List.getElem?_eq_none (by rw [List.length_set, wipe_length]; omega), List.getElem?_eq_none (by omega)]; rfl
    · rw [List.getElem?_set_ne hv, wipe_get σ i vs]
      have : i ∈ v :: vs ↔ i ∈ vs := by simp [List.mem_cons, show ¬ i = v from fun e => hv e.symm]
      by_cases hm : i ∈ vs
      · rw [if_pos hm, if_pos (this.mpr hm)]
      · rw [if_neg hm, if_neg (fun h => hm (this.mp h))]
theorem wipe_eq {s s' : L2.St} {vs : List Nat} (hl : s'.length = s.length) (h : ∀ i, i ∉ vs → s'[i]? = s[i]?) : wipe s' vs = wipe s vs := by
  apply List.ext_getElem?
  intro i
  rw [wipe_get, wipe_get]
  by_cases hm : i ∈ vs
  · rw [if_pos hm, if_pos hm]
    by_cases hi : i < s.length
    · rw [List.getElem?_eq_getElem hi, List.getElem?_eq_getElem (by omega)]; rfl
    · rw [List.getElem?_eq_none (by omega), List.getElem?_eq_none (by omega)]
  · rw [if_neg hm, if_neg hm, h i hm]
theorem wipe_idem (s : L2.St) (vs : List Nat) : wipe (wipe s vs) vs = wipe s vs := wipe_eq (wipe_length ..) fun i hi => by rw [wipe_get, if_neg hi]
theorem SimE.unset {K : PySem.W.Frag} {F : Hp} {ro : List Addr} {e : En} {m : Mu} {s : L2.St} {H : Hp} (sim : SimE K C F ro e m s H) (v : Nat) : SimE K C F ro (e.set v none) m (s.set v none) H := by
  refine ⟨sim.h, by simp [sim.len], fun i d q => ?_⟩
  by_cases hi : v = i
  · subst hi
    by_cases hl : v < e.length
    · rw [List.getElem?_set_self hl] at q; cases q
    · rw [List.getElem?_eq_none (by simpa using hl)] at q; cases q
  · rw [List.getElem?_set_ne hi] at q ⊢
    exact sim.sl i d q
theorem SimE.wip {K : PySem.W.Frag} {F : Hp} {ro : List Addr} {e : En} {m : Mu} {s : L2.St} {H : Hp} (sim : SimE K C F ro e m s H) : ∀ vs : List Nat, SimE K C F ro (wip e vs) m (wipe s vs) H
  | [] => sim
  | v :: vs => (SimE.wip sim vs).unset v
theorem gnames_read {K : PySem.W.Frag} {F : Hp} {ro : List Addr} {m m1 : Mu} {H : Hp} {Q : L2.St → Hp → Prop} {e1 : En} : ∀ {js : List Nat} {vs : List V} {ds : List D} {e : En} {s : L2.St}, SimE K C F ro e m s H → Reps K C F ro vs ds → mGs (js.map mGName) ds e m = .nx e1 m1 →
    (∀ s', m1 = m → SimE K C F ro e1 m s' H → s'.length = s.length → (∀ i, i ∉ js → s'[i]? = s[i]?) → Q s' H) → gNames js vs s H Q
  | [], vs, ds, e, s, sim, r, hg, hk => by
    cases ds with
    | nil => cases r; cases hg; exact ⟨rfl, hk s rfl sim rfl fun _ _ => rfl⟩
    | cons _ _ => cases hg
  | j :: js, vs, ds, e, s, sim, r, hg, hk => by
    cases ds with
    | nil => cases hg
    | cons d ds =>
      cases r with
      | @cons v _ vr _ r1 r2 =>
        have hg' : (match mGName j d e m with | .nx e' m' => mGs (js.map mGName) ds e' m' | _ => .stuck) = RS.nx e1 m1 := hg
        unfold mGName at hg'
        by_cases hj : j < e.length
        · rw [if_pos hj] at hg'
          refine ⟨v, vr, rfl, gnames_read (sim.set r1 j) r2 hg' fun s' e0 sim' hl hs => hk s' e0 sim' (by rw [hl, List.length_set]) fun i hi => ?_⟩
          rw [hs i fun z => hi (List.mem_cons_of_mem _ z), List.getElem?_set_ne (fun z => hi (by subst z; exact List.mem_cons_self ..))]
        · rw [if_neg hj] at hg'; cases hg'
theorem ct_read {K : PySem.W.Frag} {F : Hp} {ro : List Addr} {m m1 : Mu} {H : Hp} {Q : L2.St → Hp → Prop} {e e1 : En} {s : L2.St} {ct : CT} {v : V} {d : D} (sim : SimE K C F ro e m s H) (r : Rep K C F ro v d) (hg : ct.g d e m = .nx e1 m1)
    (hk : ∀ s', m1 = m → SimE K C F ro e1 m s' H → s'.length = s.length → (∀ i, i ∉ ct.sl → s'[i]? = s[i]?) → Q s' H) : ct.tg K v s H Q := by
  cases ct with
  | one i =>
    have hg' : (if i < e.length then RS.nx (e.set i (some d)) m else .stuck) = .nx e1 m1 := hg
    by_cases hi : i < e.length
    · rw [if_pos hi] at hg'; cases hg'
      exact hk _ rfl (sim.set r i) (by simp) fun j hj => by rw [List.getElem?_set_ne (by intro z; subst z; exact hj (List.mem_singleton.mpr rfl))]
    · rw [if_neg hi] at hg'; cases hg'
  | tup js =>
    cases r with
    | @tup a vs ds q r =>
      have hg' : mGs (js.map mGName) ds e m = .nx e1 m1 := hg
      have hl : ∀ (gs : List GF) (ds : List D) (e : En) (m : Mu) (e' : En) (m' : Mu), mGs gs ds e m = .nx e' m' → gs.length = ds.length := by
        intro gs
        induction gs with
        | nil =>
          intro ds e m e' m' h
          cases ds with
          | nil => rfl
          | cons _ _ => cases h
        | cons g gs ih =>
          intro ds e m e' m' h
          cases ds with
          | nil => cases h
          | cons d ds =>
            unfold mGs at h
            split at h
            · exact congrArg (· + 1) (ih _ _ _ _ _ h)
            · cases h
      refine ⟨a, vs, rfl, .of (sim.h.exact q rfl), ?_, gnames_read sim r hg' hk⟩
      have := hl _ _ _ _ _ _ hg'
      rw [r.length, ← this, List.length_map]
    | _ => cases hg
def mYes : TF := fun _ m => .ok true m
theorem sp_nil : PTs X [] (tT X.K C W mYes) := ⟨fun pins s σ H Q I ⟨F, ro, e, m, sim, p⟩ => pts_nil.run pins s σ H Q I (p _ _ _ .refl sim.h)⟩
theorem sp_one {c : Expr} {f : TF} (h : PT X c (tT X.K C W f)) : PTs X [c] (tT X.K C W f) := pts_one h
open Classical in
noncomputable def mLcL (vw : IVw) (all : List D) (g : GF) (ft : TF) (fe : EF) (e0 : En) (i0 : Nat) : List D → Mu → R D
  | [], m => if vw m = some all then .ok (.loc i0) m else .stuck
  | d :: ds, m => if vw m = some all then (match g d e0 m with
      | .nx e1 _ => (match ft e1 m with
        | .ok b m2 => if b = true then (match fe e1 m2 with
            | .ok y m3 => (match m3[i0]? with
              | some (.lst acc) => if acc.length ≤ 1000000 then mLcL vw all g ft fe e0 i0 ds (m3.set i0 (.lst (acc ++ [y]))) else .stuck
              | _ => .stuck)
            | _ => .stuck) else mLcL vw all g ft fe e0 i0 ds m2
        | _ => .stuck)
      | _ => .stuck) else .stuck
noncomputable def mLc (fi : IF) (ct : CT) (ft : TF) (fe : EF) (vs : List Nat) : EF := fun e m => match fi e m with
  | .ok vw m1 => (match vw m1 with
    | some all => mLcL vw all ct.g ft fe (wip e vs) m1.length all (m1 ++ [.lst []])
    | none => .stuck)
  | .exc c d m1 => .exc c d m1
  | .stuck => .stuck
theorem mLcL_exc {vw : IVw} {all : List D} {g : GF} {ft : TF} {fe : EF} {e0 : En} {i0 : Nat} {c : Nat} {x : D} {m2 : Mu} : ∀ {ds : List D} {m : Mu}, mLcL vw all g ft fe e0 i0 ds m ≠ .exc c x m2
  | [], m => by
    unfold mLcL; split <;> (intro h; cases h)
  | d :: ds, m => by
    unfold mLcL
    split
    · split
      · split
        · split
          · split
            · split
              · split
                · exact mLcL_exc
                · intro h; cases h
              · intro h; cases h
            · intro h; cases h
          · exact mLcL_exc
        · intro h; cases h
      · intro h; cases h
    · intro h; cases h
theorem lc_read {fi : IF} {ct : CT} {ft : TF} {fe : EF} {vs : List Nat} (hv : ∀ i ∈ ct.sl, i ∈ vs) {s : L2.St} {H : Hp} {Q : VK} (q : tE X.K C W (mLc fi ct ft fe vs) s H Q) : tLc (tI X.K C W fi) (ct.tg X.K) (tT X.K C WNo ft) (tE X.K C WNo fe) vs s H Q := by
  obtain ⟨F, ro, e, m, sim, p⟩ := q
  refine ⟨F, ro, e, m, sim, ?_⟩
  unfold mLc at p
  cases h : fi e m with
  | ok vw m1 =>
    rw [h] at p
    intro J H1 F1 ro1 x1 sim1 wk
    dsimp only at p
    cases hall : vw m1 with
    | none => rw [hall] at p; exact p.elim
    | some all =>
      rw [hall] at p
      dsimp only at p
      have p := Post.mono x1 p
      intro D hD
      obtain ⟨s0, x0⟩ := sim1.newM (o := .lst []) (u := .lst []) hD (.lst .nil)
      have hro : (ro1 ++ [D])[m1.length]? = some D := by rw [← sim1.len, List.getElem?_append_right (Nat.le_refl _), Nat.sub_self]; rfl
      refine ⟨fun i n H2 => ∃ F2 ro2 m2, Ext F1 (ro1 ++ [D]) F2 ro2 ∧ SimE X.K C F2 ro2 (wip e vs) m2 (wipe s vs) H2 ∧ i + n = all.length ∧ Post X.K C F2 ro2 W s Q (mLcL vw all ct.g ft fe (wip e vs) m1.length (all.drop i) m2), ⟨all.length, F1, _, _, .refl, ((sim.mk' x1 sim1).mk' x0 s0).wip vs, by simp, Post.mono x0 p⟩, ?_⟩
      rintro i n H2 ⟨F2, ro2, m2, x2, sim2, hn, p2⟩
      by_cases hi : i < all.length
      · have hd : all.drop i = all[i] :: all.drop (i + 1) := List.drop_eq_getElem_cons hi
        rw [hd] at p2
        unfold mLcL at p2
        by_cases hvw : vw m2 = some all
        · rw [if_pos hvw] at p2
          obtain ⟨g1, g2⟩ := wk.go F2 ro2 m2 H2 all i all[i] (x0.trans x2) sim2.h hvw (List.getElem?_eq_getElem hi)
          refine .inr ⟨g1, fun H' => ∃ F2 ro2 m2, Ext F1 (ro1 ++ [D]) F2 ro2 ∧ SimE X.K C F2 ro2 (wip e vs) m2 (wipe s vs) H' ∧ Post X.K C F2 ro2 W s Q (mLcL vw all ct.g ft fe (wip e vs) m1.length (all.drop (i + 1)) m2), fun H' ⟨F3, ro3, m3, x3, sim3, p3⟩ => ⟨n - 1, by omega, F3, ro3, m3, x3, sim3, by omega, p3⟩, fun y H3 hy => ?_⟩
          obtain ⟨F3, ro3, x3, sim3, r3⟩ := g2 y H3 hy
          have p3 := Post.mono x3 p2
          cases h4 : ct.g all[i] (wip e vs) m2 with
          | nx e4 m4 =>
            rw [h4] at p3
            dsimp only at p3
            refine ct_read (sim2.mk' x3 sim3) r3 h4 fun s4 _ sim4 hl4 hs4 => ?_
            refine ⟨?_, F3, ro3, e4, m2, sim4, ?_⟩
            · exact (wipe_eq (hl4.trans rfl) fun i hi => hs4 i fun z => hi (hv i z)).trans (wipe_idem s vs)
            cases h5 : ft e4 m2 with
            | ok b m5 =>
              rw [h5] at p3
              intro H5 F5 ro5 x5 sim5
              have p5 := Post.mono x5 p3
              cases b with
              | false =>
                rw [if_neg (by decide)]
                dsimp only at p5
                rw [if_neg (by decide)] at p5
                exact ⟨F5, ro5, m5, (x2.trans x3).trans x5, (sim2.mk' (x3.trans x5) sim5), p5⟩
              | true =>
                rw [if_pos rfl]
                dsimp only at p5
                rw [if_pos rfl] at p5
                refine ⟨F5, ro5, e4, m5, sim4.mk' x5 sim5, ?_⟩
                cases h6 : fe e4 m5 with
                | ok z m6 =>
                  rw [h6] at p5
                  intro v6 H6 F6 ro6 x6 sim6 r6
                  have p6 := Post.mono x6 p5
                  dsimp only at p6
                  split at p6
                  · rename_i acc hacc
                    have xx := ((x2.trans x3).trans x5).trans x6
                    have hroD := xx.at hro
                    obtain ⟨u, h7, h8, h9⟩ := sim6.at hroD hacc
                    cases h9 with
                    | @lst as _ ra =>
                      split at p6
                      · rename_i hz
                        refine ⟨as, h7, by rw [ra.length, sizeLine_eq]; omega, F6, ro6, _, xx, sim2.mk' ((x3.trans x5).trans x6) (sim6.write hroD (.lst (ra.app (.one r6)))), p6⟩
                      · exact p6.elim
                  · exact p6.elim
                | exc c d m6 => rw [h6] at p5; exact p5.elim
                | stuck => rw [h6] at p5; exact p5.elim
            | exc c d m5 => rw [h5] at p3; exact p3.elim
            | stuck => rw [h5] at p3; exact p3.elim
          | _ => rw [h4] at p3; exact p3.elim
        · rw [if_neg hvw] at p2; exact p2.elim
      · have hd : all.drop i = [] := List.drop_eq_nil_of_le (by omega)
        rw [hd] at p2
        unfold mLcL at p2
        by_cases hvw : vw m2 = some all
        · rw [if_pos hvw] at p2
          exact .inl ⟨wk.stop F2 ro2 m2 H2 all i (x0.trans x2) sim2.h hvw (by omega), p2 _ _ _ _ .refl sim2.h (.loc (x2.at hro))⟩
        · rw [if_neg hvw] at p2; exact p2.elim
  | exc c d m1 => rw [h] at p; exact fun dd v H' F' ro' x a b q => p dd v H' F' ro' x a b q
  | stuck => rw [h] at p; exact p
theorem se_lc {ifs : List Expr} {scope : Scope} {own : List (Str × Nat)} {vs : List Nat} {fi : IF} {ct : CT} {ft : TF} {fe : EF} (hc : X.calm = true) (hN : X.N.Nodup) (hi : PI X tg iter (tI X.K C W fi)) (ok : BlkOk X.N X.env.scope scope own)
    (hg : ∀ (s : Shared) (H : Hp) (C : Addr) (cl : List (Str × Addr)) (fp : List Addr), PG (X.blk s H scope (compEnvC scope cl C X.env) fp) tg (ct.tg X.K)) (ht : ∀ (s : Shared) (H : Hp) (Cc : Addr) (cl : List (Str × Addr)) (fp : List Addr), PTs (X.blk s H scope (compEnvC scope cl Cc X.env) fp) ifs (tT X.K C WNo ft))
    (he : ∀ (s : Shared) (H : Hp) (Cc : Addr) (cl : List (Str × Addr)) (fp : List Addr), PE (X.blk s H scope (compEnvC scope cl Cc X.env) fp) elt (tE X.K C WNo fe)) (hv : ∀ i ∈ ct.sl, i ∈ vs) (hvs : own.map (·.2) = vs) (hs : ∀ x, foldedSetIterable iter X.env x = pure x := by intro _; rfl) :
    PE X (.ListComp elt [⟨tg, iter, ifs, 0⟩] scope pos) (tE X.K C W (mLc fi ct ft fe vs)) := by
  subst hvs
  exact PE.im (pe_lc hc hN hi ok hg ht he hs) fun s H Q q => lc_read hv q
theorem sS_setLc {i : Nat} {y : Str} {py spos : Pos} {ifs : List Expr} {scope : Scope} {own : List (Str × Nat)} {vs : List Nat} {fi : IF} {ct : CT} {ft : TF} {fe : EF} (hc : X.calm = true) (hN : X.N.Nodup) (hy : X.N[i]? = some y) (hyl : X.env.scope.names.lookup y = some .local)
    (hsw : swapsWith (.ListComp elt [⟨tg, iter, ifs, 0⟩] scope pos) (some (.Name y py)) spos.line X.env = pure true) (hi : PI X tg iter (tI X.K C W fi)) (ok : BlkOk X.N X.env.scope scope own)
    (hg : ∀ (s : Shared) (H : Hp) (C : Addr) (cl : List (Str × Addr)) (fp : List Addr), PG (X.blk s H scope (compEnvC scope cl C X.env) fp) tg (ct.tg X.K)) (ht : ∀ (s : Shared) (H : Hp) (Cc : Addr) (cl : List (Str × Addr)) (fp : List Addr), PTs (X.blk s H scope (compEnvC scope cl Cc X.env) fp) ifs (tT X.K C WNo ft))
    (he : ∀ (s : Shared) (H : Hp) (Cc : Addr) (cl : List (Str × Addr)) (fp : List Addr), PE (X.blk s H scope (compEnvC scope cl Cc X.env) fp) elt (tE X.K C WNo fe)) (hv : ∀ i ∈ ct.sl, i ∈ vs) (hvs : own.map (·.2) = vs) (hs : ∀ x, foldedSetIterable iter X.env x = pure x := by intro _; rfl) :
    PS X (.Assign [.Name y py] (.ListComp elt [⟨tg, iter, ifs, 0⟩] scope pos) spos) (tS X.K C W (mAsg (mLc fi ct ft fe vs) (mGName i))) := by
  subst hvs
  exact PS.im (ps_setLc hc hN hy hyl hsw hi ok hg ht he hs) fun Dd s H q => lc_read hv (asg_read gname_read q)
/-- .. the list kept frozen -/
theorem cutA {f : EF} {i : Nat} {s : L2.St} {H : Hp} {Dd : Ends} (q : tS X.K C W (mAsg (mFrz f) (mGName i)) Dd s H) : tAsg (tE X.K C W f) (gName i) Dd s H := by
  have q1 : tAsg (tE X.K C W (mFrz f)) (gName i) Dd s H := asg_read gname_read q
  obtain ⟨F, ro, e, m, sim, p⟩ := q1
  exact ⟨F, ro, e, m, sim, Post.cut sim.h p⟩
theorem sS_setLcF {i : Nat} {y : Str} {py spos : Pos} {ifs : List Expr} {scope : Scope} {own : List (Str × Nat)} {vs : List Nat} {fi : IF} {ct : CT} {ft : TF} {fe : EF} (hc : X.calm = true) (hN : X.N.Nodup) (hy : X.N[i]? = some y) (hyl : X.env.scope.names.lookup y = some .local)
    (hsw : swapsWith (.ListComp elt [⟨tg, iter, ifs, 0⟩] scope pos) (some (.Name y py)) spos.line X.env = pure true) (hi : PI X tg iter (tI X.K C W fi)) (ok : BlkOk X.N X.env.scope scope own)
    (hg : ∀ (s : Shared) (H : Hp) (C : Addr) (cl : List (Str × Addr)) (fp : List Addr), PG (X.blk s H scope (compEnvC scope cl C X.env) fp) tg (ct.tg X.K)) (ht : ∀ (s : Shared) (H : Hp) (Cc : Addr) (cl : List (Str × Addr)) (fp : List Addr), PTs (X.blk s H scope (compEnvC scope cl Cc X.env) fp) ifs (tT X.K C WNo ft))
    (he : ∀ (s : Shared) (H : Hp) (Cc : Addr) (cl : List (Str × Addr)) (fp : List Addr), PE (X.blk s H scope (compEnvC scope cl Cc X.env) fp) elt (tE X.K C WNo fe)) (hv : ∀ i ∈ ct.sl, i ∈ vs) (hvs : own.map (·.2) = vs) (hs : ∀ x, foldedSetIterable iter X.env x = pure x := by intro _; rfl) :
    PS X (.Assign [.Name y py] (.ListComp elt [⟨tg, iter, ifs, 0⟩] scope pos) spos) (tS X.K C W (mAsg (mFrz (mLc fi ct ft fe vs)) (mGName i))) := by
  subst hvs
  exact PS.im (ps_setLc hc hN hy hyl hsw hi ok hg ht he hs) fun Dd s H q => lc_read hv (cutA q)

/-! ### calls with keywords alone -/
def pmK {α : Type} (q : List Nat) (us ws : List α) : List α := us ++ q.filterMap (ws[·]?)
theorem pmK_rel {q : List Nat} {vs : List V} {us : List Value} {zs : List V} {ws : List Value} (a : Vals vs us) (b : Vals zs ws) : Vals (pmK q vs zs) (pmK q us ws) := by
  have get : ∀ {zs : List V} {ws : List Value} (i : Nat), Vals zs ws → (zs[i]? = none ∧ ws[i]? = none) ∨ ∃ z w, zs[i]? = some z ∧ ws[i]? = some w ∧ RelV z w := by
    intro zs ws i b
    induction b generalizing i with
    | nil => exact .inl ⟨rfl, rfl⟩
    | cons h t ih =>
      cases i with
      | zero => exact .inr ⟨_, _, rfl, rfl, h⟩
      | succ i => simpa using ih i
  have h2 : Vals (q.filterMap (zs[·]?)) (q.filterMap (ws[·]?)) := by
    induction q with
    | nil => exact .nil
    | cons i q ih =>
      rcases get i b with ⟨h1, h2⟩ | ⟨z, w, h1, h2, h3⟩
      · rw [List.filterMap_cons_none h1, List.filterMap_cons_none h2]; exact ih
      · rw [List.filterMap_cons_some h1, List.filterMap_cons_some h2]; exact .cons h3 ih
  exact a.append h2
theorem pmK_reps {K : PySem.W.Frag} {F : Hp} {ro : List Addr} {q : List Nat} {vs zs : List V} {ds es : List D} (a : Reps K C F ro vs ds) (b : Reps K C F ro zs es) : Reps K C F ro (pmK q vs zs) (pmK q ds es) := by
  have h2 : Reps K C F ro (q.filterMap (zs[·]?)) (q.filterMap (es[·]?)) := by
    induction q with
    | nil => exact .nil
    | cons i q ih =>
      by_cases hi : i < es.length
      · obtain ⟨y, h1, h2⟩ := b.get (List.getElem?_eq_getElem hi)
        rw [List.filterMap_cons_some h1, List.filterMap_cons_some (List.getElem?_eq_getElem hi)]; exact .cons h2 ih
      · rw [List.filterMap_cons_none (List.getElem?_eq_none (by rw [b.length]; omega)), List.filterMap_cons_none (List.getElem?_eq_none (by omega))]; exact ih
  exact a.app h2
/-- how a call with n values and the keywords ks binds -/
abbrev KB (K : PySem.W.Frag) (fd : FuncData) (ps : List Str) (n : Nat) (ks : List Str) (q : List Nat) : Prop := KBn K fd ps n ks (fun us ws => pmK q us ws) (fun us ws => pmK q us ws)
theorem kb_mk {K : PySem.W.Frag} {x qual : Str} {st : Stmt} {fa : Addr} {fd : FuncData} {ps ks : List Str} {n : Nat} {q : List Nat} (F : Fun K x qual st fa fd)
    (h : ∀ (kV doc pm : Value) (an : Option Addr) (cdv ct : Value) (us ws : List Value), us.length = n → ws.length = ks.length → bindArgs (PySem.W.fnOf x qual (defArgs st) (defBody st) (defScope st) .none kV doc pm an cdv ct) ⟨us, ks.zip ws⟩ = pure (ps.zip (pmK q us ws))) : KB K fd ps n ks q := by
  obtain ⟨oc, od, kV, doc, pm, an, cdv, ct, osl, rfl, lk, hcd⟩ := F.ex
  exact ⟨fun s us ws _ h1 h2 => .of_eq (h kV doc pm an cdv ct us ws h1 h2), fun a b => pmK_rel a b⟩
variable {k n nu : Nat} {fa : Addr} {fd : FuncData} {ps ks : List Str} {d : Fn} {x : Str} {p0 apos : Pos} {h : AF} {kws : List Keyword} {q : List Nat}
theorem sk_nil : PK X [] (tA X.K C W mNil) := ⟨fun pos pins s σ H Q I hh => pk_nil.run pos pins s σ H Q I (by obtain ⟨F, ro, e, m, sim, p⟩ := hh; exact p _ _ _ _ .refl sim.h .nil)⟩
theorem sk_cons {f : EF} {nm : Option Str} {kpos : Pos} (ha : PE X ex (tE X.K C W f)) (hr : PK X kws (tA X.K C W h)) : PK X (⟨nm, ex, kpos⟩ :: kws) (tA X.K C W (mCons f h)) := ⟨fun pos pins s σ H Q I hh => (pk_cons ha hr).run pos pins s σ H Q I (by
  obtain ⟨F, ro, e, m, sim, p⟩ := hh
  refine tE_bindA sim p fun x H1 F1 ro1 m1 d x1 sim1 r1 p1 => ?_
  refine tA_bindA sim1 p1 fun xs H2 F2 ro2 m2 ds x2 sim2 r2 p2 => ?_
  exact p2 _ _ _ _ .refl sim2.h (.cons (r1.mono x2) r2))⟩
theorem run_fnKW {pins : List (Addr × Obj)} {s : L2.St} {H : Hp} {sh : Shared} {Q : VK} {us ws : List Value} {vs zs : List V} (G : FnOk X.prog X.w X.K X.mg X.base (L2.CX X.prog X.w) k fa fd ps (spS X.K C n d)) (hr : Room k X.A) (hb : KB X.K fd ps nu ks q) (tk : Takes X W)
    (I : Inv X pins s H sh) (r : Vals vs us) (rz : Vals zs ws) (l1 : vs.length = nu) (l2 : zs.length = ks.length) (h : spS X.K C n d (pmK q vs zs) H Q fun c dd H => W c dd s H) : wpAny (model X.prog X.w) X.A (call (.ref fa) us (ks.zip ws)) (EP X pins s Q) X.xe sh := by
  refine wpAny_call (codeAny_mono (G.run X.A X.stack sh H ⟨us, ks.zip ws⟩ (pmK q us ws) (pmK q vs zs) Q (fun c dd H => W c dd s H) hr I.env0 (hb.to sh us ws I.kIn (by rw [← r.length]; exact l1) (by rw [← rz.length]; exact l2)) (pmK_rel r rz) h) fun r s' hq => ?_)
  cases r with
  | error e => exact passAt tk s pins H sh e s' I hq
  | ok fl =>
    cases fl with
    | ret u => exact I.after hq
    | next => exact False.elim hq
    | brk => exact False.elim hq
    | cont => exact False.elim hq
def mCallK (q : List Nat) (nk n : Nat) (d : Fn) (h : AF) : EF := fun e m => (h e m).bind fun ds m1 => if ds.length = nk ∧ (pmK q [] ds).length = n then d (pmK q [] ds) m1 else .stuck
theorem se_callK (G : FnOk X.prog X.w X.K X.mg X.base (L2.CX X.prog X.w) k fa fd ps (spS X.K C n d)) (hr : Room k X.A) (hg : Gl X x) (hm : X.mg x = some (.ref fa)) (hk : PySem.W.keepIn X.K (.ref fa) = true) (hb : KB X.K fd ps 0 ks q)
    (tk : Takes X W) (hkw : PK X kws (tA X.K C W h)) (hall : (backToKw pos (keywordEach kws X.env)).all (·.1.isSome) = true := by rfl) (hks : (backToKw pos (keywordEach kws X.env)).filterMap (·.1) = ks := by rfl)
    (hdb : (x == ("__debug__" : Str)) = false := by decide) (hpl : ((backTo pos (starEach [] X.env)).any (·.1) || (backToKw pos (keywordEach kws X.env)).any (·.1.isNone)) = false := by rfl) :
    PE X (.Call (.Name x p0) [] kws pos) (tE X.K C W (mCallK q ks.length n d h)) := by
  refine ⟨fun pins s σ H Q I hh => ?_⟩
  refine wpAny_Call_Name_kw (ld_glob I hg hm ?_ hdb)
  refine PySem.W.callWith_KW0 (h₀ := X.base) I.ok.mod.kin hk hall (thn (hkw.run pos pins s σ H (fun zs H2 => zs.length = ks.length ∧ spS X.K C n d (pmK q [] zs) H2 Q fun c dd H => W c dd σ H) I ?_) fun ws s2 ⟨zs, H2, I2, rz, l2, q2⟩ => ⟨I2.kIn, ?_⟩) hpl
  · obtain ⟨F, ro, e, m, sim, p⟩ := hh
    refine tA_bind sim p fun xs H1 F1 ro1 m1 ds x1 sim1 r1 p1 => ?_
    split at p1
    · rename_i hc
      refine ⟨by rw [r1.length]; exact hc.1, F1, ro1, m1, pmK q [] ds, sim1.h, pmK_reps .nil r1, hc.2, ?_⟩
      cases h2 : d (pmK q [] ds) m1 with
      | ok d m2 => rw [h2] at p1; exact p1
      | exc c d m2 => rw [h2] at p1; exact p1
      | stuck => rw [h2] at p1; exact p1
    · exact p1.elim
  · rw [hks]
    exact run_fnKW G hr hb tk I2 .nil rz rfl l2 q2
/-- o.m(k = v, ..) -/
def mMethK (c : Nat) (mn : Str) (q : List Nat) (nk n : Nat) (d : Fn) (fo : EF) (h : AF) : EF := fun e m => (fo e m).bind fun x m1 => match insOf m1 x with
  | some (c', fs) => if c' = c ∧ fs.lookup mn = none then (h e m1).bind fun ds m2 => if ds.length = nk ∧ (pmK q [x] ds).length = n then d (pmK q [x] ds) m2 else .stuck else .stuck
  | none => .stuck
theorem se_methK {c : Nat} {mn : Str} {o : Expr} {fo : EF} {pl : Sem Bool} (he : PE X o (tE X.K C W fo)) (cl : Cls X.K (C c)) (hm : Meth X.K (C c) mn fa) (G : FnOk X.prog X.w X.K X.mg X.base (L2.CX X.prog X.w) k fa fd ps (spS X.K C n d)) (hr : Room k X.A) (hb : KB X.K fd ps 1 ks q) (tk : Takes X W) (hkw : PK X kws (tA X.K C W h))
    (hall : (backToKw pos (keywordEach kws X.env)).all (·.1.isSome) = true := by rfl) (hks : (backToKw pos (keywordEach kws X.env)).filterMap (·.1) = ks := by rfl)
    (hpl : ((backTo pos (starEach [] X.env)).any (·.1) || (backToKw pos (keywordEach kws X.env)).any (·.1.isNone)) = false := by rfl)
    (ht : eval (.Call (.Attribute o mn apos) [] kws pos) X.env = (do
      let ov ← eval o X.env
      standAt apos.atName
      let (f, first) ← holding [ov] (getMethod ov mn pl)
      callWith pos f first (backTo pos (starEach [] X.env)) (backToKw pos (keywordEach kws X.env))) := by rfl) :
    PE X (.Call (.Attribute o mn apos) [] kws pos) (tE X.K C W (mMethK c mn q ks.length n d fo h)) := by
  refine ⟨fun pins s σ H Q I ⟨F, ro, e, m, sim, p⟩ => ?_⟩
  refine PySem.W.methodCall_KW (pl := pl) (thn (he.run pins s σ H (fun x H1 => ∃ a dx fs, x = .ref a ∧ H1 a = some (.ins (C c) dx fs) ∧ fs.lookup mn = none ∧ tA X.K C W h σ H1 fun zs H2 => zs.length = ks.length ∧ spS X.K C n d (pmK q [x] zs) H2 Q fun c dd H => W c dd σ H) I ?_) fun u s1 ⟨x, H1, I1, rx, a, dx, fs, ex, ea, l, q⟩ => ?_) ht
  · refine tE_bind sim p fun x H1 F1 ro1 m1 dd x1 sim1 r1 p1 => ?_
    cases hi : insOf m1 dd with
    | none => rw [hi] at p1; exact p1.elim
    | some cf =>
      obtain ⟨c', fs⟩ := cf
      rw [hi] at p1
      dsimp only at p1
      split at p1
      · rename_i hc
        obtain ⟨rfl, hl⟩ := hc
        obtain ⟨a, dx, vfs, rfl, ha, r⟩ := insOf_rep sim1.h r1 hi
        refine ⟨a, dx, vfs, rfl, ha, r.none_ hl, ?_⟩
        refine tA_bind sim1 p1 fun xs H2 F2 ro2 m2 ds x2 sim2 r2 p2 => ?_
        split at p2
        · rename_i hc
          refine ⟨by rw [r2.length]; exact hc.1, F2, ro2, m2, pmK q [dd] ds, sim2.h, pmK_reps (.one (r1.mono x2)) r2, hc.2, ?_⟩
          cases h2 : d (pmK q [dd] ds) m2 with
          | ok d m2 => rw [h2] at p2; exact p2
          | exc c d m2 => rw [h2] at p2; exact p2
          | stuck => rw [h2] at p2; exact p2
        · exact p2.elim
      · exact p1.elim
  · subst ex
    obtain rfl : u = Value.ref a := rx
    refine getmeth_ok I1 ea cl hm l ?_
    refine PySem.W.callWith_KW0 (first := [.ref a]) (h₀ := X.base) I.ok.mod.kin hm.kp hall (thn (hkw.run pos pins s1 σ H1 _ I1 q) fun ws s2 ⟨zs, H2, I2, rz, l2, q2⟩ => ⟨I2.kIn, ?_⟩) hpl
    rw [hks]
    exact run_fnKW (us := [.ref a]) (vs := [.ref a]) G hr hb tk I2 (.cons rfl .nil) rz rfl l2 q2
end
end SL
namespace SL
open PySem PySem.Spec PyProof.Rows L2
section
variable {X : Cx} {C : Nat → Addr} {W : WX} {ex a b o : Expr} {es : List Expr} {pos apos : Pos} {fa fb fo fe : EF}
/-! ### op= -/
def rIadd : R2 := fun x y H Q => rI0 (fun i j => .int (i + j)) x y H Q ∨ ∃ i j, x = .str i ∧ y = .str j ∧ i.length + j.length ≤ sizeLine ∧ Q (.str (i ++ j)) H
theorem iop_addX : OpR X (inplaceOp .Add) rIadd := iop_add.or iop_add_str
def iaddD (x y : D) (m : Mu) : R D := match x, y with
  | .int i, .int j => .ok (.int (i + j)) m
  | .str s, .str t => if s.length + t.length ≤ 1048576 then .ok (.str (s ++ t)) m else .stuck
  | _, _ => .stuck
theorem ok_iadd : OpOk X C rIadd iaddD := fun F ro m H x y dx dy W s Q sim rx ry p => by
  cases rx with
  | int i =>
    cases ry with
    | int j => exact .inl ⟨i, j, rfl, rfl, p.val sim (.int _)⟩
    | _ => exact p.elim
  | str i =>
    cases ry with
    | str j =>
      have p' : Post X.K C F ro W s Q (if i.length + j.length ≤ 1048576 then .ok (.str (i ++ j)) m else .stuck) := p
      split at p'
      · rename_i hl
        refine .inr ⟨sS i, sS j, rfl, rfl, by rw [sS_len, sS_len, sizeLine_eq]; omega, ?_⟩
        rw [sS_app]
        exact p'.val sim (.str _)
      · exact p'.elim
    | _ => exact p.elim
  | _ => exact p.elim
/-! ### x, y = a, b with plain names -/
def mPar (i j : Nat) (h : AF) : SF := fun e m => match h e m with
  | .ok [x, y] m1 => if i < e.length ∧ j < e.length then .nx ((e.set i (some x)).set j (some y)) m1 else .stuck
  | .ok _ _ => .stuck
  | .exc c d m1 => .exc c d e m1
  | .stuck => .stuck
theorem sS_par {i j : Nat} {x y : Str} {h : AF} {px py pt : Pos} {kt k2 pt2} (hc : X.calm = true) (hN : X.N.Nodup) (hi : X.N[i]? = some x) (hj : X.N[j]? = some y) (hij : i ≠ j)
    (hx : X.env.scope.names.lookup x = some .local) (hy : X.env.scope.names.lookup y = some .local) (ha : PA X [a, b] (tA X.K C W h))
    (hw : swappedStores [.Tuple [.Name x px, .Name y py] kt pt] (.Tuple [a, b] k2 pt2) X.env = pure (some [x, y]) := by rfl)
    (hs : swapsWithSole [.Tuple [.Name x px, .Name y py] kt pt] (.Tuple [a, b] k2 pt2) pos.line X.env = pure false := by rfl) :
    PS X (.Assign [.Tuple [.Name x px, .Name y py] kt pt] (.Tuple [a, b] k2 pt2) pos) (tS X.K C W (mPar i j h)) :=
  PS.im (ps_par hc hN hi hj hij hx hy ha hw hs) fun Dd s H ⟨F, ro, e, m, sim, p⟩ => by
    refine ⟨F, ro, e, m, sim, ?_⟩
    unfold mPar at p
    cases hh : h e m with
    | ok ds m1 =>
      rw [hh] at p
      intro vs H1 F1 ro1 x1 sim1 r1
      have p1 := PostS.mono x1 p
      cases r1 with
      | nil => exact p1.elim
      | cons ra rt =>
        cases rt with
        | nil => exact p1.elim
        | cons rb rt =>
          cases rt with
          | cons _ _ => exact p1.elim
          | nil =>
            dsimp only at p1
            split at p1
            · exact ⟨_, _, rfl, p1 _ _ _ _ .refl (((sim.mk' x1 sim1).set ra i).set rb j)⟩
            · exact p1.elim
    | exc c d m1 => rw [hh] at p; exact fun dd v H' F' ro' x a b q => p dd v s H' F' ro' x (sim.mk' x a) b q
    | stuck => rw [hh] at p; exact p
/-! ### min(xs, default=None) -/
theorem readsAll_ints {h : Heap} : ∀ {us : List Value} {ns : List Int}, IntsAre us ns → PySem.ReadsAll h us (ns.map PySem.W.Datum.toD) []
  | _, _, .nil => .nil
  | _, _, .cons _ _ t => .cons (.int _ _) (readsAll_ints t)
theorem minOf_ok : ∀ (xs : List Int) (x : Int), PySem.W.minOf x xs ∈ x :: xs ∧ ∀ y, y ∈ x :: xs → PySem.W.minOf x xs ≤ y
  | [], x => ⟨List.mem_cons_self .., fun y h => by rw [List.mem_singleton.mp h]; exact Int.le_refl _⟩
  | z :: zs, x => by
    have e : PySem.W.minOf x (z :: zs) = PySem.W.minOf (if z < x then z else x) zs := by
      show PySem.W.minOf (if decide (z < x) = true then z else x) zs = _
      simp only [decide_eq_true_eq]
    obtain ⟨h1, h2⟩ := minOf_ok zs (if z < x then z else x)
    rw [e]
    refine ⟨?_, fun y hy => ?_⟩
    · rcases List.mem_cons.mp h1 with h | h
      · rw [h]; split <;> simp
      · simp [h]
    · have hx := h2 _ (List.mem_cons_self ..)
      rcases List.mem_cons.mp hy with rfl | hy
      · refine Int.le_trans hx ?_; split <;> omega
      · rcases List.mem_cons.mp hy with rfl | hy
        · refine Int.le_trans hx ?_; split <;> omega
        · exact h2 _ (List.mem_cons_of_mem _ hy)
def rMinDef (K : PySem.W.Frag) : List V → List V → Hp → VK → Prop := fun vs zs H Q => ∃ (a : Addr) (ns : List Int) (z : V), vs = [V.ref a] ∧ zs = [z] ∧ SqL K H a (ns.map V.int) ∧ (if ns = [] then Q z H else ∀ m, m ∈ ns → (∀ y, y ∈ ns → m ≤ y) → Q (.int m) H)
theorem cr_minDef (hc : X.calm = true) (hu : X.A.units + 64 < cLine) : CallRK X (.builtin "min") [Str.ofString "default"] (rMinDef X.K) := by
  intro pins s σ H vs zs us ws Q I r rz h
  obtain ⟨a, ns, z, rfl, rfl, hs, q⟩ := h
  obtain ⟨its, rv, hl, _⟩ := I.list hs
  rw [Vals.ref1 r]
  cases rz with
  | @cons _ w _ _ r1 r2 =>
    cases r2
    show wpAny _ _ (call (.builtin "min") [.ref a] [(Str.ofString "default", w)]) _ _ _
    refine PySem.W.min_list_datum_default (α := Int) (xs := ns) (I.ok.hd hc) hl.isList ⟨[], by simpa using readsAll_ints rv.ints⟩ (by show X.A.units + 1 + 0 < cLine; omega) (fun e h' tk hk => ?_) fun y ys i v h' tk e hi hh hk => ?_
    · rw [if_pos e] at q
      exact ⟨z, H, I.kept hk, r1, q⟩
    · subst e
      rw [if_neg (by simp)] at q
      obtain ⟨as, rd⟩ := hh
      have ⟨h1, h2⟩ := minOf_ok ys y
      refine ⟨.int (PySem.W.minOf y ys), H, I.kept hk, ?_, q _ h1 h2⟩
      have rd' : PySem.Reads h' v (.int (PySem.W.minOf y ys)) as := rd
      cases rd'
      exact ⟨_, rfl⟩
def minDefD (d z : D) (m : Mu) : R D := match (listOf m d).bind intsL with
  | some ns => if ns = [] then .ok z m else .ok (.int (minI ns)) m
  | none => .stuck
def mMinDef (f g : EF) : EF := fun e m => (f e m).bind fun d m1 => (g e m1).bind fun z m2 => minDefD d z m2
theorem se_minDef {p0 kpos : Pos} (hc : X.calm = true) (hu : X.A.units + 64 < cLine) (hg : Gl X "min") (hm : X.mg "min" = none) (hv : bootBuiltins "min" = some (.builtin "min")) (ha : PE X a (tE X.K C W fa)) (hb : PE X b (tE X.K C W fb))
    (hs : starEach [a] X.env = (false, eval a X.env) :: starEach [] X.env := by rfl)
    (he : backTo pos (starEach [a] X.env) = (false, eval a X.env) :: backTo pos (starEach [] X.env) := by rfl) (hpl : (backTo pos (starEach [a] X.env)).any (·.1) = false := by rfl)
    (hall : (backToKw pos (keywordEach [⟨some "default", b, kpos⟩] X.env)).all (·.1.isSome) = true := by rfl) (hnone : (backToKw pos (keywordEach [⟨some "default", b, kpos⟩] X.env)).any (·.1.isNone) = false := by rfl) (hks : (backToKw pos (keywordEach [⟨some "default", b, kpos⟩] X.env)).filterMap (·.1) = [Str.ofString "default"] := by rfl) :
    PE X (.Call (.Name "min" p0) [a] [⟨some "default", b, kpos⟩] pos) (tE X.K C W (mMinDef fa fb)) :=
  PE.im (pe_callBK (cr_minDef hc hu) hg hm hv (pa_cons ha pa_nil hs) (pk_cons hb pk_nil) (by decide) (by decide) he hpl hall hnone hks) fun s H Q ⟨F, ro, e, m, sim, p⟩ => by
    refine tE_bind sim p fun x H1 F1 ro1 m1 d x1 sim1 r1 p1 => ?_
    refine tE_bind sim1 p1 fun z H2 F2 ro2 m2 dz x2 sim2 r2 p2 => ?_
    have p3 : Post X.K C F2 ro2 W s Q (minDefD d dz m2) := p2
    unfold minDefD at p3
    cases h1 : (listOf m2 d).bind intsL with
    | none => rw [h1] at p3; exact p3.elim
    | some ns =>
      rw [h1] at p3
      obtain ⟨a, rfl, ha⟩ := listInts sim2.h (r1.mono x2) h1
      refine ⟨a, ns, z, rfl, rfl, .of ha, ?_⟩
      dsimp only at p3
      split at p3
      · rename_i e0
        rw [if_pos e0]
        exact p3.val sim2.h r2
      · rename_i e0
        rw [if_neg e0]
        intro m' h1 h2
        have : m' = minI ns := Int.le_antisymm (h2 _ (minI_mem e0)) (minI_le h1)
        rw [this]
        exact p3.val sim2.h (.int _)
end
end SL
namespace SL
open PySem PySem.Spec PyProof.Rows L2
/-! ### the end -/
theorem fn_stuck {P : Program} {w : World} {K : PySem.W.Frag} {C : Nat → Addr} {mg : Str → Option Value} {base : Heap} {x qual : Str} {st : Stmt} {fa : Addr} {fd : FuncData} {N ps : List Str} {k n : Nat}
    (Fu : Fun K x qual st fa fd) (S : FnScope N ps (defScope st)) (hn : ps.length = n) : FnOk P w K mg base (L2.CX P w) (k + 1) fa fd ps (spS K C n (fun _ _ => .stuck)) := by
  refine Fu.okX S (fun vs H Q E h => ?_) (fun cdv A outer s H vs Q E hr h => ?_)
  · obtain ⟨F, ro, m, ds, _, r, hl, _⟩ := h
    rw [r.length, hl, hn]
  · obtain ⟨F, ro, m, ds, sim, r, hl, p⟩ := h
    exact p.elim
theorem sim_start {K : PySem.W.Frag} {C : Nat → Addr} {H : Hp} : SimH K C H [] [] H := ⟨fun a o e => .inl e, rfl, fun i o e => by simp at e, List.nodup_nil⟩
theorem walk_sl {l : PySem.W.OpenLaw} {k : Nat} {d : Fn} {q : Program} {loose : List Str} {XP : (Str → Option Value) → Heap → Prop} {YP : World → Heap → Prop} {dr : DefRec} {K : Params → PySem.W.Frag} {x : Str}
    (hn : l.most = some 63) (hdf : dr.params.defaults = []) (hr : Room k callerA)
    (hY : ∀ (w : World) (h : Heap), YP w h → (K w.params).In h)
    (F : ∀ (w : World) (mg : Str → Option Value) (fa : Addr) (h : Heap), (K w.params).In h → h.Ns mainGlobals mg → mg dr.name = some (.ref fa) →
      ∃ (fd : FuncData) (C : Nat → Addr), (∀ (s : Shared) (u : Value), BindsTo s fd ⟨[u], []⟩ [(x, u)]) ∧
        ∀ base : Heap, (K w.params).In base → base.Ns mainGlobals mg → FnOk l.prog w (K w.params) mg base (L2.CX l.prog w) k fa fd [x] (spS (K w.params) C 1 d))
    (hd : ∀ ns : List Int, ns.length ≤ 63 → (∀ z ∈ ns, Builtin.Int.intBits z ≤ 1048576) → ∃ m, d [.scr ns] [] = .ok (.bl true) m) :
    PySem.W.WalkO q loose XP YP l.row.toRowW dr [] (fun f vs => PySem.call f vs) :=
  walk_ofB (n := 63) (CX := fun w => L2.CX l.prog w) (sp := fun w vs H Q E => ∀ C : Nat → Addr, spS (K w.params) C 1 d vs H Q E) hn (by decide) hdf hr hY
    (fun w mg fa h a b c => by
      obtain ⟨fd, C, h1, h2⟩ := F w mg fa h a b c
      exact ⟨fd, h1, fun base e1 e2 => (h2 base e1 e2).imp fun vs H Q E g => g C⟩)
    (fun w H a ns hl hb hO hS C => by
      obtain ⟨m, e⟩ := hd ns hl hb
      refine ⟨H, [], [], [.scr ns], sim_start, .one (.scr hS), rfl, ?_⟩
      rw [e]
      intro v H' F' ro' x sim r
      cases r
      rfl)
    (fun w H s e s' ⟨_, _, _, _, _, _, _, _, _, _, _, _, h⟩ => h)
end SL
/-! Plain reasoning about the denotations: what must hold ahead. -/
namespace SL
open PySem PySem.Spec PyProof.Rows L2
abbrev XP := Nat → D → Mu → Prop
structure Wp {α : Type} (r : R α) (P : α → Mu → Prop) (E : XP) : Prop where
  h : match r with
    | .ok a m => P a m
    | .exc c d m => E c d m
    | .stuck => False
structure Ps where
  nx : En → Mu → Prop
  rt : D → Mu → Prop
  bk : En → Mu → Prop
  ct : En → Mu → Prop
  ex : Nat → D → En → Mu → Prop
structure St (r : RS) (Q : Ps) : Prop where
  h : match r with
    | .nx e m => Q.nx e m
    | .ret d m => Q.rt d m
    | .bk e m => Q.bk e m
    | .ct e m => Q.ct e m
    | .exc c d e m => Q.ex c d e m
    | .stuck => False
section
variable {α β : Type} {P P' : α → Mu → Prop} {E E' : XP} {Q Q' : Ps} {e : En} {m : Mu}
theorem Wp_ok {a : α} : Wp (.ok a m) P E = P a m := propext ⟨fun h => h.h, fun h => ⟨h⟩⟩
theorem Wp_exc {c : Nat} {d : D} : Wp (.exc c d m : R α) P E = E c d m := propext ⟨fun h => h.h, fun h => ⟨h⟩⟩
theorem Wp_stuck : Wp (.stuck : R α) P E = False := propext ⟨fun h => h.h, fun h => ⟨h⟩⟩
theorem Wp_bind {r : R α} {k : α → Mu → R β} {P : β → Mu → Prop} : Wp (r.bind k) P E = Wp r (fun a m => Wp (k a m) P E) E := by
  cases r with
  | ok a m => rw [Wp_ok]; rfl
  | exc c d m => rw [Wp_exc]; exact Wp_exc
  | stuck => rw [Wp_stuck]; exact Wp_stuck
theorem Wp_ite {c : Prop} [Decidable c] {a b : R α} : Wp (if c then a else b) P E = if c then Wp a P E else Wp b P E := by split <;> rfl
theorem Wp_imp {r : R α} (h : Wp r P E) (h1 : ∀ a m, P a m → P' a m) (h2 : ∀ c d m, E c d m → E' c d m) : Wp r P' E' := by
  cases r with
  | ok a m => exact ⟨h1 _ _ h.h⟩
  | exc c d m => exact ⟨h2 _ _ _ h.h⟩
  | stuck => exact h.h.elim
theorem Wp_mono {r : R α} (h : Wp r P E) (h1 : ∀ a m, P a m → P' a m) : Wp r P' E := Wp_imp h h1 fun _ _ _ h => h
theorem Wp_eq {r r' : R α} (h : r = r') (h1 : Wp r' P E) : Wp r P E := h ▸ h1
theorem St_nx : St (.nx e m) Q = Q.nx e m := propext ⟨fun h => h.h, fun h => ⟨h⟩⟩
theorem St_ret {d : D} : St (.ret d m) Q = Q.rt d m := propext ⟨fun h => h.h, fun h => ⟨h⟩⟩
theorem St_bk : St (.bk e m) Q = Q.bk e m := propext ⟨fun h => h.h, fun h => ⟨h⟩⟩
theorem St_ct : St (.ct e m) Q = Q.ct e m := propext ⟨fun h => h.h, fun h => ⟨h⟩⟩
theorem St_exc {c : Nat} {d : D} : St (.exc c d e m) Q = Q.ex c d e m := propext ⟨fun h => h.h, fun h => ⟨h⟩⟩
theorem St_stuck : St .stuck Q = False := propext ⟨fun h => h.h, fun h => ⟨h⟩⟩
theorem St_ite {c : Prop} [Decidable c] {a b : RS} : St (if c then a else b) Q = if c then St a Q else St b Q := by split <;> rfl
theorem St_imp {r : RS} (h : St r Q) (h1 : ∀ e m, Q.nx e m → Q'.nx e m) (h2 : ∀ d m, Q.rt d m → Q'.rt d m) (h3 : ∀ e m, Q.bk e m → Q'.bk e m) (h4 : ∀ e m, Q.ct e m → Q'.ct e m) (h5 : ∀ c d e m, Q.ex c d e m → Q'.ex c d e m) : St r Q' := by
  cases r with
  | nx e m => exact ⟨h1 _ _ h.h⟩
  | ret d m => exact ⟨h2 _ _ h.h⟩
  | bk e m => exact ⟨h3 _ _ h.h⟩
  | ct e m => exact ⟨h4 _ _ h.h⟩
  | exc c d e m => exact ⟨h5 _ _ _ _ h.h⟩
  | stuck => exact h.h.elim
theorem iteF_and {c : Prop} [Decidable c] {X : Prop} : (if c then X else False) = (c ∧ X) := by
  split <;> simp [*]
/-- expressions -/
theorem mVar_eq {i : Nat} {d : D} (h : e[i]? = some (some d)) : mVar i e m = .ok d m := by unfold mVar; rw [h]
theorem Wp_toS {r : R D} {k : D → Mu → RS} : St (r.toS e k) Q = Wp r (fun d m => St (k d m) Q) (fun c d m => Q.ex c d e m) := by
  cases r with
  | ok a m => rw [Wp_ok]; rfl
  | exc c d m => rw [Wp_exc]; exact St_exc
  | stuck => rw [Wp_stuck]; exact St_stuck
/-- statements -/
theorem St_seq {f g : SF} : St (mSeq f g e m) Q = St (f e m) { Q with nx := fun e m => St (g e m) Q } := by
  unfold mSeq
  cases f e m with
  | nx e m => rw [St_nx]
  | ret d m => rw [St_ret, St_ret]
  | bk d m => rw [St_bk, St_bk]
  | ct d m => rw [St_ct, St_ct]
  | exc c d e m => rw [St_exc, St_exc]
  | stuck => rw [St_stuck, St_stuck]
theorem St_if {t : TF} {f g : SF} : St (mIf t f g e m) Q = Wp (t e m) (fun c m1 => if c = true then St (f e m1) Q else St (g e m1) Q) (fun c d m => Q.ex c d e m) := by
  unfold mIf
  cases t e m with
  | ok c m1 => dsimp only; rw [St_ite, Wp_ok]
  | exc _ _ _ => dsimp only; rw [St_exc, Wp_exc]
  | stuck => dsimp only; rw [St_stuck, Wp_stuck]
/-- a target -/
theorem St_to {r : RS} : St (match r with | .nx e' m' => .nx e' m' | _ => .stuck) Q = St r { nx := Q.nx, rt := fun _ _ => False, bk := fun _ _ => False, ct := fun _ _ => False, ex := fun _ _ _ _ => False } := by
  cases r with
  | nx e m => dsimp only; rw [St_nx, St_nx]
  | ret d m => dsimp only; rw [St_ret, St_stuck]
  | bk d m => dsimp only; rw [St_bk, St_stuck]
  | ct d m => dsimp only; rw [St_ct, St_stuck]
  | exc c d e m => dsimp only; rw [St_exc, St_stuck]
  | stuck => dsimp only; rw [St_stuck, St_stuck]
theorem St_asg {f : EF} {g : GF} : St (mAsg f g e m) Q = Wp (f e m) (fun d m1 => St (g d e m1) { nx := Q.nx, rt := fun _ _ => False, bk := fun _ _ => False, ct := fun _ _ => False, ex := fun _ _ _ _ => False }) (fun c d m => Q.ex c d e m) := by
  unfold mAsg
  rw [Wp_toS]
  congr 1
  funext d m1
  rw [← St_to]
  try congr 1
theorem St_gname {i : Nat} {d : D} : St (mGName i d e m) Q = (i < e.length ∧ Q.nx (e.set i (some d)) m) := by
  unfold mGName
  rw [St_ite, St_nx, St_stuck, iteF_and]
theorem St_asgN {f : EF} {i : Nat} : St (mAsg f (mGName i) e m) Q = (Wp (f e m) (fun d m1 => i < e.length ∧ Q.nx (e.set i (some d)) m1) (fun c d m => Q.ex c d e m)) := by
  rw [St_asg]
  congr 1
  funext d m1
  rw [St_gname]
theorem St_ret' {f : EF} : St (mRet f e m) Q = Wp (f e m) Q.rt (fun c d m => Q.ex c d e m) := by
  unfold mRet; rw [Wp_toS]
  congr 1
  funext d m1
  rw [St_ret]
theorem St_drop {f : EF} : St (mDrop f e m) Q = Wp (f e m) (fun _ m1 => Q.nx e m1) (fun c d m => Q.ex c d e m) := by
  unfold mDrop; rw [Wp_toS]
  congr 1
  funext d m1
  rw [St_nx]
theorem St_next : St (mNext e m) Q = Q.nx e m := St_nx
theorem St_brk : St (mBrk e m) Q = Q.bk e m := St_bk
theorem St_cnt : St (mCnt e m) Q = Q.ct e m := St_ct
theorem St_retN : St (mRetN e m) Q = Q.rt .non m := St_ret
theorem St_out : St (mOut e m) Q = False := St_stuck
theorem St_aug {i : Nat} {g : D → D → Mu → R D} {f : EF} {x : D} (h : e[i]? = some (some x)) : St (mAug i g f e m) Q = Wp (f e m) (fun y m1 => Wp (g x y m1) (fun z m2 => Q.nx (e.set i (some z)) m2) (fun _ _ _ => False)) (fun c d m => Q.ex c d e m) := by
  unfold mAug
  rw [h]
  dsimp only
  rw [Wp_toS]
  congr 1
  funext y m1
  cases g x y m1 with
  | ok _ _ => dsimp only; rw [St_nx, Wp_ok]
  | exc _ _ _ => dsimp only; rw [St_stuck, Wp_exc]
  | stuck => dsimp only; rw [St_stuck, Wp_stuck]
theorem Wp_out {r : RS} {P : D → Mu → Prop} : Wp r.out P E = St r { nx := fun _ m => P .non m, rt := P, bk := fun _ _ => False, ct := fun _ _ => False, ex := fun c d _ m => E c d m } := by
  cases r with
  | nx e m => rw [St_nx]; exact Wp_ok
  | ret d m => rw [St_ret]; exact Wp_ok
  | bk d m => rw [St_bk]; exact Wp_stuck
  | ct d m => rw [St_ct]; exact Wp_stuck
  | exc c d e m => rw [St_exc]; exact Wp_exc
  | stuck => rw [St_stuck]; exact Wp_stuck
theorem Wp_fun {n : Nat} {f : SF} {ds : List D} {P : D → Mu → Prop} : Wp (mFun n f ds m) P E = St (f (ds.map some ++ List.replicate (n - ds.length) none) m) { nx := fun _ m => P .non m, rt := P, bk := fun _ _ => False, ct := fun _ _ => False, ex := fun c d _ m => E c d m } := Wp_out
/-- while: I by the values, μ a measure -/
theorem St_while {t : TF} {f : SF} (I : Nat → En → Mu → Prop) :
    ∀ (n k : Nat) (e : En) (m : Mu), k ≤ n → I k e m → (∀ k e m, I k e m → Wp (t e m) (fun c m1 => if c = true then St (f e m1) { nx := fun e' m' => ∃ k', k' < k ∧ I k' e' m', rt := Q.rt, bk := Q.nx, ct := fun e' m' => ∃ k', k' < k ∧ I k' e' m', ex := Q.ex } else Q.nx e m1) (fun c d m => Q.ex c d e m)) →
      St (mWhileN (n + 1) t f e m) Q
  | n, k, e, m, hk, hI, hs => by
    have h := hs k e m hI
    unfold mWhileN
    cases ht : t e m with
    | ok c m1 =>
      rw [ht] at h
      have h' := h.h
      dsimp only at h'
      cases c with
      | false =>
        rw [if_neg (by decide)] at h'
        dsimp only
        rw [if_neg (by decide), St_nx]
        exact h'
      | true =>
        rw [if_pos rfl] at h'
        dsimp only
        rw [if_pos rfl]
        have go : ∀ e' m', (∃ k', k' < k ∧ I k' e' m') → St (mWhileN n t f e' m') Q := fun e' m' ⟨k', h1, h2⟩ => by
          cases n with
          | zero => omega
          | succ n => exact St_while I n k' e' m' (by omega) h2 hs
        cases hf : f e m1 with
        | nx e' m' => rw [hf] at h'; exact go e' m' h'.h
        | ct e' m' => rw [hf] at h'; exact go e' m' h'.h
        | bk e' m' => rw [hf] at h'; exact ⟨h'.h⟩
        | ret d m' => rw [hf] at h'; exact ⟨h'.h⟩
        | exc c d e' m' => rw [hf] at h'; exact ⟨h'.h⟩
        | stuck => rw [hf] at h'; exact h'.h.elim
    | exc c d m1 => rw [ht] at h; exact ⟨h.h⟩
    | stuck => rw [ht] at h; exact h.h.elim
theorem St_whileF {t : TF} {f : SF} {n : Nat} (I : Nat → En → Mu → Prop) (k : Nat) (hk : k < n) (hI : I k e m) (hs : ∀ k e m, I k e m → Wp (t e m) (fun c m1 => if c = true then St (f e m1) { nx := fun e' m' => ∃ k', k' < k ∧ I k' e' m', rt := Q.rt, bk := Q.nx, ct := fun e' m' => ∃ k', k' < k ∧ I k' e' m', ex := Q.ex } else Q.nx e m1) (fun c d m => Q.ex c d e m)) :
    St (mWhile n t f e m) Q := by
  obtain ⟨n, rfl⟩ : ∃ j, n = j + 1 := ⟨n - 1, by omega⟩
  exact St_while I n k e m (by omega) hI hs
/-- for -/
theorem St_forL {vw : IVw} {all : List D} {g : GF} {f : SF} (I : Nat → En → Mu → Prop) (hv : ∀ i e m, i ≤ all.length → I i e m → vw m = some all)
    (hs : ∀ i d e m, all[i]? = some d → I i e m → St (g d e m) { nx := fun e1 m1 => St (f e1 m1) { nx := I (i + 1), rt := Q.rt, bk := Q.nx, ct := I (i + 1), ex := Q.ex }, rt := fun _ _ => False, bk := fun _ _ => False, ct := fun _ _ => False, ex := fun _ _ _ _ => False })
    (he : ∀ e m, I all.length e m → Q.nx e m) : ∀ (ds : List D) (i : Nat) (e : En) (m : Mu), all.drop i = ds → i ≤ all.length → I i e m → St (mForL vw all g f ds e m) Q
  | [], i, e, m, hd, hi, hI => by
    unfold mForL
    rw [if_pos (hv i e m hi hI)]
    have : i = all.length := by
      have := congrArg List.length hd
      simp at this; omega
    subst this
    rw [St_nx]
    exact he e m hI
  | d :: ds, i, e, m, hd, hi, hI => by
    unfold mForL
    rw [if_pos (hv i e m hi hI)]
    have hlt : i < all.length := by
      have := congrArg List.length hd
      simp at this; omega
    have hh : all.drop i = all[i] :: all.drop (i + 1) := List.drop_eq_getElem_cons hlt
    rw [hh] at hd
    injection hd with hd1 hd2
    have h := hs i d e m (by rw [List.getElem?_eq_getElem hlt, hd1]) hI
    have ih := St_forL I hv hs he ds (i + 1)
    cases hg : g d e m with
    | nx e1 m1 =>
      rw [hg] at h
      have h' := h.h
      dsimp only at h' ⊢
      cases hf : f e1 m1 with
      | nx e' m' => rw [hf] at h'; exact ih e' m' hd2 hlt h'.h
      | ct e' m' => rw [hf] at h'; exact ih e' m' hd2 hlt h'.h
      | bk e' m' => rw [hf] at h'; exact ⟨h'.h⟩
      | ret d m' => rw [hf] at h'; exact ⟨h'.h⟩
      | exc c d e' m' => rw [hf] at h'; exact ⟨h'.h⟩
      | stuck => rw [hf] at h'; exact h'.h.elim
    | _ => rw [hg] at h; exact h.h.elim
theorem St_for {fi : IF} {g : GF} {f : SF} (I : List D → Nat → En → Mu → Prop)
    (hi : Wp (fi e m) (fun vw m1 => ∃ all, vw m1 = some all ∧ I all 0 e m1 ∧ (∀ i e m, i ≤ all.length → I all i e m → vw m = some all) ∧
      (∀ i d e m, all[i]? = some d → I all i e m → St (g d e m) { nx := fun e1 m1 => St (f e1 m1) { nx := I all (i + 1), rt := Q.rt, bk := Q.nx, ct := I all (i + 1), ex := Q.ex }, rt := fun _ _ => False, bk := fun _ _ => False, ct := fun _ _ => False, ex := fun _ _ _ _ => False }) ∧
      (∀ e m, I all all.length e m → Q.nx e m)) (fun c d m => Q.ex c d e m)) : St (mFor fi g f e m) Q := by
  unfold mFor
  cases h : fi e m with
  | ok vw m1 =>
    rw [h] at hi
    obtain ⟨all, h1, h2, h3, h4, h5⟩ := hi.h
    dsimp only
    rw [h1]
    exact St_forL (I all) h3 h4 h5 all 0 e m1 rfl (Nat.zero_le _) h2
  | exc c d m1 => rw [h] at hi; exact ⟨hi.h⟩
  | stuck => rw [h] at hi; exact hi.h.elim
/-- a comprehension: I by the turn, what is made so far, the store ahead of the new list -/
theorem Wp_lcL {vw : IVw} {all : List D} {g : GF} {ft : TF} {fe : EF} {e0 : En} {i0 : Nat} {P : D → Mu → Prop} (I : Nat → Mu → Prop) (hv : ∀ i m, i ≤ all.length → I i m → vw m = some all)
    (hs : ∀ i d m, all[i]? = some d → I i m → St (g d e0 m) { nx := fun e1 _ => Wp (ft e1 m) (fun b m2 => if b = true then Wp (fe e1 m2) (fun y m3 => ∃ acc, m3[i0]? = some (.lst acc) ∧ acc.length ≤ 1000000 ∧ I (i + 1) (m3.set i0 (.lst (acc ++ [y])))) (fun _ _ _ => False) else I (i + 1) m2) (fun _ _ _ => False), rt := fun _ _ => False, bk := fun _ _ => False, ct := fun _ _ => False, ex := fun _ _ _ _ => False })
    (he : ∀ m, I all.length m → P (.loc i0) m) : ∀ (ds : List D) (i : Nat) (m : Mu), all.drop i = ds → i ≤ all.length → I i m → Wp (mLcL vw all g ft fe e0 i0 ds m) P E
  | [], i, m, hd, hi, hI => by
    unfold mLcL
    rw [if_pos (hv i m hi hI)]
    have : i = all.length := by
      have := congrArg List.length hd
      simp at this; omega
    subst this
    rw [Wp_ok]
    exact he m hI
  | d :: ds, i, m, hd, hi, hI => by
    unfold mLcL
    rw [if_pos (hv i m hi hI)]
    have hlt : i < all.length := by
      have := congrArg List.length hd
      simp at this; omega
    have hh : all.drop i = all[i] :: all.drop (i + 1) := List.drop_eq_getElem_cons hlt
    rw [hh] at hd
    injection hd with hd1 hd2
    have h := hs i d m (by rw [List.getElem?_eq_getElem hlt, hd1]) hI
    have ih := Wp_lcL I hv hs he ds (i + 1)
    cases hg : g d e0 m with
    | nx e1 m1 =>
      rw [hg] at h
      have h' := h.h
      dsimp only at h' ⊢
      cases hf : ft e1 m with
      | ok b m2 =>
        rw [hf] at h'
        have h2 := h'.h
        dsimp only at h2 ⊢
        cases b with
        | false =>
          rw [if_neg (by decide)] at h2 ⊢
          exact ih m2 hd2 hlt h2
        | true =>
          rw [if_pos rfl] at h2 ⊢
          cases hy : fe e1 m2 with
          | ok y m3 =>
            rw [hy] at h2
            obtain ⟨acc, a1, a2, a3⟩ := h2.h
            dsimp only
            rw [a1]
            dsimp only
            rw [if_pos a2]
            exact ih _ hd2 hlt a3
          | exc c d m3 => rw [hy] at h2; exact h2.h.elim
          | stuck => rw [hy] at h2; exact h2.h.elim
      | exc c d m2 => rw [hf] at h'; exact h'.h.elim
      | stuck => rw [hf] at h'; exact h'.h.elim
    | _ => rw [hg] at h; exact h.h.elim
end
end SL
namespace SL
open PySem PySem.Spec PyProof.Rows L2
section
variable {α β : Type} {P P' : α → Mu → Prop} {E E' : XP} {Q Q' : Ps} {e : En} {m : Mu} {a b c : EF} {h : AF} {t u : TF}
/-! ### binds -/
@[simp] theorem bind_ok {x : α} {k : α → Mu → R β} : (R.ok x m).bind k = k x m := rfl
@[simp] theorem bind_exc {n : Nat} {d : D} {k : α → Mu → R β} : (R.exc n d m : R α).bind k = .exc n d m := rfl
@[simp] theorem bind_stuck {k : α → Mu → R β} : (R.stuck : R α).bind k = .stuck := rfl
/-! ### what an expression is -/
@[simp] theorem ev_c {d : D} : mC d e m = .ok d m := rfl
@[simp] theorem ev_bin {g : D → D → Mu → R D} : mBin g a b e m = (a e m).bind fun x m1 => (b e m1).bind fun y m2 => g x y m2 := rfl
@[simp] theorem ev_nil : mNil e m = .ok [] m := rfl
@[simp] theorem ev_cons : mCons a h e m = (a e m).bind fun x m1 => (h e m1).bind fun xs m2 => .ok (x :: xs) m2 := rfl
@[simp] theorem ev_call {d : Fn} : mCall d h e m = (h e m).bind d := rfl
@[simp] theorem ev_tup : mTup h e m = (h e m).bind fun xs m1 => if xs.length ≤ 1000 then .ok (.tup xs) m1 else .stuck := rfl
@[simp] theorem ev_lst {al : Bool} : mLst al h e m = (h e m).bind fun xs m1 => if xs.length ≤ 1000 then mkL al xs m1 else .stuck := rfl
@[simp] theorem mkL_f {xs : List D} : mkL false xs m = .ok (.lst xs) m := rfl
@[simp] theorem mkL_t {xs : List D} : mkL true xs m = .ok (.loc m.length) (m ++ [.lst xs]) := rfl
@[simp] theorem ev_if {f g : EF} : mIfE t f g e m = (t e m).bind fun c m1 => if c = true then f e m1 else g e m1 := rfl
@[simp] theorem ev_neg : mNeg a e m = (a e m).bind fun x m1 => match x with
  | .int i => .ok (.int (-i)) m1
  | _ => .stuck := by unfold mNeg; rfl
@[simp] theorem ev_test : mTest a e m = (a e m).bind fun x m1 => match x with
  | .bl b => .ok b m1
  | _ => .stuck := by unfold mTest; rfl
@[simp] theorem ev_and : mAnd t u e m = (t e m).bind fun c m1 => if c = true then u e m1 else .ok false m1 := rfl
@[simp] theorem ev_or : mOr t u e m = (t e m).bind fun c m1 => if c = true then .ok true m1 else u e m1 := rfl
@[simp] theorem ev_not : mNot t e m = (t e m).bind fun c m1 => .ok (!c) m1 := rfl
@[simp] theorem ev_yes : mYes e m = .ok true m := rfl
@[simp] theorem ev_fld {c : Nat} {f : Str} : mFld c f a e m = (a e m).bind fun d m1 => match insOf m1 d with
  | some (c', fs) => if c' = c then (match fs.lookup f with
    | some x => .ok x m1
    | none => .stuck) else .stuck
  | none => .stuck := by unfold mFld; rfl
@[simp] theorem ev_prop {c : Nat} {d : Fn} : mProp c d a e m = (a e m).bind fun x m1 => match insOf m1 x with
  | some (c', _) => if c' = c then (match d [x] m1 with
    | .ok y m2 => .ok y m2
    | _ => .stuck) else .stuck
  | none => .stuck := by unfold mProp; rfl
@[simp] theorem ev_meth {c : Nat} {mn : Str} {d : Fn} : mMeth c mn d a h e m = (a e m).bind fun x m1 => match insOf m1 x with
  | some (c', fs) => if c' = c ∧ fs.lookup mn = none then (h e m1).bind fun ds m2 => d (x :: ds) m2 else .stuck
  | none => .stuck := by unfold mMeth; rfl
@[simp] theorem ev_methK {c nk n : Nat} {mn : Str} {q : List Nat} {d : Fn} : mMethK c mn q nk n d a h e m = (a e m).bind fun x m1 => match insOf m1 x with
  | some (c', fs) => if c' = c ∧ fs.lookup mn = none then (h e m1).bind fun ds m2 => if ds.length = nk ∧ (pmK q [x] ds).length = n then d (pmK q [x] ds) m2 else .stuck else .stuck
  | none => .stuck := by unfold mMethK; rfl
@[simp] theorem ev_callK {nk n : Nat} {q : List Nat} {d : Fn} : mCallK q nk n d h e m = (h e m).bind fun ds m1 => if ds.length = nk ∧ (pmK q [] ds).length = n then d (pmK q [] ds) m1 else .stuck := rfl
@[simp] theorem ev_slice {al : Bool} {l r : PF} : mSlice al a l r e m = (a e m).bind fun d m1 => match l e m1 with
  | .ok lo m2 => (match r e m2 with
    | .ok hi m3 => sliceD al d lo hi m3
    | _ => .stuck)
  | _ => .stuck := by unfold mSlice; rfl
@[simp] theorem ev_noP : mNoP e m = .ok none m := rfl
theorem part_ok {i : Int} {m1 : Mu} (h : a e m = .ok (.int i) m1) : mPart a e m = .ok (some i) m1 := by unfold mPart; rw [h]
@[simp] theorem ev_part : mPart a e m = match a e m with
  | .ok (.int i) m1 => .ok (some i) m1
  | _ => .stuck := rfl
@[simp] theorem slice_l {al : Bool} {xs : List D} {lo hi : Option Int} : sliceD al (.lst xs) lo hi m = mkL al (cutDs xs lo hi) m := rfl
@[simp] theorem slice_scr {al : Bool} {xs : List Int} {lo hi : Option Int} : sliceD al (.scr xs) lo hi m = mkL al (cutDs (xs.map D.int) lo hi) m := rfl
@[simp] theorem ev_isI {T : String} : mIsI T a e m = (a e m).bind fun d m1 => match (tyOfD m1 d).bind fun a => kitB a T with
  | some b => .ok (.bl b) m1
  | none => .stuck := by unfold mIsI; rfl
@[simp] theorem ev_bm {T : String} {k : Mt} : mBM T k a h e m = (a e m).bind fun d m1 => if tyB T m1 d = true then (h e m1).bind fun ds m2 => k d ds m2 else .stuck := rfl
@[simp] theorem ev_andV : mAndV a b e m = (a e m).bind fun x m1 => match x with
  | .bl c => if c = true then b e m1 else .ok (.bl false) m1
  | _ => .stuck := by unfold mAndV; rfl
@[simp] theorem ev_orV : mOrV a b e m = (a e m).bind fun x m1 => match x with
  | .bl c => if c = true then .ok (.bl true) m1 else b e m1
  | _ => .stuck := by unfold mOrV; rfl
@[simp] theorem ev_notV : mNotV a e m = (a e m).bind fun x m1 => match x with
  | .bl c => .ok (.bl (!c)) m1
  | _ => .stuck := by unfold mNotV; rfl
@[simp] theorem ev_minDef : mMinDef a b e m = (a e m).bind fun d m1 => (b e m1).bind fun z m2 => minDefD d z m2 := rfl
/-! ### operations -/
@[simp] theorem add_ii {al : Bool} {i j : Int} : addD al (.int i) (.int j) m = .ok (.int (i + j)) m := rfl
@[simp] theorem sub_ii {i j : Int} : subD (.int i) (.int j) m = .ok (.int (i - j)) m := rfl
open Classical in
@[simp] theorem mul_ii {al : Bool} {i j : Int} : mulD al (.int i) (.int j) m = if MulOk i j then .ok (.int (i * j)) m else .stuck := rfl
@[simp] theorem mod_ii {i j : Int} : modD (.int i) (.int j) m = if j ≠ 0 then .ok (.int (i.fmod j)) m else .stuck := rfl
open Classical in
@[simp] theorem fdiv_ii {i j : Int} : fdivD (.int i) (.int j) m = if DivOk j then .ok (.int (i.fdiv j)) m else .stuck := rfl
@[simp] theorem pow_ii {i j : Int} : powD (.int i) (.int j) m = if 0 ≤ j ∧ j ≤ 1000000 ∧ i.natAbs < 2 ^ 64 then .ok (.int (i ^ j.toNat)) m else .stuck := rfl
@[simp] theorem lt_ii {i j : Int} : ltD (.int i) (.int j) m = .ok (.bl (decide (i < j))) m := rfl
@[simp] theorem le_ii {i j : Int} : leD (.int i) (.int j) m = .ok (.bl (decide (i ≤ j))) m := rfl
@[simp] theorem gt_ii {i j : Int} : gtD (.int i) (.int j) m = .ok (.bl (decide (j < i))) m := rfl
@[simp] theorem ge_ii {i j : Int} : geD (.int i) (.int j) m = .ok (.bl (decide (j ≤ i))) m := rfl
@[simp] theorem eq_ii {i j : Int} : eqD (.int i) (.int j) m = .ok (.bl (decide (i = j))) m := rfl
@[simp] theorem ne_ii {i j : Int} : neD (.int i) (.int j) m = .ok (.bl (!decide (i = j))) m := rfl
@[simp] theorem eq_ss {i j : Txt} : eqD (.str i) (.str j) m = .ok (.bl (decide (i = j))) m := rfl
@[simp] theorem ne_ss {i j : Txt} : neD (.str i) (.str j) m = .ok (.bl (!decide (i = j))) m := rfl
@[simp] theorem eq_bb {i j : Bool} : eqD (.bl i) (.bl j) m = .ok (.bl (decide (i = j))) m := rfl
@[simp] theorem ne_bb {i j : Bool} : neD (.bl i) (.bl j) m = .ok (.bl (!decide (i = j))) m := rfl
@[simp] theorem is_n {x : D} : isD x .non m = .ok (.bl (isNonB x)) m := rfl
@[simp] theorem isn_n {x : D} : isnD x .non m = .ok (.bl (!isNonB x)) m := rfl
@[simp] theorem isNon_n : isNonB .non = true := rfl
@[simp] theorem isNon_i {i : Int} : isNonB (.int i) = false := rfl
@[simp] theorem isNon_t {i : List D} : isNonB (.tup i) = false := rfl
@[simp] theorem isNon_l {i : List D} : isNonB (.lst i) = false := rfl
@[simp] theorem isNon_s {i : Txt} : isNonB (.str i) = false := rfl
@[simp] theorem isNon_b {i : Bool} : isNonB (.bl i) = false := rfl
@[simp] theorem int_i {i : Int} : intD [.int i] m = .ok (.int i) m := rfl
@[simp] theorem int_b {i : Bool} : intD [.bl i] m = .ok (.int (if i then 1 else 0)) m := rfl
@[simp] theorem listOf_l {xs : List D} : listOf m (.lst xs) = some xs := rfl
@[simp] theorem listOf_scr {ns : List Int} : listOf m (.scr ns) = none := rfl
@[simp] theorem seqOf_l {xs : List D} : seqOf m (.lst xs) = some xs := rfl
@[simp] theorem seqOf_t {xs : List D} : seqOf m (.tup xs) = some xs := rfl
@[simp] theorem seqOf_scr {ns : List Int} : seqOf m (.scr ns) = some (ns.map D.int) := rfl
@[simp] theorem insOf_i {c : Nat} {fs : List (Str × D)} : insOf m (.ins c fs) = some (c, fs) := rfl
theorem listOf_m {i : Nat} {xs : List D} (h : m[i]? = some (.lst xs)) : listOf m (.loc i) = some xs := by
  show (match m[i]? with | some (.lst xs) => some xs | _ => none) = _
  rw [h]
theorem seqOf_m {i : Nat} {xs : List D} (h : m[i]? = some (.lst xs)) : seqOf m (.loc i) = some xs := by
  show (match m[i]? with | some (.lst xs) => some xs | _ => none) = _
  rw [h]
@[simp] theorem len_l {xs : List D} : lenD [.lst xs] m = .ok (.int xs.length) m := rfl
@[simp] theorem len_t {xs : List D} : lenD [.tup xs] m = .ok (.int xs.length) m := rfl
@[simp] theorem len_scr {xs : List Int} : lenD [.scr xs] m = .ok (.int xs.length) m := by unfold lenD one; simp
theorem len_m {i : Nat} {xs : List D} (h : m[i]? = some (.lst xs)) : lenD [.loc i] m = .ok (.int xs.length) m := by
  show (match seqOf m (.loc i) with | some xs => R.ok (D.int (xs.length : Int)) m | none => .stuck) = _
  rw [seqOf_m h]
theorem ix_l {xs : List D} {i : Int} {x : D} (h : atI xs i = some x) : ixD (.lst xs) (.int i) m = .ok x m := by
  show (match atI xs i with | some d => R.ok d m | none => .stuck) = _
  rw [h]
theorem ix_t {xs : List D} {i : Int} {x : D} (h : atI xs i = some x) : ixD (.tup xs) (.int i) m = .ok x m := by
  show (match atI xs i with | some d => R.ok d m | none => .stuck) = _
  rw [h]
theorem ix_m {k : Nat} {xs : List D} {i : Int} {x : D} (hm : m[k]? = some (.lst xs)) (h : atI xs i = some x) : ixD (.loc k) (.int i) m = .ok x m := by
  show (match seqOf m (.loc k), D.int i with
  | some xs, .int j => (match atI xs j with
    | some d => R.ok d m
    | none => .stuck)
  | _, _ => match getDD m (.loc k) (.int i) with
    | some (some d) => .ok d m
    | _ => .stuck) = _
  rw [seqOf_m hm]
  dsimp only
  rw [h]
theorem atI_nat {α : Type} {xs : List α} {i : Nat} {x : α} (h : xs[i]? = some x) : atI xs (i : Int) = some x := by
  have hl := (List.getElem?_eq_some_iff.mp h).1
  unfold atI ixN
  rw [if_pos (by omega), if_pos (by omega)]
  simpa using h
theorem atI_pos {α : Type} {xs : List α} {i : Int} {x : α} (h0 : 0 ≤ i) (h : xs[i.toNat]? = some x) : atI xs i = some x := by
  have := atI_nat h
  rwa [Int.toNat_of_nonneg h0] at this
theorem atI_map {α β : Type} (f : α → β) (xs : List α) (i : Int) : atI (xs.map f) i = (atI xs i).map f := by
  unfold atI
  rw [List.length_map]
  cases ixN xs.length i <;> simp
theorem atI_get {α : Type} (xs : List α) (i : Int) (h0 : 0 ≤ i) (h1 : i < xs.length) : atI xs i = some (xs[i.toNat]'(by omega)) := atI_pos h0 (List.getElem?_eq_getElem _)
@[simp] theorem set_int {xs : List D} {k : Nat} {j : Int} {v : D} (hm : m[k]? = some (.lst xs)) : setD (.loc k) (.int j) v m = (ixN xs.length j).map fun i => m.set k (.lst (xs.set i v)) := by
  unfold setD
  dsimp only
  rw [hm]
  show Option.map _ ((ixN xs.length j).map _) = _
  rw [Option.map_map]; rfl
theorem app_m {k : Nat} {xs : List D} {d : D} (hm : m[k]? = some (.lst xs)) (hl : xs.length ≤ 1000) : appendD (.loc k) [d] m = .ok .non (m.set k (.lst (xs ++ [d]))) := by
  show onList (.loc k) m (fun xs => if xs.length < 1048576 then some (xs ++ [d], .non) else none) = _
  show (match m[k]? with
    | some (.lst xs) => (match (if xs.length < 1048576 then some (xs ++ [d], D.non) else none) with
      | some (ys, r) => R.ok r (m.set k (.lst ys))
      | none => .stuck)
    | _ => .stuck) = _
  rw [hm]
  dsimp only
  rw [if_pos (by omega)]
end
end SL
namespace SL
open PySem PySem.Spec PyProof.Rows L2
abbrev NoX : XP := fun _ _ _ => False
section
variable {α β : Type} {P P' : α → Mu → Prop} {E E' : XP} {Q Q' : Ps} {e : En} {m m2 : Mu} {a b c : EF} {h : AF} {t u : TF}
theorem ok_iff {r : R α} {x : α} : r = .ok x m2 ↔ Wp r (fun a m' => a = x ∧ m' = m2) NoX := by
  cases r with
  | ok a m => rw [Wp_ok]; simp
  | exc _ _ _ => rw [Wp_exc]; simp
  | stuck => rw [Wp_stuck]; simp
@[simp] theorem sWp_ok {a : α} : Wp (.ok a m) P E = P a m := Wp_ok
@[simp] theorem sWp_exc {c : Nat} {d : D} : Wp (.exc c d m : R α) P E = E c d m := Wp_exc
@[simp] theorem sWp_stuck : Wp (.stuck : R α) P E = False := Wp_stuck
@[simp] theorem sWp_bind {r : R α} {k : α → Mu → R β} {P : β → Mu → Prop} : Wp (r.bind k) P E = Wp r (fun a m => Wp (k a m) P E) E := Wp_bind
@[simp] theorem sWp_ite {c : Prop} [Decidable c] {a b : R α} : Wp (if c then a else b) P E = if c then Wp a P E else Wp b P E := Wp_ite
@[simp] theorem sIteF {c : Prop} [Decidable c] {X : Prop} : (if c then X else False) = (c ∧ X) := iteF_and
@[simp] theorem sSt_ite {c : Prop} [Decidable c] {a b : RS} : St (if c then a else b) Q = if c then St a Q else St b Q := St_ite
@[simp] theorem sSt_nx : St (.nx e m) Q = Q.nx e m := St_nx
@[simp] theorem sSt_ret {d : D} : St (.ret d m) Q = Q.rt d m := St_ret
@[simp] theorem sSt_bk : St (.bk e m) Q = Q.bk e m := St_bk
@[simp] theorem sSt_ct : St (.ct e m) Q = Q.ct e m := St_ct
@[simp] theorem sSt_exc {c : Nat} {d : D} : St (.exc c d e m) Q = Q.ex c d e m := St_exc
@[simp] theorem sSt_stuck : St .stuck Q = False := St_stuck
@[simp] theorem sSt_seq {f g : SF} : St (mSeq f g e m) Q = St (f e m) { nx := fun e m => St (g e m) Q, rt := Q.rt, bk := Q.bk, ct := Q.ct, ex := Q.ex } := St_seq
@[simp] theorem sSt_if {f g : SF} : St (mIf t f g e m) Q = Wp (t e m) (fun c m1 => if c = true then St (f e m1) Q else St (g e m1) Q) (fun c d m => Q.ex c d e m) := St_if
@[simp] theorem sSt_asg {f : EF} {g : GF} : St (mAsg f g e m) Q = Wp (f e m) (fun d m1 => St (g d e m1) { nx := Q.nx, rt := fun _ _ => False, bk := fun _ _ => False, ct := fun _ _ => False, ex := fun _ _ _ _ => False }) (fun c d m => Q.ex c d e m) := St_asg
@[simp] theorem sSt_gname {i : Nat} {d : D} : St (mGName i d e m) Q = (i < e.length ∧ Q.nx (e.set i (some d)) m) := St_gname
@[simp] theorem sSt_ret' {f : EF} : St (mRet f e m) Q = Wp (f e m) Q.rt (fun c d m => Q.ex c d e m) := St_ret'
@[simp] theorem sSt_drop {f : EF} : St (mDrop f e m) Q = Wp (f e m) (fun _ m1 => Q.nx e m1) (fun c d m => Q.ex c d e m) := St_drop
@[simp] theorem sSt_next : St (mNext e m) Q = Q.nx e m := St_nx
@[simp] theorem sSt_brk : St (mBrk e m) Q = Q.bk e m := St_bk
@[simp] theorem sSt_cnt : St (mCnt e m) Q = Q.ct e m := St_ct
@[simp] theorem sSt_retN : St (mRetN e m) Q = Q.rt .non m := St_ret
@[simp] theorem sSt_out : St (mOut e m) Q = False := St_stuck
@[simp] theorem sSt_gs0 : St (mGs [] [] e m) Q = Q.nx e m := St_nx
@[simp] theorem sSt_gs {g : GF} {gs : List GF} {d : D} {ds : List D} : St (mGs (g :: gs) (d :: ds) e m) Q = St (g d e m) { nx := fun e m => St (mGs gs ds e m) Q, rt := fun _ _ => False, bk := fun _ _ => False, ct := fun _ _ => False, ex := fun _ _ _ _ => False } := by
  show St (match g d e m with | .nx e' m' => mGs gs ds e' m' | _ => .stuck) Q = _
  cases g d e m with
  | nx e m => dsimp only; rw [St_nx]
  | ret d m => dsimp only; rw [St_ret, St_stuck]
  | bk d m => dsimp only; rw [St_bk, St_stuck]
  | ct d m => dsimp only; rw [St_ct, St_stuck]
  | exc c d e m => dsimp only; rw [St_exc, St_stuck]
  | stuck => dsimp only; rw [St_stuck, St_stuck]
@[simp] theorem sSt_gtup {gs : List GF} {ds : List D} : St (mGTup gs (.tup ds) e m) Q = St (mGs gs ds e m) Q := rfl
@[simp] theorem sSt_gsub {fo fi : EF} {v : D} : St (mGSub fo fi v e m) Q = Wp (fo e m) (fun o m1 => Wp (fi e m1) (fun i m2 => match setD o i v m2 with
  | some m3 => Q.nx e m3
  | none => False) NoX) NoX := by
  unfold mGSub
  cases fo e m with
  | ok o m1 =>
    dsimp only
    rw [Wp_ok]
    cases fi e m1 with
    | ok i m2 =>
      dsimp only
      rw [Wp_ok]
      cases setD o i v m2 with
      | none => dsimp only; rw [St_stuck]
      | some m3 => dsimp only; rw [St_nx]
    | exc _ _ _ => dsimp only; rw [Wp_exc, St_stuck]
    | stuck => dsimp only; rw [Wp_stuck, St_stuck]
  | exc _ _ _ => dsimp only; rw [Wp_exc, St_stuck]
  | stuck => dsimp only; rw [Wp_stuck, St_stuck]
@[simp] theorem sSt_aug {i : Nat} {g : D → D → Mu → R D} {f : EF} : St (mAug i g f e m) Q = match e[i]? with
  | some (some x) => Wp (f e m) (fun y m1 => Wp (g x y m1) (fun z m2 => Q.nx (e.set i (some z)) m2) (fun _ _ _ => False)) (fun c d m => Q.ex c d e m)
  | _ => False := by
  split
  · rename_i x h; exact St_aug h
  · rename_i h
    unfold mAug
    split
    · rename_i x h'; exact absurd h' (h x)
    · rw [St_stuck]
@[simp] theorem sSt_par {i j : Nat} : St (mPar i j h e m) Q = Wp (h e m) (fun ds m1 => match ds with
  | [x, y] => i < e.length ∧ j < e.length ∧ Q.nx ((e.set i (some x)).set j (some y)) m1
  | _ => False) (fun c d m => Q.ex c d e m) := by
  unfold mPar
  cases h e m with
  | ok ds m1 =>
    rw [Wp_ok]
    match ds with
    | [] => exact St_stuck
    | [_] => exact St_stuck
    | [x, y] =>
      dsimp only
      rw [St_ite, St_nx, St_stuck, iteF_and, and_assoc]
    | _ :: _ :: _ :: _ => exact St_stuck
  | exc _ _ _ => dsimp only; rw [Wp_exc, St_exc]
  | stuck => dsimp only; rw [Wp_stuck, St_stuck]
@[simp] theorem sSt_setF {c : Nat} {f : Str} : St (mSetF c f a b e m) Q = Wp (b e m) (fun v m1 => Wp (a e m1) (fun o m2 => match o with
  | .loc i => (match m2[i]? with
    | some (.ins c' fs) => c' = c ∧ fs.length < 900 ∧ Q.nx e (m2.set i (.ins c (putD f v fs)))
    | _ => False)
  | _ => False) NoX) (fun c d m => Q.ex c d e m) := by
  unfold mSetF
  rw [Wp_toS]
  congr 1
  funext v m1
  cases a e m1 with
  | ok o m2 =>
    rw [Wp_ok]
    cases o with
    | loc i =>
      dsimp only
      cases m2[i]? with
      | none => exact St_stuck
      | some u => cases u with
        | ins c' fs => dsimp only; rw [St_ite, St_nx, St_stuck, iteF_and, and_assoc]
        | _ => exact St_stuck
    | _ => exact St_stuck
  | exc _ _ _ => dsimp only; rw [Wp_exc, St_stuck]
  | stuck => dsimp only; rw [Wp_stuck, St_stuck]
@[simp] theorem ev_var {i : Nat} : mVar i e m = match e[i]? with
  | some (some d) => .ok d m
  | _ => .stuck := rfl
@[simp] theorem ev_make {c : Nat} {d : Fn} : mMake c d h e m = (h e m).bind fun ds m1 => match d (.loc m1.length :: ds) (m1 ++ [.ins c []]) with
  | .ok .non m2 => .ok (.loc m1.length) m2
  | .ok _ _ => .stuck
  | .exc c' x m2 => .exc c' x m2
  | .stuck => .stuck := by unfold mMake; rfl
theorem fun_wp {n : Nat} {f : SF} {ds : List D} {P : D → Mu → Prop} (hh : St (f (ds.map some ++ List.replicate (n - ds.length) none) m) { nx := fun _ m => P .non m, rt := P, bk := fun _ _ => False, ct := fun _ _ => False, ex := fun c d _ m => E c d m }) : Wp (mFun n f ds m) P E := by rw [Wp_fun]; exact hh
@[simp] theorem pmK_nil {α : Type} {us ws : List α} : pmK [] us ws = us := by simp [pmK]
end
end SL
namespace SL
open PySem PySem.Spec PyProof.Rows L2
section
variable {P P' : D → Mu → Prop} {E E' : XP} {Q Q' : Ps} {e : En} {m m2 : Mu} {a b c : EF} {h : AF} {t u : TF}
/-! ### freezing -/
theorem LocBs.all {n : Nat} {ds : List D} (h : ∀ d ∈ ds, LocB n d) : LocBs n ds := LocBs.of h
theorem frz_of {n : Nat} {d : D} (h : LocB n d) : ∀ k, frz m n k d = some d
  | 0 => by unfold frz; rw [if_pos h]
  | k + 1 => by unfold frz; rw [if_pos h]
theorem optL_id {f : D → Option D} : ∀ {ds : List D}, (∀ d ∈ ds, f d = some d) → optL f ds = some ds
  | [], _ => rfl
  | d :: ds, h => by
    unfold optL
    rw [h d (List.mem_cons_self ..), optL_id fun x hx => h x (List.mem_cons_of_mem _ hx)]
theorem frz_loc {n i k : Nat} {ds : List D} (hi : n ≤ i) (hm : m[i]? = some (.lst ds)) (h : ∀ d ∈ ds, LocB n d) : frz m n (k + 1) (.loc i) = some (.lst ds) := by
  unfold frz
  rw [if_neg (show ¬ LocB n (.loc i) from fun z => by have z' : i < n := z; omega)]
  show (match m[i]? with | some (.lst ds) => (optL (frz m n k) ds).map D.lst | some (.dct ds) => (optV (frz m n k) ds).map D.dct | some (.dck ds) => (optV (frz m n k) ds).map D.dck | some (.ins c ds) => (optV (frz m n k) ds).map (D.ins c) | none => none) = _
  rw [hm]
  dsimp only
  rw [optL_id fun d hd => frz_of (h d hd) k]
  rfl
theorem noEsc_refl : NoEsc m m := ⟨Nat.le_refl _, fun i o _ h => .inl h⟩
theorem noEsc_app {xs : Mu} : NoEsc m (m ++ xs) := ⟨by simp, fun i o hi h => .inl (by rwa [List.getElem?_append_left hi] at h)⟩
theorem cutR_ok {d d' : D} (h1 : NoEsc m m2) (h2 : frz m2 m.length 8 d = some d') : cutR m (.ok d m2) = .ok d' (m2.take m.length) := by
  unfold cutR; dsimp only; rw [if_pos h1, h2]
theorem Wp_cut {r : R D} (h : Wp r (fun d m2 => NoEsc m m2 ∧ ∃ d', frz m2 m.length 8 d = some d' ∧ P d' (m2.take m.length)) (fun c d m2 => NoEsc m m2 ∧ ∃ d', frz m2 m.length 8 d = some d' ∧ E c d' (m2.take m.length))) : Wp (cutR m r) P E := by
  cases r with
  | ok d m2 =>
    obtain ⟨h1, d', h2, h3⟩ := h.h
    rw [cutR_ok h1 h2]; exact ⟨h3⟩
  | exc c d m2 =>
    obtain ⟨h1, d', h2, h3⟩ := h.h
    unfold cutR
    dsimp only
    rw [if_pos h1, h2]; exact ⟨h3⟩
  | stuck => exact h.h.elim
theorem Wp_frzFn {d : Fn} {ds : List D} (h : Wp (d ds m) (fun d m2 => NoEsc m m2 ∧ ∃ d', frz m2 m.length 8 d = some d' ∧ P d' (m2.take m.length)) (fun c d m2 => NoEsc m m2 ∧ ∃ d', frz m2 m.length 8 d = some d' ∧ E c d' (m2.take m.length))) : Wp (frzFn d ds m) P E := Wp_cut h
/-- a comprehension whose list is kept frozen -/
theorem Wp_lcF {fi : IF} {ct : CT} {ft : TF} {fe : EF} {vs : List Nat} {vw : IVw} {all : List D} {m1 : Mu} (hf : fi e m = .ok vw m1) (hn : m1.length = m.length) (J : Nat → List D → Mu → Prop) (h0 : J 0 [] m1)
    (hv : ∀ i acc mb, i ≤ all.length → J i acc mb → mb.length = m.length ∧ ∀ x, vw (mb ++ x) = some all) (hv0 : vw m1 = some all)
    (hs : ∀ i d acc mb, all[i]? = some d → J i acc mb → mb.length = m.length → acc.length ≤ 1000000 ∧ St (ct.g d (wip e vs) (mb ++ [.lst acc])) { nx := fun e1 _ => Wp (ft e1 (mb ++ [.lst acc])) (fun b m2 => if b = true then Wp (fe e1 m2) (fun y m3 => ∃ mb3, m3 = mb3 ++ [.lst acc] ∧ J (i + 1) (acc ++ [y]) mb3) NoX else ∃ mb2, m2 = mb2 ++ [.lst acc] ∧ J (i + 1) acc mb2) NoX, rt := fun _ _ => False, bk := fun _ _ => False, ct := fun _ _ => False, ex := fun _ _ _ _ => False })
    (he : ∀ acc mb, J all.length acc mb → NoEsc m mb ∧ (∀ y ∈ acc, LocB m.length y) ∧ P (.lst acc) mb) : Wp (mFrz (mLc fi ct ft fe vs) e m) P E := by
  refine Wp_cut ?_
  unfold mLc
  rw [hf]
  dsimp only
  rw [hv0]
  dsimp only
  refine Wp_lcL (fun i mm => ∃ acc mb, mm = mb ++ [.lst acc] ∧ J i acc mb ∧ mb.length = m.length) (fun i mm hi ⟨acc, mb, h1, h2, h3⟩ => by rw [h1]; exact (hv i acc mb hi h2).2 _) (fun i d mm hd ⟨acc, mb, h1, h2, h3⟩ => ?_) (fun mm ⟨acc, mb, h1, h2, h3⟩ => ?_) all 0 _ rfl (Nat.zero_le _) ⟨[], m1, rfl, h0, hn⟩
  · subst h1
    obtain ⟨hl, hs⟩ := hs i d acc mb hd h2 h3
    refine St_imp hs (fun e1 mm h => ?_) (fun _ _ h => h) (fun _ _ h => h) (fun _ _ h => h) (fun _ _ _ _ h => h)
    refine Wp_mono h fun b m2 h => ?_
    cases b with
    | false =>
      rw [if_neg (by decide)] at h ⊢
      obtain ⟨mb2, g1, g2⟩ := h
      have hi : i < all.length := (List.getElem?_eq_some_iff.mp hd).1
      exact ⟨acc, mb2, g1, g2, (hv _ _ _ hi g2).1⟩
    | true =>
      rw [if_pos rfl] at h ⊢
      refine Wp_mono h fun y m3 ⟨mb3, g1, g2⟩ => ?_
      have hi : i < all.length := (List.getElem?_eq_some_iff.mp hd).1
      have hl3 := (hv _ _ _ hi g2).1
      refine ⟨acc, ?_, hl, acc ++ [y], mb3, ?_, g2, hl3⟩
      · rw [g1, hn, ← hl3, List.getElem?_append_right (Nat.le_refl _), Nat.sub_self]; rfl
      · rw [g1, hn, ← hl3, List.set_append_right _ _ (Nat.le_refl _), Nat.sub_self]; rfl
  · obtain ⟨g1, g2, g3⟩ := he acc mb h2
    subst h1
    refine ⟨⟨by simp [h3], fun i o hi ho => ?_⟩, .lst acc, ?_, ?_⟩
    · rw [List.getElem?_append_left (by omega)] at ho
      exact g1.2 i o hi ho
    · rw [hn]
      exact frz_loc (Nat.le_refl _) (by rw [← h3, List.getElem?_append_right (Nat.le_refl _), Nat.sub_self]; rfl) g2
    · rw [← h3]; simpa using g3
/-- .. without a test, the elements in the plain -/
theorem lcF_pure {fi : IF} {ct : CT} {fe : EF} {vs : List Nat} {vw : IVw} {all : List D} (f : D → D) (hf : fi e m = .ok vw m) (hv : ∀ x, vw (m ++ x) = some all) (hl : all.length ≤ 1000000)
    (hs : ∀ d acc, d ∈ all → ∃ e1, ct.g d (wip e vs) (m ++ [.lst acc]) = .nx e1 (m ++ [.lst acc]) ∧ fe e1 (m ++ [.lst acc]) = .ok (f d) (m ++ [.lst acc])) (hb : ∀ d ∈ all, LocB m.length (f d)) :
    mFrz (mLc fi ct mYes fe vs) e m = .ok (.lst (all.map f)) m := by
  rw [ok_iff]
  have hv0 : vw m = some all := by simpa using hv []
  refine Wp_lcF hf rfl (fun i acc mb => acc = (all.take i).map f ∧ mb = m) ⟨by simp, rfl⟩ (fun i acc mb hi ⟨h1, h2⟩ => ⟨by rw [h2], fun x => by rw [h2]; exact hv x⟩) hv0 (fun i d acc mb hd ⟨h1, h2⟩ _ => ?_) (fun acc mb ⟨h1, h2⟩ => ?_)
  · subst h2
    have hi : i < all.length := (List.getElem?_eq_some_iff.mp hd).1
    obtain ⟨e1, g1, g2⟩ := hs d acc (List.mem_of_getElem? hd)
    refine ⟨by rw [h1, List.length_map, List.length_take]; omega, ?_⟩
    rw [g1, sSt_nx]
    dsimp only
    rw [ev_yes, sWp_ok, if_pos rfl, g2, sWp_ok]
    refine ⟨mb, rfl, ?_, rfl⟩
    rw [h1, List.take_succ, hd]; simp
  · subst h2
    refine ⟨noEsc_refl, fun y hy => ?_, ?_, rfl⟩
    · rw [h1, List.take_length] at hy
      obtain ⟨d, hd, rfl⟩ := List.mem_map.mp hy
      exact hb d hd
    · rw [h1, List.take_length]
/-! ### data that is equal -/
theorem optL_some {α β : Type} {f : α → Option β} {g : α → β} : ∀ {xs : List α}, (∀ x ∈ xs, f x = some (g x)) → optL f xs = some (xs.map g)
  | [], _ => rfl
  | x :: xs, h => by
    unfold optL
    rw [h x (List.mem_cons_self ..), optL_some fun y hy => h y (List.mem_cons_of_mem _ hy)]
    rfl
theorem toPy_ints (k : Nat) (ns : List Int) : toPy m (k + 2) (.lst (ns.map D.int)) = some (.list (ns.map .int)) := by
  show (optL (toPy m (k + 1)) (ns.map D.int)).map PyData.list = _
  rw [optL_some (g := fun d => match d with | .int i => .int i | _ => .none)]
  · rw [Option.map_some, List.map_map]; rfl
  · intro x hx
    obtain ⟨i, _, rfl⟩ := List.mem_map.mp hx
    rfl
theorem eqv_ints : ∀ ns ms : List Int, PyData.eqvAll (ns.map .int) (ms.map .int) = decide (ns = ms)
  | [], [] => by simp [PyData.eqvAll]
  | [], _ :: _ => by simp [PyData.eqvAll]
  | _ :: _, [] => by simp [PyData.eqvAll]
  | n :: ns, k :: ms => by
    simp only [List.map_cons, PyData.eqvAll, PyData.eqv, eqv_ints ns ms, List.cons.injEq]
    by_cases h : n = k <;> simp [h]
theorem shaped_ints (ns : List Int) : SeqAt.shaped (.list (ns.map .int)) = true := by
  have h1 : ∀ ns : List Int, PyData.canLayAll0 (ns.map .int) = true := fun ns => by
    induction ns with
    | nil => simp [PyData.canLayAll0]
    | cons n ns ih => simp [PyData.canLayAll0, PyData.canLay0, ih]
  have h2 : ∀ ns : List Int, PyData.depthAll (ns.map .int) = 0 := fun ns => by
    induction ns with
    | nil => simp [PyData.depthAll]
    | cons n ns ih => simp [PyData.depthAll, PyData.depth, ih]
  unfold SeqAt.shaped
  simp [PyData.canLay0, PyData.depth, h1, h2]
theorem eqB_ints (ns ms : List Int) : eqB (.lst (ns.map D.int)) (.lst (ms.map D.int)) m = some (decide (ns = ms)) := by
  show (match toPy m 8 (.lst (ns.map D.int)), toPy m 8 (.lst (ms.map D.int)) with
    | some a, some b => if SeqAt.shaped a = true ∧ SeqAt.shaped b = true then some (PyData.eqv a b) else none
    | _, _ => none) = _
  rw [toPy_ints, toPy_ints]
  dsimp only
  rw [if_pos ⟨shaped_ints ns, shaped_ints ms⟩]
  simp only [PyData.eqv, eqv_ints]
theorem eq_ints (ns ms : List Int) : eqD (.lst (ns.map D.int)) (.lst (ms.map D.int)) m = .ok (.bl (decide (ns = ms))) m := by unfold eqD; rw [eqB_ints]; rfl
theorem ne_ints (ns ms : List Int) : neD (.lst (ns.map D.int)) (.lst (ms.map D.int)) m = .ok (.bl (!decide (ns = ms))) m := by unfold neD; rw [eqB_ints]; rfl
theorem shaped_int (i : Int) : SeqAt.shaped (.int i) = true := by unfold SeqAt.shaped; simp [PyData.canLay0, PyData.depth]
theorem any_eqv (i : Int) (ns : List Int) : ((ns.map PyData.int).any fun z => PyData.eqv z (.int i)) = decide (i ∈ ns) := by
  induction ns with
  | nil => simp
  | cons n ns ih =>
    rw [List.map_cons, List.any_cons, ih]
    simp only [PyData.eqv, List.mem_cons]
    by_cases h : i = n
    · subst h; simp
    · have h' : (n == i) = false := by simpa using fun z => h z.symm
      simp [h, h']
theorem inB_ints (i : Int) (ns : List Int) : inB (.int i) (.lst (ns.map D.int)) m = some (decide (i ∈ ns)) := by
  show (match toPy m 8 (.int i), toPy m 8 (.lst (ns.map D.int)) with
      | some a, some (.list bs) => if SeqAt.shaped a = true ∧ SeqAt.shaped (.list bs) = true then some (bs.any fun z => PyData.eqv z a) else none
      | _, _ => none) = _
  rw [toPy_ints]
  show (if SeqAt.shaped (.int i) = true ∧ SeqAt.shaped (.list (ns.map .int)) = true then some ((ns.map PyData.int).any fun z => PyData.eqv z (.int i)) else none) = _
  rw [if_pos ⟨shaped_int i, shaped_ints ns⟩, any_eqv]
theorem in_ints (i : Int) (ns : List Int) : inD (.int i) (.lst (ns.map D.int)) m = .ok (.bl (decide (i ∈ ns))) m := by unfold inD; rw [inB_ints]; rfl
theorem find_eqv (i : Int) (ns : List Int) : (ns.map PyData.int).findIdx (fun z => PyData.eqv z (.int i)) = ns.findIdx (· = i) := by
  induction ns with
  | nil => rfl
  | cons n ns ih =>
    rw [List.map_cons, List.findIdx_cons, List.findIdx_cons, ih]
    simp only [PyData.eqv]
    by_cases h : n = i
    · subst h; simp
    · have h' : (n == i) = false := by simpa using h
      simp [h, h']
theorem index_ints {i : Int} {ns : List Int} (h : i ∈ ns) : indexD (.lst (ns.map D.int)) [.int i] m = .ok (.int ((ns.findIdx (· = i) : Nat) : Int)) m := by
  show (match toPy m 8 (.int i), toPy m 8 (.lst (ns.map D.int)) with
    | some a, some (.list bs) => if SeqAt.shaped a = true ∧ SeqAt.shaped (.list bs) = true ∧ (bs.any fun z => PyData.eqv z a) = true then R.ok (D.int ((bs.findIdx fun z => PyData.eqv z a : Nat) : Int)) m else .stuck
    | _, _ => .stuck) = _
  rw [toPy_ints]
  show (if SeqAt.shaped (.int i) = true ∧ SeqAt.shaped (.list (ns.map .int)) = true ∧ ((ns.map PyData.int).any fun z => PyData.eqv z (.int i)) = true then R.ok (D.int (((ns.map PyData.int).findIdx fun z => PyData.eqv z (.int i) : Nat) : Int)) m else .stuck) = _
  rw [if_pos ⟨shaped_int i, shaped_ints ns, by rw [any_eqv]; simpa using h⟩, find_eqv]
@[simp] theorem tyB_l {xs : List D} : tyB "list" m (.lst xs) = true := rfl
theorem tyB_m {k : Nat} {xs : List D} (h : m[k]? = some (.lst xs)) : tyB "list" m (.loc k) = true := by
  show ("list" == "list" && (listOf m (.loc k)).isSome) = true
  rw [listOf_m h]
  rfl
theorem ixN_nat {n i : Nat} (h : i < n) : ixN n (i : Int) = some i := by
  unfold ixN
  rw [if_pos (by omega), if_pos (by omega)]
  simp
/-! ### the loops one meets -/
theorem rng_at {lo : Int} {n i : Nat} (h : i < n) : (rng lo n)[i]? = some (.int (lo + (i : Int))) := by
  unfold rng; rw [List.getElem?_map, List.getElem?_range h]; rfl
abbrev gN (Q : Ps) (f : SF) (nx : En → Mu → Prop) : Ps := { nx := fun e1 m1 => St (f e1 m1) { nx := nx, rt := Q.rt, bk := Q.nx, ct := nx, ex := Q.ex }, rt := fun _ _ => False, bk := fun _ _ => False, ct := fun _ _ => False, ex := fun _ _ _ _ => False }
theorem St_forR1 {h : AF} {g : GF} {f : SF} {j : Int} {m1 : Mu} (hh : h e m = .ok [.int j] m1) (hj : smallI j) (I : Nat → En → Mu → Prop) (h0 : I 0 e m1)
    (hs : ∀ (i : Nat) (e : En) (m : Mu), (i : Int) < j → I i e m → St (g (.int i) e m) (gN Q f (I (i + 1)))) (he : ∀ e m, I j.toNat e m → Q.nx e m) : St (mFor (mRange1 h) g f e m) Q := by
  refine St_for (fun _ => I) ?_
  unfold mRange1
  rw [hh, bind_ok]
  dsimp only
  rw [if_pos hj, sWp_ok]
  refine ⟨_, rfl, h0, fun _ _ _ _ _ => rfl, fun i d e m hd hI => ?_, fun e m hI => ?_⟩
  · obtain ⟨h1, h2⟩ := rng_get hd
    subst h2
    rw [Int.zero_add]
    exact hs i e m (by omega) hI
  · rw [rng_len] at hI
    exact he e m hI
theorem St_forR2 {h : AF} {g : GF} {f : SF} {lo j : Int} {m1 : Mu} (hh : h e m = .ok [.int lo, .int j] m1) (hl : smallI lo) (hj : smallI j) (I : Nat → En → Mu → Prop) (h0 : I 0 e m1)
    (hs : ∀ (i : Nat) (e : En) (m : Mu), lo + (i : Int) < j → I i e m → St (g (.int (lo + (i : Int))) e m) (gN Q f (I (i + 1)))) (he : ∀ e m, I (j - lo).toNat e m → Q.nx e m) : St (mFor (mRange2 h) g f e m) Q := by
  refine St_for (fun _ => I) ?_
  unfold mRange2
  rw [hh, bind_ok]
  dsimp only
  rw [if_pos ⟨hl, hj⟩, sWp_ok]
  refine ⟨_, rfl, h0, fun _ _ _ _ _ => rfl, fun i d e m hd hI => ?_, fun e m hI => ?_⟩
  · obtain ⟨h1, h2⟩ := rng_get hd
    subst h2
    exact hs i e m (by omega) hI
  · rw [rng_len] at hI
    exact he e m hI
/-- a frozen sequence -/
theorem St_forS {fe : EF} {g : GF} {f : SF} {d : D} {m1 : Mu} {all : List D} (hh : fe e m = .ok d m1) (hd : ∀ m, seqOf m d = some all) (I : Nat → En → Mu → Prop) (h0 : I 0 e m1)
    (hs : ∀ i x e m, all[i]? = some x → I i e m → St (g x e m) (gN Q f (I (i + 1)))) (he : ∀ e m, I all.length e m → Q.nx e m) : St (mFor (mSeqI fe) g f e m) Q := by
  refine St_for (fun _ => I) ?_
  unfold mSeqI
  rw [hh, bind_ok, hd m1]
  dsimp only
  rw [sWp_ok]
  refine ⟨all, hd m1, h0, fun _ _ _ _ _ => hd _, fun i d e m hd hI => hs i d e m hd hI, fun e m hI => he e m hI⟩
theorem enumD_at {k : Nat} {ds : List D} {i : Nat} {d : D} (h : ds[i]? = some d) : (enumD k ds)[i]? = some (.tup [.int ((k + i : Nat) : Int), d]) := by
  induction ds generalizing k i with
  | nil => simp at h
  | cons x xs ih =>
    cases i with
    | zero => simp at h; subst h; rfl
    | succ i =>
      show (enumD (k + 1) xs)[i]? = _
      rw [ih (k := k + 1) (i := i) (by simpa using h)]
      congr 4; omega
theorem St_forE {h : AF} {g : GF} {f : SF} {d : D} {m1 : Mu} {all : List D} (hh : h e m = .ok [d] m1) (hd : ∀ m, listOf m d = some all) (I : Nat → En → Mu → Prop) (h0 : I 0 e m1)
    (hs : ∀ i x e m, all[i]? = some x → I i e m → St (g (.tup [.int (i : Int), x]) e m) (gN Q f (I (i + 1)))) (he : ∀ e m, I all.length e m → Q.nx e m) : St (mFor (mEnum h) g f e m) Q := by
  refine St_for (fun _ => I) ?_
  unfold mEnum
  rw [hh, bind_ok]
  dsimp only
  rw [hd m1]
  dsimp only
  rw [sWp_ok]
  refine ⟨enumD 0 all, by dsimp only; rw [hd m1]; rfl, h0, fun _ _ _ _ _ => by dsimp only; rw [hd]; rfl, fun i x e m hx hI => ?_, fun e m hI => ?_⟩
  · obtain ⟨y, h1, h2⟩ := enumD_get 0 all i x hx
    subst h2
    rw [Nat.zero_add]
    exact hs i y e m h1 hI
  · rw [enumD_len] at hI
    exact he e m hI
theorem wip_len (e : En) : ∀ vs : List Nat, (wip e vs).length = e.length
  | [] => rfl
  | v :: vs => by unfold wip; rw [List.length_set, wip_len e vs]
/-- [.. for k in range(..)] -/
theorem lcR_pure {h : AF} {fe : EF} {vs : List Nat} {i : Nat} {j : Int} (f : Nat → D) (hh : h e m = .ok [.int j] m) (hj0 : 0 ≤ j) (hj : j ≤ 1000000) (hi : i < e.length)
    (hs : ∀ (k : Nat) (acc : List D), (k : Int) < j → fe ((wip e vs).set i (some (.int k))) (m ++ [.lst acc]) = .ok (f k) (m ++ [.lst acc])) (hb : ∀ k : Nat, (k : Int) < j → LocB m.length (f k)) :
    mFrz (mLc (mRange1 h) (.one i) mYes fe vs) e m = .ok (.lst ((List.range j.toNat).map f)) m := by
  have hf : mRange1 h e m = .ok (fun _ => some (rng 0 j.toNat)) m := by
    unfold mRange1
    rw [hh, bind_ok]
    dsimp only
    rw [if_pos (show smallI j by unfold smallI; omega)]
  have := lcF_pure (e := e) (m := m) (ct := .one i) (fe := fe) (vs := vs) (fun d => match d with | .int k => f k.toNat | _ => .non) hf (fun _ => rfl) (by rw [rng_len]; omega) (fun d acc hd => ?_) (fun d hd => ?_)
  · rw [this]
    congr 2
    unfold rng
    rw [List.map_map]
    apply List.map_congr_left
    intro k _
    simp
  · unfold rng at hd
    obtain ⟨k, hk, rfl⟩ := List.mem_map.mp hd
    have hk' := List.mem_range.mp hk
    rw [Int.zero_add]
    refine ⟨(wip e vs).set i (some (.int k)), ?_, hs k acc (by omega)⟩
    show (if i < (wip e vs).length then RS.nx ((wip e vs).set i (some (.int k))) _ else .stuck) = _
    rw [if_pos (by rw [wip_len]; exact hi)]
  · unfold rng at hd
    obtain ⟨k, hk, rfl⟩ := List.mem_map.mp hd
    have hk' := List.mem_range.mp hk
    simpa using hb k (by omega)
/-- [.. for x in xs] -/
theorem lcS_pure {fx : EF} {fe : EF} {vs : List Nat} {i : Nat} {d : D} {all : List D} (f : D → D) (hh : fx e m = .ok d m) (hd : ∀ m, seqOf m d = some all) (hl : all.length ≤ 1000000) (hi : i < e.length)
    (hs : ∀ (x : D) (acc : List D), x ∈ all → fe ((wip e vs).set i (some x)) (m ++ [.lst acc]) = .ok (f x) (m ++ [.lst acc])) (hb : ∀ x, x ∈ all → LocB m.length (f x)) :
    mFrz (mLc (mSeqI fx) (.one i) mYes fe vs) e m = .ok (.lst (all.map f)) m := by
  have hf : mSeqI fx e m = .ok (fun m => seqOf m d) m := by
    unfold mSeqI
    rw [hh, bind_ok, hd m]
  refine lcF_pure (e := e) (m := m) (ct := .one i) (fe := fe) (vs := vs) f hf (fun _ => hd _) hl (fun x acc hx => ?_) hb
  refine ⟨(wip e vs).set i (some x), ?_, hs x acc hx⟩
  show (if i < (wip e vs).length then RS.nx ((wip e vs).set i (some x)) _ else .stuck) = _
  rw [if_pos (by rw [wip_len]; exact hi)]
open Classical in
theorem mul_l {al : Bool} {xs : List D} {j : Int} (h0 : -(2 ^ 63) ≤ j ∧ j < 2 ^ 63) (h : xs.length * j.toNat ≤ 1048576) : mulD al (.lst xs) (.int j) m = mkL al (List.replicate j.toNat xs).flatten m := by
  show (match listOf m (.lst xs) with
    | some xs => if -(2 ^ 63) ≤ j ∧ j < 2 ^ 63 ∧ xs.length * j.toNat ≤ 1048576 then mkL al (List.replicate j.toNat xs).flatten m else .stuck
    | none => .stuck) = _
  rw [listOf_l]
  dsimp only
  rw [if_pos ⟨h0.1, h0.2, h⟩]
theorem add_l {al : Bool} {xs ys : List D} (h : xs.length + ys.length ≤ 1048576) : addD al (.lst xs) (.lst ys) m = mkL al (xs ++ ys) m := by
  show (if xs.length + ys.length ≤ 1048576 then mkL al (xs ++ ys) m else .stuck) = _
  rw [if_pos h]
theorem flat_one {α : Type} (x : α) : ∀ n : Nat, (List.replicate n [x]).flatten = List.replicate n x
  | 0 => rfl
  | n + 1 => by rw [List.replicate_succ, List.flatten_cons, flat_one x n]; rfl
@[simp] theorem locB_i {n : Nat} {i : Int} : LocB n (.int i) = True := rfl
@[simp] theorem locB_s {n : Nat} {i : Txt} : LocB n (.str i) = True := rfl
@[simp] theorem locB_n {n : Nat} : LocB n .non = True := rfl
@[simp] theorem locB_b {n : Nat} {i : Bool} : LocB n (.bl i) = True := rfl
theorem locB_l {n : Nat} {ds : List D} (h : ∀ d ∈ ds, LocB n d) : LocB n (.lst ds) := LocBs.of h
theorem locB_t {n : Nat} {ds : List D} (h : ∀ d ∈ ds, LocB n d) : LocB n (.tup ds) := LocBs.of h
theorem locB_il {n : Nat} (ns : List Int) : LocB n (.lst (ns.map D.int)) := LocBs.of fun d hd => by
  obtain ⟨i, _, rfl⟩ := List.mem_map.mp hd
  exact trivial
/-! ### lists of integers -/
def il (ns : List Int) : D := .lst (ns.map D.int)
theorem il_eq (ns : List Int) : .lst (ns.map D.int) = il ns := rfl
theorem il_inj {ns ms : List Int} : il ns = il ms ↔ ns = ms := by
  unfold il
  constructor
  · intro h
    injection h with h
    have := congrArg intsL h
    rw [intsL_map, intsL_map] at this
    exact Option.some.inj this
  · rintro rfl; rfl
@[simp] theorem listOf_il {ns : List Int} : listOf m (il ns) = some (ns.map D.int) := rfl
@[simp] theorem seqOf_il {ns : List Int} : seqOf m (il ns) = some (ns.map D.int) := rfl
@[simp] theorem len_il {ns : List Int} : lenD [il ns] m = .ok (.int ns.length) m := by unfold il; rw [len_l, List.length_map]
theorem cutDs_map {α β : Type} (f : α → β) (xs : List α) (lo hi : Option Int) : cutDs (xs.map f) lo hi = (cutDs xs lo hi).map f := by
  unfold cutDs; rw [List.length_map, List.map_take, List.map_drop]
@[simp] theorem slice_il {ns : List Int} {lo hi : Option Int} : sliceD false (il ns) lo hi m = .ok (il (cutDs ns lo hi)) m := by unfold il; rw [slice_l, mkL_f, cutDs_map]
theorem cut_take {α : Type} (xs : List α) (c : Nat) : cutDs xs none (some (c : Int)) = xs.take c := by
  unfold cutDs
  rw [HT.sIx_nat]
  simp [HT.sIx]
theorem cut_drop {α : Type} (xs : List α) (c : Nat) : cutDs xs (some (c : Int)) none = xs.drop c := by
  unfold cutDs
  rw [HT.sIx_nat]
  simp [HT.sIx]
  rcases Nat.le_total c xs.length with h | h
  · rw [Nat.min_eq_left h, List.take_of_length_le (by simp)]
  · rw [Nat.min_eq_right h, List.drop_of_length_le h]; simp
theorem cut_last {α : Type} (xs : List α) (c : Nat) (h : 1 ≤ c) (hc : c ≤ xs.length) : cutDs xs (some (-(c : Int))) none = xs.drop (xs.length - c) := by
  unfold cutDs
  simp only [HT.sIx]
  rw [if_pos (by omega), show (-(c : Int) + (xs.length : Int)).toNat = xs.length - c by omega, List.take_of_length_le (by simp)]
@[simp] theorem eq_il {ns ms : List Int} : eqD (il ns) (il ms) m = .ok (.bl (decide (ns = ms))) m := eq_ints ns ms
@[simp] theorem ne_il {ns ms : List Int} : neD (il ns) (il ms) m = .ok (.bl (!decide (ns = ms))) m := ne_ints ns ms
@[simp] theorem in_il {i : Int} {ns : List Int} : inD (.int i) (il ns) m = .ok (.bl (decide (i ∈ ns))) m := in_ints i ns
@[simp] theorem nin_il {i : Int} {ns : List Int} : ninD (.int i) (il ns) m = .ok (.bl (!decide (i ∈ ns))) m := by
  unfold ninD il; rw [inB_ints]; rfl
theorem index_il {i : Int} {ns : List Int} (h : i ∈ ns) : indexD (il ns) [.int i] m = .ok (.int ((ns.findIdx (· = i) : Nat) : Int)) m := index_ints h
@[simp] theorem tyB_il {ns : List Int} : tyB "list" m (il ns) = true := rfl
@[simp] theorem isNon_il {i : List Int} : isNonB (il i) = false := rfl
@[simp] theorem locB_il' {n : Nat} {ns : List Int} : LocB n (il ns) = True := eq_true (locB_il ns)
theorem map_at {ns : List Int} {k : Nat} {x : Int} (h : ns[k]? = some x) : (ns.map D.int)[k]? = some (.int x) := by rw [List.getElem?_map, h]; rfl
theorem ixl {ns : List Int} {k : Nat} {x : Int} (h : ns[k]? = some x) : ixD (il ns) (.int (k : Int)) m = .ok (.int x) m := ix_l (atI_nat (map_at h))
theorem ixl' {ns : List Int} {i : Int} {x : Int} (h0 : 0 ≤ i) (h : ns[i.toNat]? = some x) : ixD (il ns) (.int i) m = .ok (.int x) m := ix_l (atI_pos h0 (map_at h))
theorem add_il {ns ms : List Int} (h : ns.length + ms.length ≤ 1048576) : addD false (il ns) (il ms) m = .ok (il (ns ++ ms)) m := by
  unfold il; rw [add_l (by simpa using h), mkL_f, List.map_append]
theorem lst_range (f : Nat → Int) (n : Nat) : D.lst ((List.range n).map fun k => D.int (f k)) = il ((List.range n).map f) := by unfold il; rw [List.map_map]; rfl
@[simp] theorem list_il {ns : List Int} : listD false [il ns] m = .ok (il ns) m := rfl
theorem mul_il {i j : Int} (h0 : 0 ≤ j) (h : j ≤ 1048576) : mulD false (.lst [.int i]) (.int j) m = .ok (il (List.replicate j.toNat i)) m := by
  rw [mul_l (by omega) (by simp; omega), mkL_f, flat_one]
  unfold il
  rw [List.map_replicate]
end
end SL
namespace SL
open PySem PySem.Spec PyProof.Rows L2
noncomputable def d_fewest_numbers : Fn := (mFun 4
    (mSeq (mAsg (mCall lenD (mCons (mVar 0) mNil)) (mGName 3))
    (mSeq (mWhile 1048576 (mAnd (mTest (mBin gtD (mVar 3) (mVar 1))) (mTest (mBin eqD (mBin ixD (mVar 0) (mBin subD (mVar 3) (mC (.int 1)))) (mBin (addD false) (mBin ixD (mVar 0) (mBin subD (mBin subD (mVar 3) (mC (.int 1))) (mVar 1))) (mVar 2))))) (mAug 3 subD (mC (.int 1))))
    (mRet (mSlice false (mVar 0) mNoP (mPart (mVar 3)))))))
noncomputable def d_tail_number : Fn := (mFun 3
    (mRet (mBin (addD false) (mBin ixD (mVar 0) (mBin modD (mVar 2) (mCall lenD (mCons (mVar 0) mNil)))) (mBin (mulD false) (mBin fdivD (mVar 2) (mCall lenD (mCons (mVar 0) mNil))) (mVar 1)))))
noncomputable def d_least_every : Fn := (mFun 6
    (mSeq (mFor (mRange2 (mCons (mC (.int 1)) (mCons (mCall lenD (mCons (mVar 0) mNil)) mNil))) (mGName 2) (mIf (mTest (mBin eqD (mBin modD (mCall lenD (mCons (mVar 0) mNil)) (mVar 2)) (mC (.int 0)))) (mSeq (mAsg (mBin subD (mBin ixD (mVar 0) (mVar 2)) (mBin ixD (mVar 0) (mC (.int 0)))) (mGName 3))
    (mSeq (mAsg (mFrz (mLc (mRange1 (mCons (mCall lenD (mCons (mVar 0) mNil)) mNil)) (CT.one 5) mYes (mBin subD (mCall d_tail_number (mCons (mVar 0) (mCons (mVar 1) (mCons (mBin (addD false) (mVar 5) (mVar 2)) mNil)))) (mBin ixD (mVar 0) (mVar 5))) [5])) (mGName 4))
    (mIf (mTest (mBin eqD (mVar 4) (mBin (mulD false) (mLst false (mCons (mVar 3) mNil)) (mCall lenD (mCons (mVar 0) mNil))))) (mRet (mTup (mCons (mVar 2) (mCons (mVar 3) mNil)))) mNext))) mNext))
    (mRet (mTup (mCons (mCall lenD (mCons (mVar 0) mNil)) (mCons (mVar 1) mNil))))))
noncomputable def d_Course_init : Fn := (mFun 7
    (mSeq (mIf (mTest (mBin ltD (mVar 1) (mC (.int 1)))) mOut mNext)
    (mSeq (mIf (mOr (mTest (mBin ltD (mVar 3) (mC (.int 1)))) (mTest (mBin gtD (mVar 3) (mCall lenD (mCons (mVar 2) mNil))))) mOut mNext)
    (mSeq (mAsg (mCall d_least_every (mCons (mSlice false (mVar 2) (mPart (mBin subD (mCall lenD (mCons (mVar 2) mNil)) (mVar 3))) mNoP) (mCons (mVar 4) mNil))) (mGTup [(mGName 5), (mGName 6)]))
    (mSeq (mSetF 22 "start" (mVar 0) (mVar 1))
    (mSeq (mSetF 22 "told" (mVar 0) (mCall d_fewest_numbers (mCons (mVar 2) (mCons (mVar 5) (mCons (mVar 6) mNil)))))
    (mSeq (mSetF 22 "period" (mVar 0) (mVar 5))
    (mSetF 22 "rise" (mVar 0) (mVar 6)))))))))
noncomputable def d_Course_every : Fn := (mFun 1
    (mRet (mFld 22 "period" (mVar 0))))
noncomputable def d_Course_first_with : Fn := frzFn (mFun 5
    (mSeq (mIf (mTest (mBin inD (mVar 1) (mFld 22 "told" (mVar 0)))) (mRet (mBin (addD false) (mFld 22 "start" (mVar 0)) (mBM "list" indexD (mFld 22 "told" (mVar 0)) (mCons (mVar 1) mNil)))) mNext)
    (mSeq (mAsg (mLst true mNil) (mGName 2))
    (mSeq (mFor (mRange2 (mCons (mBin subD (mCall lenD (mCons (mFld 22 "told" (mVar 0)) mNil)) (mFld 22 "period" (mVar 0))) (mCons (mCall lenD (mCons (mFld 22 "told" (mVar 0)) mNil)) mNil))) (mGName 3) (mSeq (mAsg (mBin subD (mVar 1) (mBin ixD (mFld 22 "told" (mVar 0)) (mVar 3))) (mGName 4))
    (mIf (mAnd (mTest (mBin neD (mFld 22 "rise" (mVar 0)) (mC (.int 0)))) (mAnd (mTest (mBin eqD (mBin modD (mVar 4) (mFld 22 "rise" (mVar 0))) (mC (.int 0)))) (mTest (mBin gtD (mBin fdivD (mVar 4) (mFld 22 "rise" (mVar 0))) (mC (.int 0)))))) (mDrop (mBM "list" appendD (mVar 2) (mCons (mBin (addD false) (mBin (addD false) (mFld 22 "start" (mVar 0)) (mVar 3)) (mBin (mulD false) (mBin fdivD (mVar 4) (mFld 22 "rise" (mVar 0))) (mFld 22 "period" (mVar 0)))) mNil))) mNext)))
    (mRet (mMinDef (mVar 2) (mC .non)))))))
noncomputable def d_Course_least : Fn := (mFun 1
    (mRet (mFld 22 "start" (mVar 0))))
noncomputable def d_Course_more : Fn := (mFun 1
    (mRet (mFld 22 "rise" (mVar 0))))
noncomputable def d_Course_numbers : Fn := (mFun 1
    (mRet (mCall (listD false) (mCons (mFld 22 "told" (mVar 0)) mNil))))
noncomputable def d_Course_outlast : Fn := (mFun 6
    (mSeq (mAsg (mSlice false (mFld 22 "told" (mVar 0)) (mPart (mNeg (mFld 22 "period" (mVar 0)))) mNoP) (mGName 2))
    (mSeq (mIf (mOr (mTest (mBin ltD (mFld 22 "rise" (mVar 0)) (mC (.int 0)))) (mAnd (mTest (mBin eqD (mFld 22 "rise" (mVar 0)) (mC (.int 0)))) (mTest (mBin leD (mCall minD (mCons (mVar 2) mNil)) (mVar 1))))) (mRet (mC .non)) mNext)
    (mSeq (mAsg (mNeg (mC (.int 1))) (mGName 3))
    (mSeq (mFor (mEnum (mCons (mFld 22 "told" (mVar 0)) mNil)) (mGTup [(mGName 4), (mGName 5)]) (mIf (mTest (mBin leD (mVar 5) (mVar 1))) (mSeq (mAsg (mCall maxD (mCons (mVar 3) (mCons (mVar 4) mNil))) (mGName 3))
    (mIf (mAnd (mTest (mBin gtD (mFld 22 "rise" (mVar 0)) (mC (.int 0)))) (mTest (mBin geD (mVar 4) (mBin subD (mCall lenD (mCons (mFld 22 "told" (mVar 0)) mNil)) (mFld 22 "period" (mVar 0)))))) (mAsg (mCall maxD (mCons (mVar 3) (mCons (mBin (addD false) (mVar 4) (mBin (mulD false) (mBin fdivD (mBin subD (mVar 1) (mVar 5)) (mFld 22 "rise" (mVar 0))) (mFld 22 "period" (mVar 0)))) mNil))) (mGName 3)) mNext)) mNext))
    (mRet (mBin (addD false) (mBin (addD false) (mFld 22 "start" (mVar 0)) (mVar 3)) (mC (.int 1)))))))))
noncomputable def d_law_pick : Fn := (mFun 3
    (mSeq (mAsg (mBin modD (mCall intD (mCons (mBin ixD (mVar 0) (mC (.int 0))) mNil)) (mVar 1)) (mGName 2))
    (mSeq (mAsg (mBin fdivD (mBin ixD (mVar 0) (mC (.int 0))) (mVar 1)) (mGSub (mVar 0) (mC (.int 0))))
    (mRet (mVar 2)))))
noncomputable def d_law_course : Fn := (mFun 11
    (mSeq (mAsg (mLst false (mCons (mC (.int 3)) (mCons (mC (.int 1000)) (mCons (mBin powD (mC (.int 10)) (mC (.int 36))) mNil)))) (mGName 2))
    (mSeq (mAsg (mBin eqD (mCall d_law_pick (mCons (mVar 0) (mCons (mC (.int 6)) mNil))) (mC (.int 5))) (mGName 3))
    (mSeq (mAsg (mBin ixD (mVar 2) (mCall d_law_pick (mCons (mVar 0) (mCons (mC (.int 3)) mNil)))) (mGName 4))
    (mSeq (mAsg (mBin subD (mBin (mulD false) (mBin ixD (mLst false (mCons (mC (.int 0)) (mCons (mC (.int 1)) (mCons (mC (.int 2)) mNil)))) (mCall d_law_pick (mCons (mVar 0) (mCons (mC (.int 3)) mNil)))) (mBin (addD false) (mC (.int 1)) (mCall d_law_pick (mCons (mVar 0) (mCons (mVar 4) mNil))))) (mBin (mulD false) (mCall d_law_pick (mCons (mVar 0) (mCons (mC (.int 2)) mNil))) (mCall d_law_pick (mCons (mVar 0) (mCons (mVar 4) mNil))))) (mGName 5))
    (mSeq (mAsg (mBin (addD false) (mC (.int 1)) (mCall d_law_pick (mCons (mVar 0) (mCons (mBin ixD (mLst false (mCons (mC (.int 1)) (mCons (mC (.int 6)) (mCons (mBin subD (mBin powD (mC (.int 10)) (mC (.int 30))) (mC (.int 200))) mNil)))) (mCall d_law_pick (mCons (mVar 0) (mCons (mC (.int 3)) mNil)))) mNil)))) (mGName 6))
    (mSeq (mAsg (mBin (addD false) (mC (.int 1)) (mCall d_law_pick (mCons (mVar 0) (mCons (mBin ixD (mLst false (mCons (mC (.int 4)) (mCons (mVar 1) mNil))) (mCall intD (mCons (mVar 3) mNil))) mNil)))) (mGName 7))
    (mSeq (mAsg (mFrz (mLc (mRange1 (mCons (mC (.int 7)) mNil)) (CT.one 9) mYes (mBin subD (mCall d_law_pick (mCons (mVar 0) (mCons (mBin (mulD false) (mC (.int 2)) (mVar 4)) mNil))) (mVar 4)) [9])) (mGName 8))
    (mSeq (mAsg (mFrz (mLc (mRange1 (mCons (mCall d_law_pick (mCons (mVar 0) (mCons (mBin ixD (mLst false (mCons (mC (.int 5)) (mCons (mC (.int 60)) mNil))) (mCall intD (mCons (mVar 3) mNil))) mNil))) mNil)) (CT.one 9) mYes (mBin ixD (mVar 8) (mBin modD (mBin (addD false) (mBin (mulD false) (mVar 9) (mVar 9)) (mC (.int 3))) (mC (.int 7)))) [9])) (mGName 10))
    (mRet (mTup (mCons (mVar 6) (mCons (mBin (addD false) (mVar 10) (mFrz (mLc (mRange1 (mCons (mVar 7) mNil)) (CT.one 9) mYes (mBin ixD (mVar 8) (mBin modD (mBin (addD false) (mBin (mulD false) (mVar 9) (mVar 9)) (mBin fdivD (mVar 9) (mC (.int 3)))) (mC (.int 7)))) [9]))) (mCons (mVar 7) (mCons (mVar 5) mNil)))))))))))))))
noncomputable def d_law_value : Fn := (mFun 4
    (mSeq (mAsg (mBin ixD (mVar 0) (mC (.int 1))) (mGName 2))
    (mSeq (mIf (mTest (mBin ltD (mVar 1) (mCall lenD (mCons (mVar 2) mNil)))) (mRet (mBin ixD (mVar 2) (mVar 1))) mNext)
    (mSeq (mAsg (mBin (addD false) (mBin fdivD (mBin subD (mVar 1) (mCall lenD (mCons (mVar 2) mNil))) (mBin ixD (mVar 0) (mC (.int 2)))) (mC (.int 1))) (mGName 3))
    (mRet (mBin (addD false) (mBin ixD (mVar 2) (mBin subD (mVar 1) (mBin (mulD false) (mVar 3) (mBin ixD (mVar 0) (mC (.int 2)))))) (mBin (mulD false) (mVar 3) (mBin ixD (mVar 0) (mC (.int 3))))))))))
noncomputable def d_law_first : Fn := (mFun 10
    (mSeq (mAsg (mVar 0) (mGTup [(mGName 2), (mGName 3), (mGName 4), (mGName 5)]))
    (mSeq (mFor (mRange1 (mCons (mCall lenD (mCons (mVar 3) mNil)) mNil)) (mGName 6) (mIf (mTest (mBin eqD (mBin ixD (mVar 3) (mVar 6)) (mVar 1))) (mRet (mVar 6)) mNext))
    (mSeq (mAsg (mC .non) (mGName 7))
    (mSeq (mFor (mRange2 (mCons (mCall lenD (mCons (mVar 3) mNil)) (mCons (mBin (addD false) (mCall lenD (mCons (mVar 3) mNil)) (mVar 4)) mNil))) (mGName 6) (mSeq (mAsg (mBin subD (mVar 1) (mCall d_law_value (mCons (mVar 0) (mCons (mVar 6) mNil)))) (mGName 8))
    (mIf (mOr (mTest (mBin eqD (mVar 8) (mC (.int 0)))) (mAnd (mTest (mBin neD (mVar 5) (mC (.int 0)))) (mAnd (mTest (mBin eqD (mBin modD (mCall intD (mCons (mVar 8) mNil)) (mVar 5)) (mC (.int 0)))) (mTest (mBin gtD (mBin fdivD (mVar 8) (mVar 5)) (mC (.int 0))))))) (mSeq (mAsg (mVar 6) (mGName 9))
    (mSeq (mIf (mTest (mBin neD (mVar 8) (mC (.int 0)))) (mAsg (mBin (addD false) (mVar 6) (mBin (mulD false) (mBin fdivD (mVar 8) (mVar 5)) (mVar 4))) (mGName 9)) mNext)
    (mIf (mOr (mTest (mBin isD (mVar 7) (mC .non))) (mTest (mBin ltD (mVar 9) (mVar 7)))) (mAsg (mVar 9) (mGName 7)) mNext))) mNext)))
    (mRet (mVar 7)))))))
noncomputable def d_law_outlasts : Fn := (mFun 9
    (mSeq (mAsg (mVar 0) (mGTup [(mGName 3), (mGName 4), (mGName 5), (mGName 6)]))
    (mSeq (mAsg (mSlice false (mVar 4) (mPart (mBin subD (mCall lenD (mCons (mVar 4) mNil)) (mVar 5))) mNoP) (mGName 7))
    (mSeq (mIf (mOr (mTest (mBin ltD (mVar 6) (mC (.int 0)))) (mAnd (mTest (mBin eqD (mVar 6) (mC (.int 0)))) (mTest (mBin leD (mCall minD (mCons (mVar 7) mNil)) (mVar 1))))) (mRet (mBin isD (mVar 2) (mC .non))) mNext)
    (mSeq (mIf (mOr (mNot (mTest (mIsI "int" (mVar 2)))) (mOr (mTest (mIsI "bool" (mVar 2))) (mTest (mBin ltD (mVar 2) (mVar 3))))) (mRet (mC (.bl false))) mNext)
    (mSeq (mIf (mAnd (mTest (mBin gtD (mVar 2) (mVar 3))) (mTest (mBin gtD (mCall d_law_value (mCons (mVar 0) (mCons (mBin subD (mBin subD (mVar 2) (mVar 3)) (mC (.int 1))) mNil))) (mVar 1)))) (mRet (mC (.bl false))) mNext)
    (mSeq (mFor (mRange1 (mCons (mBin (addD false) (mCall lenD (mCons (mVar 4) mNil)) (mBin (mulD false) (mC (.int 2)) (mVar 5))) mNil)) (mGName 8) (mIf (mAnd (mTest (mBin geD (mBin (addD false) (mVar 8) (mVar 3)) (mVar 2))) (mTest (mBin leD (mCall d_law_value (mCons (mVar 0) (mCons (mVar 8) mNil))) (mVar 1)))) (mRet (mC (.bl false))) mNext))
    (mRet (mCall allD (mCons (mFrz (mLc (mRange1 (mCons (mBin (mulD false) (mC (.int 2)) (mVar 5)) mNil)) (CT.one 8) mYes (mBin gtD (mCall d_law_value (mCons (mVar 0) (mCons (mBin (addD false) (mBin subD (mVar 2) (mVar 3)) (mVar 8)) mNil))) (mVar 1)) [8])) mNil))))))))))
noncomputable def e_law_same (rec : Fn) : Fn := mFun 3
    (mSeq (mIf (mTest (mBin isD (mVar 1) (mC .non))) (mRet (mBin isD (mVar 0) (mC .non))) mNext)
    (mSeq (mIf (mTest (mIsI "bool" (mVar 1))) (mRet (mAndV (mIsI "bool" (mVar 0)) (mBin eqD (mVar 0) (mVar 1)))) mNext)
    (mSeq (mIf (mTest (mIsI "int" (mVar 1))) (mRet (mAndV (mIsI "int" (mVar 0)) (mAndV (mNotV (mIsI "bool" (mVar 0))) (mBin eqD (mVar 0) (mVar 1))))) mNext)
    (mSeq (mIf (mTest (mIsI "str" (mVar 1))) (mRet (mAndV (mIsI "str" (mVar 0)) (mBin eqD (mVar 0) (mVar 1)))) mNext)
    (mSeq (mIf (mAnd (mTest (mIsI "list" (mVar 1))) (mNot (mTest (mIsI "list" (mVar 0))))) (mRet (mC (.bl false))) mNext)
    (mSeq (mIf (mAnd (mTest (mIsI "tuple" (mVar 1))) (mNot (mTest (mIsI "tuple" (mVar 0))))) (mRet (mC (.bl false))) mNext)
    (mSeq (mIf (mTest (mBin neD (mCall lenD (mCons (mVar 0) mNil)) (mCall lenD (mCons (mVar 1) mNil)))) (mRet (mC (.bl false))) mNext)
    (mRet (mCall allD (mCons (mFrz (mLc (mRange1 (mCons (mCall lenD (mCons (mVar 1) mNil)) mNil)) (CT.one 2) mYes (mCall rec (mCons (mBin ixD (mVar 0) (mVar 2)) (mCons (mBin ixD (mVar 1) (mVar 2)) mNil))) [2])) mNil))))))))))
noncomputable def d_law_same_n : Nat → Fn
  | 0 => fun _ _ => .stuck
  | n + 1 => e_law_same (d_law_same_n n)
noncomputable def d_law_same : Fn := d_law_same_n 12
noncomputable def d_law_well : Fn := (mFun 6
    (mSeq (mIf (mTest (mBin geD (mVar 0) (mBin powD (mC (.int 10)) (mC (.int 18))))) (mRet (mLst true (mCons (mBin subD (mVar 0) (mBin powD (mC (.int 10)) (mC (.int 18)))) mNil))) mNext)
    (mSeq (mAsg (mC (.int 170141183460469231731687303715884105727)) (mGName 2))
    (mSeq (mAsg (mBin modD (mCall intD (mCons (mBin (addD false) (mBin (addD false) (mBin (mulD false) (mVar 0) (mC (.int 6364136223846793005))) (mBin (mulD false) (mVar 1) (mC (.int 1442695040888963407)))) (mC (.int 977))) mNil)) (mVar 2)) (mGName 3))
    (mSeq (mAsg (mC (.int 0)) (mGName 4))
    (mSeq (mFor (mRange1 (mCons (mC (.int 16)) mNil)) (mGName 5) (mSeq (mAsg (mBin modD (mCall intD (mCons (mBin (addD false) (mBin (addD false) (mBin (mulD false) (mBin (mulD false) (mVar 3) (mVar 3)) (mVar 3)) (mBin (mulD false) (mC (.int 7)) (mVar 5))) (mVar 1)) mNil)) (mVar 2)) (mGName 3))
    (mAsg (mBin (addD false) (mBin (mulD false) (mVar 4) (mVar 2)) (mVar 3)) (mGName 4))))
    (mRet (mLst true (mCons (mVar 4) mNil)))))))))
noncomputable def d_law : Fn := (mFun 18
    (mSeq (mFor (mSeqI (mBin (addD false) (mLst false (mCons (mBin (addD false) (mBin powD (mC (.int 10)) (mC (.int 18))) (mC (.int 112927463172077))) mNil)) (mSlice false (mVar 0) mNoP (mPart (mC (.int 6)))))) (mGName 1) (mSeq (mAsg (mCall d_law_well (mCons (mVar 1) (mCons (mC (.int 50)) mNil))) (mGName 2))
    (mSeq (mAsg (mLst false (mCons (mCall d_law_pick (mCons (mVar 2) (mCons (mC (.int 4)) mNil))) (mCons (mCall d_law_pick (mCons (mVar 2) (mCons (mC (.int 3)) mNil))) (mCons (mCall d_law_pick (mCons (mVar 2) (mCons (mC (.int 150)) mNil))) (mCons (mCall d_law_pick (mCons (mVar 2) (mCons (mC (.int 2)) mNil))) mNil))))) (mGName 3))
    (mSeq (mAsg (mCall d_law_course (mCons (mVar 2) (mCons (mC (.int 60)) mNil))) (mGName 4))
    (mSeq (mAsg (mCall d_law_pick (mCons (mVar 2) (mCons (mBin powD (mC (.int 10)) (mC (.int 24))) mNil))) (mGName 5))
    (mSeq (mAsg (mBin subD (mCall d_law_pick (mCons (mVar 2) (mCons (mBin ixD (mLst false (mCons (mC (.int 8)) (mCons (mBin powD (mC (.int 10)) (mC (.int 60))) mNil))) (mBin ixD (mVar 3) (mC (.int 3)))) mNil))) (mBin ixD (mLst false (mCons (mC (.int 4)) (mCons (mBin powD (mC (.int 10)) (mC (.int 59))) mNil))) (mBin ixD (mVar 3) (mC (.int 3))))) (mGName 6))
    (mSeq (mAsg (mVar 4) (mGTup [(mGName 7), (mGName 8), (mGName 9), (mGName 10)]))
    (mSeq (mAsg (mFrz (mMake 22 d_Course_init (mCons (mVar 7) (mCons (mCall (listD false) (mCons (mVar 8) mNil)) (mCons (mVar 9) (mCons (mVar 10) mNil)))))) (mGName 11))
    (mSeq (mAsg (mTup (mCons (mProp 22 d_Course_least (mVar 11)) (mCons (mProp 22 d_Course_numbers (mVar 11)) (mCons (mProp 22 d_Course_every (mVar 11)) (mCons (mProp 22 d_Course_more (mVar 11)) mNil))))) (mGName 12))
    (mSeq (mAsg (mBin ixD (mLst false (mCons (mVar 5) (mCons (mBin ixD (mVar 3) (mC (.int 2))) (mCons (mBin modD (mCall intD (mCons (mBin ixD (mVar 3) (mC (.int 2))) mNil)) (mCall lenD (mCons (mVar 8) mNil))) (mCons (mBin (addD false) (mCall lenD (mCons (mVar 8) mNil)) (mBin modD (mCall intD (mCons (mBin ixD (mVar 3) (mC (.int 2))) mNil)) (mVar 9))) mNil))))) (mBin ixD (mVar 3) (mC (.int 0)))) (mGName 13))
    (mSeq (mAsg (mCall d_law_value (mCons (mVar 4) (mCons (mVar 13) mNil))) (mGName 14))
    (mSeq (mFor (mSeqI (mLst false (mCons (mVar 14) (mCons (mBin subD (mBin (addD false) (mVar 14) (mC (.int 1))) (mBin ixD (mVar 3) (mC (.int 1)))) (mCons (mVar 6) (mCons (mVar 14) (mCons (mCall minD (mCons (mVar 8) mNil)) (mCons (mCall maxD (mCons (mVar 8) mNil)) mNil)))))))) (mGName 15) (mSeq (mAsg (mCall d_law_first (mCons (mVar 4) (mCons (mVar 15) mNil))) (mGName 16))
    (mSeq (mAsg (mC .non) (mGName 17))
    (mSeq (mIf (mTest (mBin isnD (mVar 16) (mC .non))) (mAsg (mBin (addD false) (mVar 7) (mVar 16)) (mGName 17)) mNext)
    (mSeq (mIf (mNot (mTest (mCall d_law_same (mCons (mMeth 22 "first_with" d_Course_first_with (mVar 11) (mCons (mVar 15) mNil)) (mCons (mVar 17) mNil))))) (mRet (mC (.bl false))) mNext)
    (mIf (mNot (mTest (mCall d_law_outlasts (mCons (mVar 4) (mCons (mVar 15) (mCons (mMeth 22 "outlast" d_Course_outlast (mVar 11) (mCons (mVar 15) mNil)) mNil)))))) (mRet (mC (.bl false))) mNext))))))
    (mSeq (mIf (mNot (mTest (mCall d_law_same (mCons (mTup (mCons (mProp 22 d_Course_least (mVar 11)) (mCons (mProp 22 d_Course_numbers (mVar 11)) (mCons (mProp 22 d_Course_every (mVar 11)) (mCons (mProp 22 d_Course_more (mVar 11)) mNil))))) (mCons (mVar 12) mNil))))) (mRet (mC (.bl false))) mNext)
    (mSeq (mIf (mTest (mBin neD (mMethK 22 "first_with" [0] 1 2 d_Course_first_with (mVar 11) (mCons (mVar 14) mNil)) (mMeth 22 "first_with" d_Course_first_with (mVar 11) (mCons (mVar 14) mNil)))) (mRet (mC (.bl false))) mNext)
    (mIf (mTest (mBin neD (mMethK 22 "outlast" [0] 1 2 d_Course_outlast (mVar 11) (mCons (mVar 14) mNil)) (mMeth 22 "outlast" d_Course_outlast (mVar 11) (mCons (mVar 14) mNil)))) (mRet (mC (.bl false))) mNext)))))))))))))))
    (mRet (mC (.bl true)))))

end SL
namespace SL
open PySem PySem.Spec PyProof.Rows L2
section
variable {P : D → Mu → Prop} {E : XP} {m : Mu}
/-! ### the wells -/
theorem pick_wp {i : Nat} {n k : Int} (h : m[i]? = some (.lst [.int n])) (hk : 0 < k) (hm : Mid k) (hP : ∀ v n', 0 ≤ v → v < k → P (.int v) (m.set i (.lst [.int n']))) : Wp (d_law_pick [.loc i, .int k] m) P E := by
  unfold d_law_pick
  refine fun_wp ?_
  have h1 : ixD (.loc i) (.int 0) m = .ok (.int n) m := ix_m h rfl
  have h2 : DivOk k := ⟨by omega, hm⟩
  have h3 : ixN 1 0 = some 0 := rfl
  simp [h1, h2, h, h3]
  refine ⟨by omega, ?_⟩
  rw [Int.fmod_eq_emod_of_nonneg _ (Int.le_of_lt hk)]
  exact hP _ _ (Int.emod_nonneg _ (by omega)) (Int.emod_lt_of_pos _ hk)
theorem mid_of {i : Int} (h : -(10 ^ 1000) ≤ i ∧ i ≤ 10 ^ 1000) : Mid i := by
  unfold Mid
  have : (10 : Int) ^ 1000 < 2 ^ 4096 := by decide +kernel
  omega
theorem sml_of {i : Int} (h : -(2 ^ 63) ≤ i ∧ i ≤ 2 ^ 63) : Sml i := by
  unfold Sml
  omega
theorem well_wp {c s : Int} (hs : Sml s) (hP : ∀ n, P (.loc m.length) (m ++ [.lst [.int n]])) : Wp (d_law_well [.int c, .int s] m) P E := by
  unfold d_law_well
  refine fun_wp ?_
  have hp : (10 : Int) ^ (18 : Int).toNat = 1000000000000000000 := by decide +kernel
  have s1 : Sml 6364136223846793005 := by unfold Sml; decide
  have s2 : Sml 1442695040888963407 := by unfold Sml; decide
  have m1 : MulOk c 6364136223846793005 := .inr (.inl s1)
  have m2 : MulOk s 1442695040888963407 := .inl hs
  have q : ∀ x : Int, 0 ≤ x.fmod 170141183460469231731687303715884105727 ∧ x.fmod 170141183460469231731687303715884105727 < 170141183460469231731687303715884105727 := fun x => by
    rw [Int.fmod_eq_emod_of_nonneg _ (by decide)]
    exact ⟨Int.emod_nonneg _ (by decide), Int.emod_lt_of_pos _ (by decide)⟩
  simp [hp, m1, m2]
  split
  · exact hP _
  · refine St_forR1 (j := 16) rfl (by decide) (fun i e m' => m' = m ∧ i ≤ 16 ∧ ∃ (x w : Int) (o : Option D), e = [some (D.int c), some (D.int s), some (D.int 170141183460469231731687303715884105727), some (D.int x), some (D.int w), o] ∧ 0 ≤ x ∧ x < 170141183460469231731687303715884105727 ∧ 0 ≤ w ∧ w < 170141183460469231731687303715884105727 ^ i)
      ⟨rfl, by decide, _, _, _, rfl, (q _).1, (q _).2, by decide, by decide⟩ ?_ ?_
    · rintro i e m' hi ⟨rfl, hi2, x, w, o, rfl, hx0, hx1, hw0, hw1⟩
      have hb : (170141183460469231731687303715884105727 : Int) ^ i ≤ 170141183460469231731687303715884105727 ^ 15 := (by
        rcases Nat.lt_or_ge i 15 with h | h
        · exact Int.le_of_lt (Int.pow_lt_pow_of_lt (by decide) h)
        · rw [show i = 15 by omega]; exact Int.le_refl _)
      have hc : (170141183460469231731687303715884105727 : Int) ^ 15 < 10 ^ 1000 := by decide +kernel
      have a1 : Mid x := mid_of (by
        have : (170141183460469231731687303715884105727 : Int) ≤ 10 ^ 1000 := by decide +kernel
        omega)
      have a2 : Mid (x * x) := mid_of (by
        have h1 : 0 ≤ x * x := Int.mul_nonneg hx0 hx0
        have h2 : x * x ≤ 170141183460469231731687303715884105727 * 170141183460469231731687303715884105727 := Int.mul_le_mul (by omega) (by omega) hx0 (by decide)
        have h3 : (170141183460469231731687303715884105727 * 170141183460469231731687303715884105727 : Int) ≤ 10 ^ 1000 := by decide +kernel
        omega)
      have a3 : Mid w := mid_of (by omega)
      have a4 : Mid 170141183460469231731687303715884105727 := mid_of (by decide +kernel)
      have b1 : MulOk x x := .inr (.inr ⟨a1, a1⟩)
      have b2 : MulOk (x * x) x := .inr (.inr ⟨a2, a1⟩)
      have b3 : MulOk w 170141183460469231731687303715884105727 := .inr (.inr ⟨a3, a4⟩)
      have b4 : MulOk 7 (i : Int) := .inl (by unfold Sml; decide)
      simp [b1, b2, b3, b4]
      refine ⟨by omega, _, _, ⟨rfl, rfl⟩, (q _).1, (q _).2, ?_, ?_⟩
      · have := (q (x * x * x + 7 * ↑i + s)).1
        have := Int.mul_nonneg hw0 (show (0 : Int) ≤ 170141183460469231731687303715884105727 by decide)
        omega
      · have h1 := (q (x * x * x + 7 * ↑i + s)).2
        rw [Int.pow_succ]
        have h2 : (w + 1) * 170141183460469231731687303715884105727 ≤ 170141183460469231731687303715884105727 ^ i * 170141183460469231731687303715884105727 := Int.mul_le_mul_of_nonneg_right (by omega) (by decide)
        rw [Int.add_mul] at h2
        omega
    · rintro e m' ⟨rfl, _, x, w, o, rfl, _⟩
      simp
      exact hP _
end
end SL
namespace SL
open PySem PySem.Spec PyProof.Rows L2
theorem fmod_nat (k n : Nat) : (k : Int).fmod (n : Int) = ((k % n : Nat) : Int) := by
  rw [Int.fmod_eq_emod_of_nonneg _ (by omega), Int.natCast_emod]
theorem fdiv_nat (k n : Nat) : (k : Int).fdiv (n : Int) = ((k / n : Nat) : Int) := by
  rw [Int.fdiv_eq_ediv_of_nonneg _ (by omega), Int.natCast_ediv]
structure CSeq (a : Nat → Int) (told : List Int) (p : Nat) (r : Int) : Prop where
  pos : 1 ≤ p
  le : p ≤ told.length
  at_ : ∀ k, k < told.length → told[k]? = some (a k)
  per : ∀ k, told.length ≤ k + p → a (k + p) = a k + r
theorem CSeq.iter {a : Nat → Int} {told : List Int} {p : Nat} {r : Int} (c : CSeq a told p r) {k : Nat} (hk : told.length ≤ k + p) : ∀ t : Nat, a (k + t * p) = a k + (t : Int) * r
  | 0 => by simp
  | t + 1 => by
    have h := c.per (k + t * p) (by have := Nat.zero_le (t * p); omega)
    rw [show k + (t + 1) * p = k + t * p + p by rw [Nat.add_mul]; omega, h, c.iter hk t, Int.natCast_add, Int.add_mul]
    simp; omega
/-- every place comes from one of the last p of what is told -/
theorem CSeq.place {a : Nat → Int} {told : List Int} {p : Nat} {r : Int} (c : CSeq a told p r) {k : Nat} (hk : told.length ≤ k + p) : ∃ k0 t, told.length ≤ k0 + p ∧ k0 < told.length ∧ k = k0 + t * p := by
  have hp := c.pos
  have hl := c.le
  refine ⟨told.length - p + (k - (told.length - p)) % p, (k - (told.length - p)) / p, by omega, ?_, ?_⟩
  · have := Nat.mod_lt (k - (told.length - p)) (show 0 < p by omega)
    omega
  · have := Nat.div_add_mod (k - (told.length - p)) p
    rw [Nat.mul_comm] at this
    omega
section
variable {P : D → Mu → Prop} {E : XP} {m : Mu} {b : Nat → Int} {tail : List Int} {n : Nat} {more : Int}
theorem tail_eq (hb : ∀ k, k < n → tail[k]? = some (b k)) (hl : tail.length = n) (hn : 1 ≤ n) (hn2 : n < 2 ^ 60) (k : Nat) (hk : k < 2 ^ 60) : d_tail_number [il tail, .int more, .int (k : Int)] m = .ok (.int (b (k % n) + ((k / n : Nat) : Int) * more)) m := by
  rw [ok_iff]
  unfold d_tail_number
  refine fun_wp ?_
  have h2 : ixD (il tail) (.int ((k % n : Nat) : Int)) m = .ok (.int (b (k % n))) m := ixl (hb _ (Nat.mod_lt _ hn))
  have h5 : k / n ≤ k := Nat.div_le_self _ _
  have e1 := fmod_nat k n
  have e2 := fdiv_nat k n
  generalize k / n = q at *
  generalize k % n = t at *
  have h4 : MulOk (q : Int) more := .inl (sml_of (by omega))
  have h3 : DivOk (n : Int) := ⟨by omega, mid_of (by
      have : (2 : Int) ^ 60 < 10 ^ 1000 := by decide +kernel
      omega)⟩
  simp [hl, e1, e2, h3, h4, h2]
  omega
end
end SL
namespace SL
open PySem PySem.Spec PyProof.Rows L2
section
variable {P : D → Mu → Prop} {E : XP} {m : Mu} {b : Nat → Int} {tail : List Int} {n : Nat} {more : Int}
theorem T_add (hn : 1 ≤ n) (k q : Nat) : b ((k + q * n) % n) + ((((k + q * n) / n : Nat)) : Int) * more = b (k % n) + ((k / n : Nat) : Int) * more + (q : Int) * more := by
  rw [Nat.add_mul_mod_self_right, Nat.add_mul_div_right _ _ (by omega), Int.natCast_add, Int.add_mul]
  omega
theorem least_wp (hb : ∀ k, k < n → tail[k]? = some (b k)) (hl : tail.length = n) (hn : 1 ≤ n) (hn2 : n < 1000) 
    (hP : ∀ (p' : Nat) (r' : Int), 1 ≤ p' → p' ≤ n → (∀ k, b ((k + p') % n) + (((k + p') / n : Nat) : Int) * more = b (k % n) + ((k / n : Nat) : Int) * more + r') → P (.tup [.int p', .int r']) m) : Wp (d_least_every [il tail, .int more] m) P E := by
  rw [d_least_every, Wp_fun]
  rw [sSt_seq]
  have hj : smallI (n : Int) := by unfold smallI; omega
  have hlo : smallI 1 := by decide
  have hh : (mCons (mC (.int 1)) (mCons (mCall lenD (mCons (mVar 0) mNil)) mNil)) (List.map some [il tail, .int more] ++ List.replicate (6 - [il tail, D.int more].length) none) m = .ok [.int 1, .int (n : Int)] m := by simp [hl]
  refine St_forR2 hh hlo hj (fun _ e m' => m' = m ∧ ∃ a1 a2 a3 a4, e = [some (il tail), some (.int more), a1, a2, a3, a4]) ⟨rfl, _, _, _, _, rfl⟩ ?_ ?_
  · rintro i e m' hi ⟨rfl, a1, a2, a3, a4, rfl⟩
    have h0 : ixD (il tail) (.int 0) m' = .ok (.int (b 0)) m' := ixl (k := 0) (hb 0 (by omega))
    have h1 : ixD (il tail) (.int (1 + (i : Int))) m' = .ok (.int (b (1 + i))) m' := by
      rw [show (1 + (i : Int)) = ((1 + i : Nat) : Int) by omega]
      exact ixl (hb _ (by omega))
    have hc : ∀ (x1 x2 x3 : Option D) (mm : Mu), mFrz (mLc (mRange1 (mCons (mCall lenD (mCons (mVar 0) mNil)) mNil)) (CT.one 5) mYes
        (mBin subD (mCall d_tail_number (mCons (mVar 0) (mCons (mVar 1) (mCons (mBin (addD false) (mVar 5) (mVar 2)) mNil)))) (mBin ixD (mVar 0) (mVar 5))) [5])
        [some (il tail), some (.int more), some (.int (1 + (i : Int))), x1, x2, x3] mm = .ok (il ((List.range n).map fun k => b ((k + (1 + i)) % n) + (((k + (1 + i)) / n : Nat) : Int) * more - b k)) mm := by
      intro x1 x2 x3 mm
      rw [show il ((List.range n).map fun k => b ((k + (1 + i)) % n) + (((k + (1 + i)) / n : Nat) : Int) * more - b k) = .lst ((List.range (n : Int).toNat).map fun k => D.int (b ((k + (1 + i)) % n) + (((k + (1 + i)) / n : Nat) : Int) * more - b k)) by
        rw [lst_range]; rfl]
      refine lcR_pure _ (by simp [hl]) (by omega) (by omega) (by simp) (fun k acc hk => ?_) (fun k hk => trivial)
      have g1 := tail_eq (m := mm ++ [.lst acc]) (more := more) hb hl hn (by omega) (k + (1 + i)) (by omega)
      have g2 : ixD (il tail) (.int (k : Int)) (mm ++ [.lst acc]) = .ok (.int (b k)) (mm ++ [.lst acc]) := ixl (hb k (by omega))
      rw [show ((k + (1 + i) : Nat) : Int) = (k : Int) + (1 + (i : Int)) by omega] at g1
      simp [wip, g1, g2]
    have hy : (1 + (i : Int)) ≠ 0 := by omega
    simp [hl, hy, h0, h1, hc]
    intro hdiv
    rw [mul_il (by omega) (by omega), sWp_ok, eq_il]
    simp only [sWp_ok, Int.toNat_natCast]
    by_cases heq : (List.range n).map (fun k => b ((k + (1 + i)) % n) + ((k : Int) + (1 + (i : Int))) / (n : Int) * more - b k) = List.replicate n (b (1 + i) - b 0)
    · rw [if_pos (by simpa using heq)]
      have hall : ∀ k, k < n → b ((k + (1 + i)) % n) + (((k + (1 + i)) / n : Nat) : Int) * more = b k + (b (1 + i) - b 0) := fun k hk => by
        have := congrArg (fun l => l[k]?) heq
        simp [hk] at this
        have e : (((k + (1 + i)) / n : Nat) : Int) = ((k : Int) + (1 + (i : Int))) / (n : Int) := by simp
        rw [e]; omega
      have := hP (1 + i) (b (1 + i) - b 0) (by omega) (by omega) fun k => ?_
      · simpa using this
      · have hk := Nat.div_add_mod k n
        have hlt := Nat.mod_lt k (show 0 < n by omega)
        have e1 : k + (1 + i) = (k % n + (1 + i)) + (k / n) * n := by
          rw [Nat.mul_comm] at hk; omega
        have := T_add (b := b) (more := more) hn (k % n + (1 + i)) (k / n)
        rw [e1, this, hall _ hlt]
        omega
    · rw [if_neg (by simpa using heq)]
      trivial
  · rintro e m' ⟨rfl, a1, a2, a3, a4, rfl⟩
    simp [hl]
    refine hP n more hn (Nat.le_refl _) fun k => ?_
    have := T_add (b := b) (more := more) hn k 1
    simpa using this
theorem fewest_wp {a : Nat → Int} {nums : List Int} {p : Nat} {r : Int} (c0 : CSeq a nums p r) (hL : nums.length < 1000) (hP : ∀ c, c ≤ nums.length → CSeq a (nums.take c) p r → P (il (nums.take c)) m) : Wp (d_fewest_numbers [il nums, .int p, .int r] m) P E := by
  rw [d_fewest_numbers, Wp_fun]
  simp
  refine St_whileF (fun k e m' => m' = m ∧ ∃ c : Nat, e = [some (il nums), some (.int p), some (.int r), some (.int (c : Int))] ∧ k = c ∧ c ≤ nums.length ∧ CSeq a (nums.take c) p r) nums.length (by omega) ⟨rfl, _, rfl, rfl, Nat.le_refl _, by rw [List.take_length]; exact c0⟩ ?_
  rintro k e m' ⟨rfl, c, rfl, rfl, hc, cs⟩
  have hlen : (nums.take k).length = k := by rw [List.length_take]; omega
  have hp := cs.pos
  have hle := cs.le
  have fin : P (il (cutDs nums none (some (k : Int)))) m' := by
    rw [cut_take]; exact hP k hc cs
  by_cases hgt : p < k
  · have h1 : ixD (il nums) (.int ((k : Int) - 1)) m' = .ok (.int (a (k - 1))) m' := by
      rw [show (k : Int) - 1 = ((k - 1 : Nat) : Int) by omega]
      exact ixl (c0.at_ _ (by omega))
    have h2 : ixD (il nums) (.int ((k : Int) - 1 - p)) m' = .ok (.int (a (k - 1 - p))) m' := by
      rw [show (k : Int) - 1 - p = ((k - 1 - p : Nat) : Int) by omega]
      exact ixl (c0.at_ _ (by omega))
    have hgt' : (p : Int) < k := by omega
    simp [hgt', h1, h2]
    split
    · rename_i heq
      refine ⟨k - 1, by omega, k - 1, by omega, rfl, by omega, hp, by rw [List.length_take]; omega, fun j hj => ?_, fun j hj => ?_⟩
      · rw [List.length_take] at hj
        rw [List.getElem?_take_of_lt (by omega)]
        exact c0.at_ _ (by omega)
      · rw [List.length_take] at hj
        by_cases hk : k ≤ j + p
        · exact cs.per j (by rw [hlen]; exact hk)
        · rw [show j = k - 1 - p by omega, show k - 1 - p + p = k - 1 by omega]
          exact heq
    · exact fin
  · have hgt' : ¬ (p : Int) < k := by omega
    simp [hgt']
    exact fin
end
end SL
namespace SL
open PySem PySem.Spec PyProof.Rows L2
section
variable {P : D → Mu → Prop} {E : XP} {m : Mu} {a : Nat → Int} {nums : List Int} {q : Nat} {more : Int}
def fsC (st : Int) (told : List Int) (p : Nat) (r : Int) : List (Str × D) := [("start", .int st), ("told", il told), ("period", .int p), ("rise", .int r)]
def crs (st : Int) (told : List Int) (p : Nat) (r : Int) : D := .ins 22 (fsC st told p r)
theorem put1 (v : D) : putD "start" v [] = ([("start", v)] : List (Str × D)) := rfl
theorem put2 (v x : D) : putD "told" v [("start", x)] = ([("start", x), ("told", v)] : List (Str × D)) := by
  unfold putD; rw [if_neg (by decide +kernel)]; rfl
theorem put3 (v x y : D) : putD "period" v [("start", x), ("told", y)] = ([("start", x), ("told", y), ("period", v)] : List (Str × D)) := by
  unfold putD; rw [if_neg (by decide +kernel)]; unfold putD; rw [if_neg (by decide +kernel)]; rfl
theorem put4 (v x y z : D) : putD "rise" v [("start", x), ("told", y), ("period", z)] = ([("start", x), ("told", y), ("period", z), ("rise", v)] : List (Str × D)) := by
  unfold putD; rw [if_neg (by decide +kernel)]; unfold putD; rw [if_neg (by decide +kernel)]; unfold putD; rw [if_neg (by decide +kernel)]; rfl
theorem init_wp {i : Nat} {least : Int} (hm : m[i]? = some (.ins 22 [])) (hl : 1 ≤ least) (c0 : CSeq a nums q more) (hL : nums.length < 1000)
    (hP : ∀ c p r, CSeq a (nums.take c) p r → c ≤ nums.length → P .non (m.set i (.ins 22 (fsC least (nums.take c) p r)))) :
    Wp (d_Course_init [.loc i, .int least, il nums, .int q, .int more] m) P E := by
  rw [d_Course_init, Wp_fun]
  have hq := c0.pos
  have hle := c0.le
  have hi : i < m.length := (List.getElem?_eq_some_iff.mp hm).1
  have g1 : ¬ least < 1 := by omega
  have g2 : ¬ ((q : Int) < 1) := by omega
  have g3 : ¬ ((nums.length : Int) < q) := by omega
  have hcut : cutDs nums (some ((nums.length : Int) - q)) none = nums.drop (nums.length - q) := by
    rw [show (nums.length : Int) - q = ((nums.length - q : Nat) : Int) by omega, cut_drop]
  simp [g1, g2, g3, hcut]
  refine least_wp (b := fun k => a (nums.length - q + k)) (n := q) (fun k hk => ?_) (by rw [List.length_drop]; omega) hq (by omega) fun p' r' h1 h2 h3 => ?_
  · rw [List.getElem?_drop]
    exact c0.at_ _ (by omega)
  · have hT : ∀ j : Nat, a (nums.length - q + j % q) + ((j / q : Nat) : Int) * more = a (nums.length - q + j) := fun j => by
      have := c0.iter (k := nums.length - q + j % q) (by omega) (j / q)
      rw [← this]
      congr 1
      have := Nat.div_add_mod j q
      rw [Nat.mul_comm] at this
      omega
    have c1 : CSeq a nums p' r' := ⟨h1, by omega, c0.at_, fun k hk => by
      have := h3 (k - (nums.length - q))
      rw [hT, hT] at this
      rw [show nums.length - q + (k - (nums.length - q) + p') = k + p' by omega, show nums.length - q + (k - (nums.length - q)) = k by omega] at this
      exact this⟩
    have hset : ∀ x : MO, (m.set i x)[i]? = some x := fun x => List.getElem?_set_self hi
    simp [hm]
    refine fewest_wp c1 hL fun c hc cs => ?_
    simp [hset, put1, put2, put3, put4]
    exact hP c p' r' cs hc
end
end SL
namespace SL
open PySem PySem.Spec PyProof.Rows L2
/-- o: the first place with g -/
def IsF (a : Nat → Int) (g : Int) : Option Nat → Prop
  | none => ∀ k, a k ≠ g
  | some k => a k = g ∧ ∀ j, j < k → a j ≠ g
theorem IsF.uniq {a : Nat → Int} {g : Int} : ∀ {o o' : Option Nat}, IsF a g o → IsF a g o' → o = o'
  | none, none, _, _ => rfl
  | none, some k, h, h' => absurd h'.1 (h k)
  | some k, none, h, h' => absurd h.1 (h' k)
  | some k, some k', h, h' => by
    rcases Nat.lt_trichotomy k k' with x | x | x
    · exact absurd h.1 (h'.2 k x)
    · rw [x]
    · exact absurd h'.1 (h.2 k' x)
def oD (st : Int) : Option Nat → D
  | none => .non
  | some k => .int (st + (k : Int))
section
variable {P : D → Mu → Prop} {E : XP} {m : Mu} {a : Nat → Int} {told : List Int} {p : Nat} {r st : Int}
@[simp] theorem insOf_crs : insOf m (crs st told p r) = some (22, fsC st told p r) := rfl
theorem lk1 : (fsC st told p r).lookup ("start" : Str) = some (.int st) := by
  unfold fsC
  rw [List.lookup_cons, show (("start" : Str) == "start") = true by decide +kernel]
theorem lk2 : (fsC st told p r).lookup ("told" : Str) = some (il told) := by
  unfold fsC
  rw [List.lookup_cons, show (("told" : Str) == "start") = false by decide +kernel]; dsimp only
  rw [List.lookup_cons, show (("told" : Str) == "told") = true by decide +kernel]
theorem lk3 : (fsC st told p r).lookup ("period" : Str) = some (.int p) := by
  unfold fsC
  rw [List.lookup_cons, show (("period" : Str) == "start") = false by decide +kernel]; dsimp only
  rw [List.lookup_cons, show (("period" : Str) == "told") = false by decide +kernel]; dsimp only
  rw [List.lookup_cons, show (("period" : Str) == "period") = true by decide +kernel]
theorem lk4 : (fsC st told p r).lookup ("rise" : Str) = some (.int r) := by
  unfold fsC
  rw [List.lookup_cons, show (("rise" : Str) == "start") = false by decide +kernel]; dsimp only
  rw [List.lookup_cons, show (("rise" : Str) == "told") = false by decide +kernel]; dsimp only
  rw [List.lookup_cons, show (("rise" : Str) == "period") = false by decide +kernel]; dsimp only
  rw [List.lookup_cons, show (("rise" : Str) == "rise") = true by decide +kernel]
theorem first_with_wp (c0 : CSeq a told p r) (hL : told.length < 1000) (hr : Mid r) (g : Int) (hP : ∀ o, IsF a g o → P (oD st o) m) : Wp (d_Course_first_with [crs st told p r, .int g] m) P E := by
  rw [d_Course_first_with]
  refine Wp_frzFn ?_
  rw [Wp_fun]
  have hp := c0.pos
  have hle := c0.le
  have fin : ∀ (o : Option Nat) (mm : Mu), IsF a g o → NoEsc m mm → mm.take m.length = m → NoEsc m mm ∧ ∃ d', frz mm m.length 8 (oD st o) = some d' ∧ P d' (mm.take m.length) := fun o mm h1 h2 h3 => ⟨h2, oD st o, frz_of (by cases o <;> trivial) 8, by rw [h3]; exact hP o h1⟩
  by_cases hg : g ∈ told
  · simp [lk1, lk2, hg, index_il hg]
    have hlt := List.findIdx_lt_length_of_exists (p := fun x => decide (x = g)) (xs := told) ⟨g, hg, by simp⟩
    have h1 : a (told.findIdx fun x => decide (x = g)) = g := by
      have e1 := List.findIdx_getElem (p := fun x => decide (x = g)) (xs := told) (w := hlt)
      have e2 := c0.at_ _ hlt
      rw [List.getElem?_eq_getElem hlt] at e2
      have e3 := Option.some.inj e2
      rw [← e3]; simpa using e1
    have h2 : IsF a g (some (told.findIdx fun x => decide (x = g))) := ⟨h1, fun j hj => ?_⟩
    · simpa [oD] using fin _ m h2 noEsc_refl (List.take_length ..)
    have e1 := List.not_of_lt_findIdx hj
    have e2 := c0.at_ j (by omega)
    rw [List.getElem?_eq_getElem (by omega)] at e2
    have e3 := Option.some.inj e2
    rw [← e3]; simpa using e1
  · have hng : ∀ k, k < told.length → a k ≠ g := fun k hk e => hg (by
      have := c0.at_ k hk
      rw [e] at this
      exact List.mem_of_getElem? this)
    simp [hg, lk2]
    have hh : (mCons (mBin subD (mCall lenD (mCons (mFld 22 (Str.ofString "told") (mVar 0)) mNil)) (mFld 22 (Str.ofString "period") (mVar 0))) (mCons (mCall lenD (mCons (mFld 22 (Str.ofString "told") (mVar 0)) mNil)) mNil))
        [some (crs st told p r), some (.int g), some (.loc m.length), none, none] (m ++ [.lst []]) = .ok [.int ((told.length : Int) - p), .int (told.length : Int)] (m ++ [.lst []]) := by simp [lk2, lk3]
    have hs1 : smallI ((told.length : Int) - p) := by unfold smallI; omega
    have hs2 : smallI (told.length : Int) := by unfold smallI; omega
    refine St_forR2 hh hs1 hs2 (fun i e mm => ∃ (acc : List Int) (x1 x2 : Option D), e = [some (crs st told p r), some (.int g), some (.loc m.length), x1, x2] ∧ mm = m ++ [.lst (acc.map D.int)] ∧ acc.length ≤ i ∧
      (∀ x, x ∈ acc → ∃ k : Nat, x = st + (k : Int) ∧ a k = g) ∧ ∀ k0 t : Nat, told.length ≤ k0 + p → k0 + p < told.length + i → a (k0 + t * p) = g → ∃ x, x ∈ acc ∧ x ≤ st + ((k0 + t * p : Nat) : Int)) ⟨[], none, none, rfl, rfl, Nat.le_refl _, by simp, fun k0 t h1 h2 => by omega⟩ ?_ ?_
    · rintro i e mm hi ⟨acc, x1, x2, rfl, rfl, hacc, h1, h2⟩
      obtain ⟨k1, hk1⟩ : ∃ k1, k1 = told.length - p + i := ⟨_, rfl⟩
      have hk1' : (told.length : Int) - p + i = (k1 : Int) := by omega
      have hlt : k1 < told.length := by omega
      have hix : ∀ mm, ixD (il told) (.int (k1 : Int)) mm = .ok (.int (a k1)) mm := fun mm => ixl (c0.at_ k1 hlt)
      have hit : ∀ t : Nat, a (k1 + t * p) = a k1 + (t : Int) * r := c0.iter (by omega)
      have keep : (∀ t : Nat, a (k1 + t * p) ≠ g) → ∀ k0 t : Nat, told.length ≤ k0 + p → k0 + p < told.length + (i + 1) → a (k0 + t * p) = g → ∃ x, x ∈ acc ∧ x ≤ st + ((k0 + t * p : Nat) : Int) := fun hno k0 t g1 g2 g3 => by
        by_cases hk : k0 + p < told.length + i
        · exact h2 k0 t g1 hk g3
        · rw [show k0 = k1 by omega] at g3
          exact absurd g3 (hno t)
      simp [lk2, lk3, lk4, lk1, hk1', hix]
      have hm : (m ++ [MO.lst (acc.map D.int)])[m.length]? = some (.lst (acc.map D.int)) := by simp
      have hty : tyB "list" (m ++ [MO.lst (acc.map D.int)]) (.loc m.length) = true := tyB_m hm
      by_cases hr0 : r = 0
      · rw [if_pos hr0]
        refine ⟨acc, rfl, by omega, h1, ?_⟩
        simpa using keep fun t e => hng k1 hlt (by rw [hit t, hr0] at e; simpa using e)
      · rw [if_neg hr0]
        have hdv : DivOk r := ⟨hr0, hr⟩
        have hsm : ∀ z : Int, MulOk z p := fun z => .inr (.inl (sml_of (by omega)))
        have hdm := Int.mul_fdiv_add_fmod (g - a k1) r
        simp [hr0, hdv, hsm, hty]
        split
        · rename_i hz
          rw [hz] at hdm
          split
          · rename_i hpos
            rw [app_m hm (by simp; omega)]
            simp
            refine ⟨acc ++ [st + k1 + (g - a k1).fdiv r * p], by simp <;> omega, by simp <;> omega, ?_, ?_⟩
            · intro x hx
              rcases List.mem_append.mp hx with hx | hx
              · exact h1 x hx
              · rw [List.mem_singleton.mp hx]
                refine ⟨k1 + ((g - a k1).fdiv r).toNat * p, ?_, ?_⟩
                · rw [Int.natCast_add, Int.natCast_mul, Int.toNat_of_nonneg (by omega)]; omega
                · rw [hit, Int.toNat_of_nonneg (by omega), Int.mul_comm]; omega
            · intro k0 t g1 g2 g3
              by_cases hk : k0 + p < told.length + i
              · obtain ⟨x, y1, y2⟩ := h2 k0 t g1 hk g3
                exact ⟨x, List.mem_append_left _ y1, by simpa using y2⟩
              · rw [show k0 = k1 by omega] at g3 ⊢
                refine ⟨_, List.mem_append_right _ (List.mem_singleton.mpr rfl), ?_⟩
                rw [hit] at g3
                have : g - a k1 = r * (t : Int) := by rw [Int.mul_comm]; omega
                rw [this, Int.mul_fdiv_cancel_left _ hr0]
                omega
          · rename_i hpos
            refine ⟨acc, rfl, by omega, h1, ?_⟩
            simpa using keep fun t e => by
              rw [hit] at e
              have : g - a k1 = r * (t : Int) := by rw [Int.mul_comm]; omega
              rw [this, Int.mul_fdiv_cancel_left _ hr0] at hpos
              have ht : t = 0 := by omega
              subst ht
              exact hng k1 hlt (by simpa using e)
        · rename_i hz
          refine ⟨acc, rfl, by omega, h1, ?_⟩
          simpa using keep fun t e => by
            rw [hit] at e
            have : g - a k1 = r * (t : Int) := by rw [Int.mul_comm]; omega
            exact hz (by rw [this]; exact Int.fmod_eq_zero_of_dvd ⟨_, rfl⟩)
    · rintro e mm ⟨acc, x1, x2, rfl, rfl, hacc, h1, h2⟩
      have hl : listOf (m ++ [MO.lst (acc.map D.int)]) (.loc m.length) = some (acc.map D.int) := listOf_m (by simp)
      have far : ∀ j, a j = g → ∃ x, x ∈ acc ∧ x ≤ st + (j : Int) := fun j hj => by
        by_cases hk : j < told.length
        · exact absurd hj (hng j hk)
        · obtain ⟨k0, t, q1, q2, q3⟩ := c0.place (k := j) (by omega)
          rw [q3] at hj ⊢
          exact h2 k0 t q1 (by omega) hj
      simp [minDefD, hl, intsL_map]
      split
      · rename_i he
        subst he
        have h3 : IsF a g none := fun k e => by
          obtain ⟨x, hx, _⟩ := far k e
          simp at hx
        simpa [oD] using fin none _ h3 noEsc_app (by simp)
      · rename_i he
        obtain ⟨k, q1, q2⟩ := h1 _ (minI_mem he)
        have h3 : IsF a g (some k) := ⟨q2, fun j hj e => by
          obtain ⟨x, hx, hx2⟩ := far j e
          have := minI_le hx
          omega⟩
        rw [q1]
        simpa [oD] using fin (some k) _ h3 noEsc_app (by simp)
end
end SL
namespace SL
open PySem PySem.Spec PyProof.Rows L2
section
variable {P : D → Mu → Prop} {E : XP} {m : Mu} {a : Nat → Int} {told : List Int} {p : Nat} {r st : Int}
theorem min_il {ns : List Int} (h : ns ≠ []) : minD [il ns] m = .ok (.int (minI ns)) m := by
  show (match (listOf m (il ns)).bind intsL with
    | some (n :: ns) => R.ok (D.int (minI (n :: ns))) m
    | _ => .stuck) = _
  rw [listOf_il, Option.bind_some, intsL_map]
  cases ns with
  | nil => exact absurd rfl h
  | cons n ns => rfl
theorem max_il {ns : List Int} (h : ns ≠ []) : maxD [il ns] m = .ok (.int (maxI ns)) m := by
  show (match (listOf m (il ns)).bind intsL with
    | some (n :: ns) => R.ok (D.int (maxI (n :: ns))) m
    | _ => .stuck) = _
  rw [listOf_il, Option.bind_some, intsL_map]
  cases ns with
  | nil => exact absurd rfl h
  | cons n ns => rfl
@[simp] theorem max_ii {i j : Int} : maxD [.int i, .int j] m = .ok (.int (if j > i then j else i)) m := rfl
@[simp] theorem min_ii {i j : Int} : minD [.int i, .int j] m = .ok (.int (if j < i then j else i)) m := rfl
/-- the tail has a number that is not greater -/
def Low (a : Nat → Int) (told : List Int) (p : Nat) (g : Int) : Prop := ∃ k, told.length ≤ k + p ∧ k < told.length ∧ a k ≤ g
theorem low_iff (c0 : CSeq a told p r) (g : Int) : minI (told.drop (told.length - p)) ≤ g ↔ Low a told p g := by
  have hp := c0.pos
  have hle := c0.le
  have hne : told.drop (told.length - p) ≠ [] := fun h => by
    have := congrArg List.length h
    simp at this; omega
  constructor
  · intro h
    obtain ⟨k, hk, e⟩ := List.getElem_of_mem (minI_mem hne)
    rw [List.length_drop] at hk
    rw [List.getElem_drop] at e
    refine ⟨told.length - p + k, by omega, by omega, ?_⟩
    have := c0.at_ (told.length - p + k) (by omega)
    rw [List.getElem?_eq_getElem (by omega), e] at this
    rw [← Option.some.inj this]; exact h
  · rintro ⟨k, h1, h2, h3⟩
    have hm : a k ∈ told.drop (told.length - p) := by
      have := c0.at_ k h2
      refine List.mem_of_getElem? (i := k - (told.length - p)) ?_
      rw [List.getElem?_drop, show told.length - p + (k - (told.length - p)) = k by omega]
      exact this
    exact Int.le_trans (minI_le hm) h3
theorem outlast_wp (c0 : CSeq a told p r) (hL : told.length < 1000) (hr : Mid r) (g : Int) (hN : (r < 0 ∨ (r = 0 ∧ Low a told p g)) → P .non m)
    (hS : ¬ (r < 0 ∨ (r = 0 ∧ Low a told p g)) → ∀ n : Nat, (∀ k, n ≤ k → g < a k) → (n = 0 ∨ a (n - 1) ≤ g) → P (.int (st + (n : Int))) m) : Wp (d_Course_outlast [crs st told p r, .int g] m) P E := by
  have hp := c0.pos
  have hle := c0.le
  have hne : told.drop (told.length - p) ≠ [] := fun h => by
    have := congrArg List.length h
    simp at this; omega
  rw [d_Course_outlast, Wp_fun]
  simp [lk1, lk2, lk3, lk4, cut_last told p hp hle, min_il hne]
  by_cases h1 : r < 0
  · simp [h1]; exact hN (.inl h1)
  by_cases h2 : r = 0 ∧ minI (told.drop (told.length - p)) ≤ g
  · simp [h1, h2]; exact hN (.inr ⟨h2.1, (low_iff c0 g).mp h2.2⟩)
  have hno : ¬ (r < 0 ∨ (r = 0 ∧ Low a told p g)) := by
    rintro (h | ⟨h, h'⟩)
    · exact h1 h
    · exact h2 ⟨h, (low_iff c0 g).mpr h'⟩
  have hS := hS hno
  have hgo : ∀ X X' Y : Prop, (if r < 0 then X else if r = 0 then (if minI (told.drop (told.length - p)) ≤ g then X' else Y) else Y) = Y := fun X X' Y => by
    rw [if_neg h1]
    by_cases h0 : r = 0
    · rw [if_pos h0, if_neg fun h => h2 ⟨h0, h⟩]
    · rw [if_neg h0]
  rw [hgo]
  refine St_forE (d := il told) (m1 := m) (all := told.map D.int) (by simp [lk2]) (fun _ => rfl) (fun i e mm => mm = m ∧ ∃ (n : Nat) (x1 x2 : Option D), e = [some (crs st told p r), some (.int g), some (il (told.drop (told.length - p))), some (.int ((n : Int) - 1)), x1, x2] ∧
    (n = 0 ∨ a (n - 1) ≤ g) ∧ (∀ k, k < i → a k ≤ g → k < n) ∧ ∀ k0 t : Nat, k0 < i → told.length ≤ k0 + p → a (k0 + t * p) ≤ g → k0 + t * p < n) ⟨rfl, 0, none, none, rfl, .inl rfl, fun k h => by omega, fun k0 t h => by omega⟩ ?_ ?_
  · rintro i x e mm hx ⟨rfl, n, x1, x2, rfl, g1, g2, g3⟩
    have hi : i < told.length := by
      have := (List.getElem?_eq_some_iff.mp hx).1
      simpa using this
    have hx2 : x = .int (a i) := by
      rw [map_at (c0.at_ i hi)] at hx
      exact (Option.some.inj hx).symm
    subst hx2
    have hit : told.length ≤ i + p → ∀ t : Nat, a (i + t * p) = a i + (t : Int) * r := fun h => c0.iter h
    by_cases hle2 : a i ≤ g
    · have hsm : ∀ z : Int, MulOk z p := fun z => .inr (.inl (sml_of (by omega)))
      simp [hle2, lk2, lk3, lk4, hsm]
      by_cases hc : 0 < r ∧ told.length ≤ i + p
      · have hdv : DivOk r := ⟨by omega, hr⟩
        have hc2 : (told.length : Int) - p ≤ i := by omega
        simp [hc.1, hc2, hdv]
        have hT0 : 0 ≤ (g - a i).fdiv r := Int.fdiv_nonneg (by omega) (by omega)
        obtain ⟨T, hT⟩ : ∃ T : Nat, (g - a i).fdiv r = (T : Int) := ⟨_, (Int.toNat_of_nonneg hT0).symm⟩
        have hfl := Int.mul_fdiv_add_fmod (g - a i) r
        have hf0 := Int.fmod_nonneg_of_pos (g - a i) hc.1
        have hf1 := Int.fmod_lt_of_pos (g - a i) hc.1
        rw [hT] at hfl ⊢
        have hTp : ((T : Int) * (p : Int)) = ((T * p : Nat) : Int) := by simp
        have hit := hit hc.2
        have hTle : a (i + T * p) ≤ g := by rw [hit, Int.mul_comm]; omega
        refine ⟨Nat.max n (i + T * p + 1), ?_, ?_, ?_, ?_⟩
        · rw [hTp]
          have : Nat.max n (i + T * p + 1) = if n < i + T * p + 1 then i + T * p + 1 else n := by
            show max n _ = _
            split <;> omega
          rw [this]
          (repeat' split) <;> omega
        · right
          rcases Nat.le_total n (i + T * p + 1) with h | h
          · rw [show Nat.max n (i + T * p + 1) = i + T * p + 1 from Nat.max_eq_right h]
            exact hTle
          · rw [show Nat.max n (i + T * p + 1) = n from Nat.max_eq_left h]
            rcases g1 with g1 | g1
            · omega
            · exact g1
        · intro k hk hk2
          have h9 : n ≤ Nat.max n (i + T * p + 1) := Nat.le_max_left ..
          have h8 : i + T * p + 1 ≤ Nat.max n (i + T * p + 1) := Nat.le_max_right ..
          by_cases hki : k < i
          · have := g2 k hki hk2; omega
          · have := Nat.zero_le (T * p); omega
        · intro k0 t hk h3 h4
          have h9 : n ≤ Nat.max n (i + T * p + 1) := Nat.le_max_left ..
          have h8 : i + T * p + 1 ≤ Nat.max n (i + T * p + 1) := Nat.le_max_right ..
          by_cases hki : k0 < i
          · have := g3 k0 t hki h3 h4; omega
          · have e0 : k0 = i := by omega
            subst e0
            rw [hit] at h4
            have htT : t ≤ T := by
              rcases Nat.lt_or_ge T t with h | h
              · have : ((T : Int) + 1) * r ≤ (t : Int) * r := Int.mul_le_mul_of_nonneg_right (by omega) (by omega)
                rw [Int.add_mul, Int.mul_comm (T : Int) r] at this
                omega
              · exact h
            have := Nat.mul_le_mul_right p htT
            omega
      · have hcond : ¬ (0 < r ∧ (told.length : Int) - p ≤ i) := fun ⟨q1, q2⟩ => hc ⟨q1, by omega⟩
        have hrest : ∃ n' : Nat, (if (n : Int) - 1 < (i : Int) then (i : Int) else (n : Int) - 1) = (n' : Int) - 1 ∧ (n' = 0 ∨ a (n' - 1) ≤ g) ∧ (∀ k, k < i + 1 → a k ≤ g → k < n') ∧ ∀ k0 t : Nat, k0 < i + 1 → told.length ≤ k0 + p → a (k0 + t * p) ≤ g → k0 + t * p < n' := by
          refine ⟨Nat.max n (i + 1), ?_, ?_, ?_, ?_⟩
          · rcases Nat.le_total n (i + 1) with h | h
            · rw [show Nat.max n (i + 1) = i + 1 from Nat.max_eq_right h]; split <;> omega
            · rw [show Nat.max n (i + 1) = n from Nat.max_eq_left h]; split <;> omega
          · right
            rcases Nat.le_total n (i + 1) with h | h
            · rw [show Nat.max n (i + 1) = i + 1 from Nat.max_eq_right h]; exact hle2
            · rw [show Nat.max n (i + 1) = n from Nat.max_eq_left h]
              rcases g1 with g1 | g1
              · omega
              · exact g1
          · intro k hk hk2
            have h9 : n ≤ Nat.max n (i + 1) := Nat.le_max_left ..
            have h8 : i + 1 ≤ Nat.max n (i + 1) := Nat.le_max_right ..
            by_cases hki : k < i
            · have := g2 k hki hk2; omega
            · omega
          · intro k0 t hk h3 h4
            have h9 : n ≤ Nat.max n (i + 1) := Nat.le_max_left ..
            by_cases hki : k0 < i
            · have := g3 k0 t hki h3 h4; omega
            · have e0 : k0 = i := by omega
              subst e0
              by_cases hr0 : 0 < r
              · exact absurd ⟨hr0, h3⟩ hc
              · exact absurd ⟨by omega, k0, h3, hi, hle2⟩ (fun h => hno (.inr h))
        by_cases hr0 : 0 < r
        · have hl0 : ¬ ((told.length : Int) - p ≤ i) := fun q => hcond ⟨hr0, q⟩
          simpa [hr0, hl0] using hrest
        · simpa [hr0] using hrest
    · simp [hle2]
      refine ⟨n, rfl, g1, fun k hk hk2 => ?_, fun k0 t hk h3 h4 => ?_⟩
      · by_cases hki : k < i
        · exact g2 k hki hk2
        · rw [show k = i by omega] at hk2; exact absurd hk2 hle2
      · by_cases hki : k0 < i
        · exact g3 k0 t hki h3 h4
        · have e0 : k0 = i := by omega
          subst e0
          rw [hit h3] at h4
          have := Int.mul_nonneg (show (0 : Int) ≤ (t : Int) by omega) (show 0 ≤ r by omega)
          omega
  · rintro e mm ⟨rfl, n, x1, x2, rfl, g1, g2, g3⟩
    rw [List.length_map] at g2 g3
    simp [lk1]
    have := hS n (fun k hk => ?_) g1
    · rw [show st + ((n : Int) - 1) + 1 = st + (n : Int) by omega]; exact this
    · rcases Int.lt_or_le g (a k) with h | h
      · exact h
      · by_cases hk2 : k < told.length
        · have := g2 k hk2 h; omega
        · obtain ⟨k0, t, q1, q2, q3⟩ := c0.place (k := k) (by omega)
          rw [q3] at h hk
          have := g3 k0 t q2 q1 h
          omega
end
end SL
namespace SL
open PySem PySem.Spec PyProof.Rows L2
/-- the law's own numbers -/
def aL (row : List Int) (step : Nat) (rise : Int) (k : Nat) : Int :=
  if k < row.length then (row[k]?).getD 0 else (row[k - ((k - row.length) / step + 1) * step]?).getD 0 + (((k - row.length) / step + 1 : Nat) : Int) * rise
theorem aL_seq {row : List Int} {step : Nat} {rise : Int} (h1 : 1 ≤ step) (h2 : step ≤ row.length) : CSeq (aL row step rise) row step rise := by
  refine ⟨h1, h2, fun k hk => ?_, fun k hk => ?_⟩
  · unfold aL
    rw [if_pos hk, List.getElem?_eq_getElem hk]; rfl
  · by_cases hlt : k < row.length
    · have e0 : (k + step - row.length) / step = 0 := Nat.div_eq_of_lt (by omega)
      unfold aL
      rw [if_neg (by omega), if_pos hlt, e0]
      simp
    · have e1 : (k + step - row.length) / step = (k - row.length) / step + 1 := by
        rw [show k + step - row.length = k - row.length + step by omega, Nat.add_div_right _ (by omega)]
      unfold aL
      rw [if_neg (by omega), if_neg hlt, e1]
      rw [show k + step - ((k - row.length) / step + 1 + 1) * step = k - ((k - row.length) / step + 1) * step by
        rw [Nat.add_mul ((k - row.length) / step + 1) 1 step]; omega]
      rw [Int.natCast_add ((k - row.length) / step + 1) 1, Int.add_mul]
      simp; omega
def crD (st : Int) (row : List Int) (step : Nat) (rise : Int) : D := .tup [.int st, il row, .int step, .int rise]
section
variable {P : D → Mu → Prop} {E : XP} {m : Mu} {row : List Int} {step : Nat} {rise st : Int}
theorem ixt0 {x y z w : D} : ixD (.tup [x, y, z, w]) (.int 0) m = .ok x m := ix_t rfl
theorem ixt1 {x y z w : D} : ixD (.tup [x, y, z, w]) (.int 1) m = .ok y m := ix_t rfl
theorem ixt2 {x y z w : D} : ixD (.tup [x, y, z, w]) (.int 2) m = .ok z m := ix_t rfl
theorem ixt3 {x y z w : D} : ixD (.tup [x, y, z, w]) (.int 3) m = .ok w m := ix_t rfl
theorem value_eq (h1 : 1 ≤ step) (h2 : step ≤ row.length) (hL : row.length < 1000) (hr : Mid rise) (k : Nat) (hk : (k : Int) < 10 ^ 900) : d_law_value [crD st row step rise, .int (k : Int)] m = .ok (.int (aL row step rise k)) m := by
  rw [ok_iff, d_law_value, Wp_fun]
  unfold crD
  simp [ixt1, ixt2, ixt3]
  by_cases hlt : k < row.length
  · have : ixD (il row) (.int (k : Int)) m = .ok (.int (aL row step rise k)) m := ixl ((aL_seq h1 h2).at_ k hlt)
    simp [hlt, this]
  · have hdv : DivOk (step : Int) := ⟨by omega, mid_of (by
      have : (1000 : Int) ≤ 10 ^ 1000 := by decide +kernel
      omega)⟩
    have e1 : ((k : Int) - row.length).fdiv step = (((k - row.length) / step : Nat) : Int) := by
      rw [show (k : Int) - row.length = ((k - row.length : Nat) : Int) by omega, fdiv_nat]
    have hq : (k - row.length) / step ≤ k := Nat.le_trans (Nat.div_le_self _ _) (Nat.sub_le _ _)
    have hge : ((k - row.length) / step + 1) * step ≤ k := by
      have := Nat.div_mul_le_self (k - row.length) step
      rw [Nat.add_mul]; omega
    have hlt2 : k - ((k - row.length) / step + 1) * step < row.length := by
      have h3 := Nat.div_add_mod (k - row.length) step
      have h4 := Nat.mod_lt (k - row.length) (show 0 < step by omega)
      rw [Nat.mul_comm] at h3
      rw [Nat.add_mul]; omega
    have hv : aL row step rise k = (row[k - ((k - row.length) / step + 1) * step]?).getD 0 + (((k - row.length) / step + 1 : Nat) : Int) * rise := by
      unfold aL; rw [if_neg hlt]
    rw [hv, e1]
    generalize (k - row.length) / step = q at *
    have hm1 : MulOk ((q : Int) + 1) step := .inr (.inl (sml_of (by omega)))
    have hm2 : MulOk ((q : Int) + 1) rise := .inr (.inr ⟨mid_of (by
      have : (10 : Int) ^ 900 + 2 ≤ 10 ^ 1000 := by decide +kernel
      omega), hr⟩)
    have hix : ixD (il row) (.int ((k : Int) - ((q : Int) + 1) * step)) m = .ok (.int ((row[k - (q + 1) * step]?).getD 0)) m := by
      rw [show (k : Int) - ((q : Int) + 1) * step = ((k - (q + 1) * step : Nat) : Int) by
        rw [Int.natCast_sub hge, Int.natCast_mul]; simp]
      refine ixl ?_
      rw [List.getElem?_eq_getElem hlt2]; rfl
    simp [hlt, hdv, hm1, hm2, hix]
end
end SL
namespace SL
open PySem PySem.Spec PyProof.Rows L2
def oN : Option Nat → D
  | none => .non
  | some k => .int (k : Int)
section
variable {P : D → Mu → Prop} {E : XP} {m : Mu} {row : List Int} {step : Nat} {rise st : Int}
theorem lt900 {k : Nat} (h : k < 10 ^ 6) : (k : Int) < 10 ^ 900 := by
  have : (10 : Int) ^ 6 < 10 ^ 900 := by decide +kernel
  omega
theorem first_wp (h1 : 1 ≤ step) (h2 : step ≤ row.length) (hL : row.length < 500) (hr : Mid rise) (g : Int) (hP : ∀ o, IsF (aL row step rise) g o → P (oN o) m) : Wp (d_law_first [crD st row step rise, .int g] m) P E := by
  rw [d_law_first, Wp_fun]
  have c0 := aL_seq (rise := rise) h1 h2
  unfold crD
  simp
  have hs0 : smallI (row.length : Int) := by unfold smallI; omega
  have hs1 : smallI ((row.length : Int) + step) := by unfold smallI; omega
  refine St_forR1 (j := (row.length : Int)) (m1 := m) (by simp) hs0 (fun i e mm => mm = m ∧ (∃ x1, e = [some (.tup [.int st, il row, .int step, .int rise]), some (.int g), some (.int st), some (il row), some (.int step), some (.int rise), x1, none, none, none]) ∧ ∀ k, k < i → aL row step rise k ≠ g) ⟨rfl, ⟨none, rfl⟩, fun k h => by omega⟩ ?_ ?_
  · rintro i e mm hi ⟨rfl, ⟨x1, rfl⟩, hk⟩
    have hix : ixD (il row) (.int (i : Int)) mm = .ok (.int (aL row step rise i)) mm := ixl (c0.at_ i (by omega))
    simp [hix]
    split
    · rename_i e
      exact hP (some i) ⟨e, hk⟩
    · rename_i e
      intro k hk2
      by_cases h : k < i
      · exact hk k h
      · rw [show k = i by omega]; exact e
  rintro e mm ⟨rfl, ⟨x1, rfl⟩, hk⟩
  rw [Int.toNat_natCast] at hk
  simp
  refine St_forR2 (lo := (row.length : Int)) (j := (row.length : Int) + step) (m1 := mm) (by simp) hs0 hs1 (fun i e mm' => mm' = mm ∧ ∃ (o : Option Nat) (x1 x2 x3 : Option D), e = [some (.tup [.int st, il row, .int step, .int rise]), some (.int g), some (.int st), some (il row), some (.int step), some (.int rise), x1, some (oN o), x2, x3] ∧
    (∀ b, o = some b → aL row step rise b = g) ∧ ∀ k0 t : Nat, row.length ≤ k0 → k0 < row.length + i → aL row step rise (k0 + t * step) = g → ∃ b, o = some b ∧ b ≤ k0 + t * step) ⟨rfl, ⟨none, x1, none, none, rfl, fun b h => (by cases h), fun k0 t g1 g2 => (by omega)⟩⟩ ?_ ?_
  · rintro i e mm' hi ⟨rfl, o, y1, y2, y3, rfl, g1, g2⟩
    obtain ⟨k1, hk1⟩ : ∃ k1, k1 = row.length + i := ⟨_, rfl⟩
    have hk1' : (row.length : Int) + i = (k1 : Int) := by omega
    have hv := value_eq (m := mm') (st := st) h1 h2 (by omega) hr k1 (lt900 (by omega))
    unfold crD at hv
    have hit : ∀ t : Nat, aL row step rise (k1 + t * step) = aL row step rise k1 + (t : Int) * rise := c0.iter (by omega)
    simp [hk1', hv]
    -- what is found at this place
    have hdm := Int.mul_fdiv_add_fmod (g - aL row step rise k1) rise
    have skip : (∀ t : Nat, aL row step rise (k1 + t * step) ≠ g) → (∀ b, o = some b → aL row step rise b = g) ∧ ∀ k0 t : Nat, row.length ≤ k0 → k0 < row.length + (i + 1) → aL row step rise (k0 + t * step) = g → ∃ b, o = some b ∧ b ≤ k0 + t * step := fun hno => ⟨g1, fun k0 t q1 q2 q3 => by
      by_cases h : k0 < row.length + i
      · exact g2 k0 t q1 h q3
      · rw [show k0 = k1 by omega] at q3
        exact absurd q3 (hno t)⟩
    have take : ∀ b : Nat, aL row step rise b = g → (∀ t : Nat, aL row step rise (k1 + t * step) = g → b ≤ k1 + t * step) → ∀ o', (o = none ∨ (∃ b', o = some b' ∧ b < b')) ∧ o' = some b ∨ (∃ b', o = some b' ∧ b' ≤ b) ∧ o' = o →
        (∀ b, o' = some b → aL row step rise b = g) ∧ ∀ k0 t : Nat, row.length ≤ k0 → k0 < row.length + (i + 1) → aL row step rise (k0 + t * step) = g → ∃ b, o' = some b ∧ b ≤ k0 + t * step := fun b hb hmin o' ho => by
      rcases ho with ⟨ho, rfl⟩ | ⟨⟨b', ho, hle⟩, rfl⟩
      · refine ⟨fun x hx => by cases hx; exact hb, fun k0 t q1 q2 q3 => ⟨b, rfl, ?_⟩⟩
        by_cases h : k0 < row.length + i
        · obtain ⟨b2, e1, e2⟩ := g2 k0 t q1 h q3
          rcases ho with ho | ⟨b', ho, hlt⟩
          · rw [ho] at e1; cases e1
          · rw [ho] at e1; cases e1; omega
        · rw [show k0 = k1 by omega] at q3 ⊢
          exact hmin t q3
      · refine ⟨g1, fun k0 t q1 q2 q3 => ?_⟩
        by_cases h : k0 < row.length + i
        · exact g2 k0 t q1 h q3
        · rw [show k0 = k1 by omega] at q3 ⊢
          exact ⟨b', ho, Nat.le_trans hle (hmin t q3)⟩
    have fin : ∀ b : Nat, aL row step rise b = g → (∀ t : Nat, aL row step rise (k1 + t * step) = g → b ≤ k1 + t * step) →
        if isNonB (oN o) = true then ∃ o, D.int (b : Int) = oN o ∧ (∀ b, o = some b → aL row step rise b = g) ∧ ∀ k0 t : Nat, row.length ≤ k0 → k0 < row.length + (i + 1) → aL row step rise (k0 + t * step) = g → ∃ b, o = some b ∧ b ≤ k0 + t * step
        else Wp (ltD (D.int (b : Int)) (oN o) mm') (fun a m => Wp (match a with | D.bl b => R.ok b m | x => R.stuck) (fun c m1 => if c = true then m1 = mm' ∧ ∃ o, D.int (b : Int) = oN o ∧ (∀ b, o = some b → aL row step rise b = g) ∧ ∀ k0 t : Nat, row.length ≤ k0 → k0 < row.length + (i + 1) → aL row step rise (k0 + t * step) = g → ∃ b, o = some b ∧ b ≤ k0 + t * step
          else m1 = mm' ∧ ∃ o_1, oN o = oN o_1 ∧ (∀ b, o_1 = some b → aL row step rise b = g) ∧ ∀ k0 t : Nat, row.length ≤ k0 → k0 < row.length + (i + 1) → aL row step rise (k0 + t * step) = g → ∃ b, o_1 = some b ∧ b ≤ k0 + t * step) fun c d m => E c d m) fun c d m => E c d m := fun b hb hmin => by
      have tk := take b hb hmin
      cases ho : o with
      | none => exact ⟨some b, rfl, tk (some b) (.inl ⟨.inl ho, rfl⟩)⟩
      | some b' =>
        rw [if_neg (by simp [oN])]
        simp only [oN, lt_ii, sWp_ok]
        by_cases hlt : b < b'
        · rw [if_pos (by simp; omega)]
          exact ⟨trivial, some b, rfl, tk (some b) (.inl ⟨.inr ⟨b', ho, hlt⟩, rfl⟩)⟩
        · rw [if_neg (by simp; omega)]
          refine ⟨trivial, some b', rfl, ?_⟩
          have := tk o (.inr ⟨⟨b', ho, by omega⟩, rfl⟩)
          rwa [ho] at this
    by_cases hz : g - aL row step rise k1 = 0
    · simp only [hz, if_true]
      exact fin k1 (by omega) fun t _ => Nat.le_add_right _ _
    · simp only [hz, if_false]
      have hmz : ∀ t : Nat, aL row step rise (k1 + t * step) = g → g - aL row step rise k1 = rise * (t : Int) := fun t e => by
        rw [hit] at e; rw [Int.mul_comm]; omega
      by_cases hr0 : rise = 0
      · rw [if_pos hr0]
        exact ⟨o, rfl, skip fun t e => hz (by rw [hmz t e, hr0]; simp)⟩
      · have hdv : DivOk rise := ⟨hr0, hr⟩
        have hsm : ∀ z : Int, MulOk z step := fun z => .inr (.inl (sml_of (by omega)))
        simp only [hr0, hdv, hsm, if_false, not_false_eq_true, true_and]
        by_cases hf : (g - aL row step rise k1).fmod rise = 0
        · rw [if_pos hf]
          rw [hf] at hdm
          by_cases hpos : 0 < (g - aL row step rise k1).fdiv rise
          · rw [if_pos hpos]
            obtain ⟨T, hT⟩ : ∃ T : Nat, (g - aL row step rise k1).fdiv rise = (T : Int) := ⟨_, (Int.toNat_of_nonneg (by omega)).symm⟩
            rw [hT] at hdm ⊢
            have := fin (k1 + T * step) (by rw [hit, Int.mul_comm]; omega) fun t e => by
              have e2 := hmz t e
              have : (T : Int) = t := by
                rw [← hT, e2, Int.mul_fdiv_cancel_left _ hr0]
              have : T = t := by omega
              rw [this]; exact Nat.le_refl _
            rw [show ((k1 + T * step : Nat) : Int) = (k1 : Int) + (T : Int) * (step : Int) by simp] at this
            exact this
          · rw [if_neg hpos]
            refine ⟨o, rfl, skip fun t e => ?_⟩
            have e2 := hmz t e
            rw [e2, Int.mul_fdiv_cancel_left _ hr0] at hpos
            have ht : t = 0 := by omega
            subst ht
            exact hz (by rw [e2]; simp)
        · rw [if_neg hf]
          exact ⟨o, rfl, skip fun t e => hf (by rw [hmz t e]; exact Int.fmod_eq_zero_of_dvd ⟨_, rfl⟩)⟩
  · rintro e mm' ⟨rfl, o, y1, y2, y3, rfl, g1, g2⟩
    simp
    refine hP o ?_
    have hfar : ∀ k, aL row step rise k = g → ∃ b, o = some b ∧ b ≤ k := fun k e => by
      by_cases h : k < row.length
      · exact absurd e (hk k h)
      · have e0 := Nat.div_add_mod (k - row.length) step
        have e1 := Nat.mod_lt (k - row.length) (show 0 < step by omega)
        rw [Nat.mul_comm] at e0
        generalize (k - row.length) / step = q at *
        generalize (k - row.length) % step = z at *
        have e2 : row.length + z + q * step = k := by omega
        have := g2 (row.length + z) q (by omega) (by omega)
        rw [e2] at this
        exact this e
    cases o with
    | none => exact fun k e => by obtain ⟨b, hb, _⟩ := hfar k e; cases hb
    | some b => exact ⟨g1 b rfl, fun j hj e => by obtain ⟨b', hb, hle⟩ := hfar j e; cases hb; omega⟩
end
end SL
namespace SL
open PySem PySem.Spec PyProof.Rows L2
theorem kit_ii : kitB "int" "int" = some true := by decide
theorem kit_ib : kitB "int" "bool" = some false := by decide
theorem kit_bi : kitB "bool" "int" = some true := by decide
theorem kit_bb : kitB "bool" "bool" = some true := by decide
section
variable {P : D → Mu → Prop} {E : XP} {m : Mu} {row : List Int} {step : Nat} {rise st : Int}
@[simp] theorem tyOf_i {i : Int} : tyOfD m (.int i) = some "int" := rfl
@[simp] theorem tyOf_b {i : Bool} : tyOfD m (.bl i) = some "bool" := rfl
@[simp] theorem tyOf_s {i : Txt} : tyOfD m (.str i) = some "str" := rfl
@[simp] theorem tyOf_t {i : List D} : tyOfD m (.tup i) = some "tuple" := rfl
@[simp] theorem tyOf_l {i : List D} : tyOfD m (.lst i) = some "list" := rfl
@[simp] theorem tyOf_il {i : List Int} : tyOfD m (il i) = some "list" := rfl
theorem Wp_const {α : Type} {r : R α} {X : Prop} (h : Wp r (fun _ _ => X) NoX) : X := by
  cases r with
  | ok a m => exact h.h
  | exc c d m => exact h.h.elim
  | stuck => exact h.h.elim
theorem dicho {a : Nat → Int} {told : List Int} {p : Nat} {r : Int} (c0 : CSeq a told p r) (hL : told.length < 1000) (hr : Mid r) (g : Int) : (r < 0 ∨ (r = 0 ∧ Low a told p g)) ∨ ∃ n, ∀ k, n ≤ k → g < a k :=
  Wp_const (outlast_wp (m := []) (st := 0) (E := NoX) (P := fun _ _ => (r < 0 ∨ (r = 0 ∧ Low a told p g)) ∨ ∃ n, ∀ k, n ≤ k → g < a k) c0 hL hr g (fun h => .inl h) fun _ n h _ => .inr ⟨n, h⟩)
theorem infin {a : Nat → Int} {told : List Int} {p : Nat} {r : Int} (c0 : CSeq a told p r) (g : Int) (h : r < 0 ∨ (r = 0 ∧ Low a told p g)) (n : Nat) : ∃ k, n ≤ k ∧ a k ≤ g := by
  have hp := c0.pos
  have hle := c0.le
  have hmul : ∀ t : Nat, t ≤ t * p := fun t => Nat.le_mul_of_pos_right t hp
  rcases h with h | ⟨h, k0, h1, h2, h3⟩
  · have hit := c0.iter (k := told.length - p) (by omega) (n + (a (told.length - p) - g).toNat)
    refine ⟨told.length - p + (n + (a (told.length - p) - g).toNat) * p, ?_, ?_⟩
    · have := hmul (n + (a (told.length - p) - g).toNat)
      omega
    · rw [hit]
      have : ((n + (a (told.length - p) - g).toNat : Nat) : Int) * r ≤ ((n + (a (told.length - p) - g).toNat : Nat) : Int) * (-1) := Int.mul_le_mul_of_nonneg_left (by omega) (by omega)
      omega
  · have hit := c0.iter (k := k0) h1 n
    exact ⟨k0 + n * p, by have := hmul n; omega, by rw [hit, h]; simpa using h3⟩
theorem all_bls (bs : List Bool) : allD [.lst (bs.map D.bl)] m = .ok (.bl (bs.all fun b => b)) m := by
  show (match (listOf m (.lst (bs.map D.bl))).bind blsL with
    | some bs => R.ok (D.bl (bs.all fun b => b)) m
    | none => .stuck) = _
  rw [listOf_l, Option.bind_some, blsL_map]
theorem all_true {α : Type} (xs : List α) : allD [.lst (xs.map fun _ => .bl true)] m = .ok (.bl true) m := by
  have := all_bls (m := m) (xs.map fun _ => true)
  rw [List.map_map] at this
  rw [show (fun _ => D.bl true : α → D) = D.bl ∘ (fun _ => true) from rfl, this]
  simp
theorem cond_skip {n : Nat} {g : Int} {S : Mu → Prop} (h1 : 1 ≤ step) (h2 : step ≤ row.length) (hL : row.length < 300) (hr : Mid rise) (hle : n = 0 ∨ aL row step rise (n - 1) ≤ g) (hn : (n : Int) < 10 ^ 800) (h : S m) :
    (if st < st + (n : Int) then Wp (d_law_value [.tup [.int st, il row, .int step, .int rise], .int (st + (n : Int) - st - 1)] m) (fun a m => Wp (gtD a (.int g) m) (fun a m => Wp (match a with
      | .bl b => R.ok b m
      | _ => .stuck) (fun c m1 => if c = true then P (.bl false) m1 else S m1) fun c d m => E c d m) fun c d m => E c d m) fun c d m => E c d m else S m) := by
  by_cases h0 : n = 0
  · subst h0; rw [if_neg (by omega)]; exact h
  · rw [if_pos (by omega)]
    have hv := value_eq (m := m) (st := st) h1 h2 (by omega) hr (n - 1) (by
      have : (10 : Int) ^ 800 < 10 ^ 900 := by decide +kernel
      omega)
    unfold crD at hv
    rw [show st + (n : Int) - st - 1 = ((n - 1 : Nat) : Int) by omega, hv]
    have : ¬ g < aL row step rise (n - 1) := by
      rcases hle with q | q
      · exact absurd q h0
      · omega
    simp [this]
    exact h
theorem outlasts_wp (h1 : 1 ≤ step) (h2 : step ≤ row.length) (hL : row.length < 300) (hr : Mid rise) (g : Int) (told : D)
    (ht : (told = .non ∧ ∀ n, ∃ k, n ≤ k ∧ aL row step rise k ≤ g) ∨ ∃ n : Nat, told = .int (st + (n : Int)) ∧ (∀ k, n ≤ k → g < aL row step rise k) ∧ (n = 0 ∨ aL row step rise (n - 1) ≤ g) ∧ (n : Int) < 10 ^ 800)
    (hP : P (.bl true) m) : Wp (d_law_outlasts [crD st row step rise, .int g, told] m) P E := by
  have c0 := aL_seq (rise := rise) h1 h2
  have hd := dicho c0 (by omega) hr g
  have hne : row.drop (row.length - step) ≠ [] := fun h => by
    have := congrArg List.length h
    simp at this; omega
  have hcut : cutDs row (some ((row.length : Int) - step)) none = row.drop (row.length - step) := by
    rw [show (row.length : Int) - step = ((row.length - step : Nat) : Int) by omega, cut_drop]
  rw [d_law_outlasts, Wp_fun]
  unfold crD
  simp [hcut, min_il hne]
  rcases ht with ⟨rfl, hinf⟩ | ⟨n, rfl, hgt, hle, hn⟩
  · have hN : rise < 0 ∨ (rise = 0 ∧ Low (aL row step rise) row step g) := by
      rcases hd with hd | ⟨n, hn⟩
      · exact hd
      · obtain ⟨k, q1, q2⟩ := hinf n
        have := hn k q1; omega
    rcases hN with h | ⟨h, h'⟩
    · simpa [h] using hP
    · have h0 := (low_iff c0 g).mpr h'
      simpa [h, h0] using hP
  · have hno : ¬ (rise < 0 ∨ (rise = 0 ∧ Low (aL row step rise) row step g)) := fun h => by
      obtain ⟨k, q1, q2⟩ := infin c0 g h n
      have := hgt k q1; omega
    have q1 : ¬ rise < 0 := fun h => hno (.inl h)
    have hgo : ∀ X' Y : Prop, (if rise = 0 then (if minI (row.drop (row.length - step)) ≤ g then X' else Y) else Y) = Y := fun X' Y => by
      by_cases h0 : rise = 0
      · rw [if_pos h0, if_neg fun h => hno (.inr ⟨h0, (low_iff c0 g).mp h⟩)]
      · rw [if_neg h0]
    rw [if_neg q1, hgo]
    simp [kit_ii, kit_ib]
    rw [if_neg (by omega)]
    refine cond_skip h1 h2 hL hr hle hn ?_
    have hsm : MulOk 2 (step : Int) := .inl (by unfold Sml; decide)
    have hs : smallI ((row.length : Int) + 2 * step) := by unfold smallI; omega
    refine St_forR1 (j := (row.length : Int) + 2 * step) (m1 := m) (by simp [hsm]) hs (fun i e mm => mm = m ∧ ∃ x1, e = [some (.tup [.int st, il row, .int step, .int rise]), some (.int g), some (.int (st + (n : Int))), some (.int st), some (il row), some (.int step), some (.int rise), some (il (row.drop (row.length - step))), x1]) ⟨rfl, none, rfl⟩ ?_ ?_
    · rintro i e mm hi ⟨rfl, x1, rfl⟩
      have hv := value_eq (m := mm) (st := st) h1 h2 (by omega) hr i (lt900 (by omega))
      unfold crD at hv
      simp [hv]
      intro hge
      have := hgt i (by omega)
      exact fun q => absurd q (by omega)
    · rintro e mm ⟨rfl, x1, rfl⟩
      have hv : ∀ (k : Nat) (mm : Mu), k < 2 * step → d_law_value [crD st row step rise, .int ((n + k : Nat) : Int)] mm = .ok (.int (aL row step rise (n + k))) mm := fun k mm hk => value_eq h1 h2 (by omega) hr (n + k) (by
        have : (10 : Int) ^ 800 + 1000 < 10 ^ 900 := by decide +kernel
        omega)
      have hc := lcR_pure (e := [some (.tup [.int st, il row, .int step, .int rise]), some (.int g), some (.int (st + (n : Int))), some (.int st), some (il row), some (.int step), some (.int rise), some (il (row.drop (row.length - step))), x1]) (m := mm) (i := 8) (vs := [8])
        (h := mCons (mBin (mulD false) (mC (D.int 2)) (mVar 5)) mNil) (j := 2 * step) (fe := mBin gtD (mCall d_law_value (mCons (mVar 0) (mCons (mBin (addD false) (mBin subD (mVar 2) (mVar 3)) (mVar 8)) mNil))) (mVar 1)) (fun _ => .bl true) (by simp [hsm]) (by omega) (by omega) (by simp) (fun k acc hk => ?_) (fun k hk => trivial)
      · simp only [show mFrz _ _ _ = _ from hc]
        rw [sWp_ok, all_true, sWp_ok]
        exact hP
      · have := hv k (mm ++ [.lst acc]) (by omega)
        unfold crD at this
        rw [Int.natCast_add] at this
        have hg2 := hgt (n + k) (by omega)
        simp [wip, show st + (n : Int) - st + k = n + k by omega, this, hg2]
end
end SL
namespace SL
open PySem PySem.Spec PyProof.Rows L2
theorem kit_si : kitB "str" "int" = some false := by decide
theorem kit_sb : kitB "str" "bool" = some false := by decide
theorem kit_ss : kitB "str" "str" = some true := by decide
theorem kit_ti : kitB "tuple" "int" = some false := by decide
theorem kit_tb : kitB "tuple" "bool" = some false := by decide
theorem kit_ts : kitB "tuple" "str" = some false := by decide
theorem kit_tl : kitB "tuple" "list" = some false := by decide
theorem kit_tt : kitB "tuple" "tuple" = some true := by decide
theorem kit_li : kitB "list" "int" = some false := by decide
theorem kit_lb : kitB "list" "bool" = some false := by decide
theorem kit_ls : kitB "list" "str" = some false := by decide
theorem kit_lt : kitB "list" "tuple" = some false := by decide
theorem kit_ll : kitB "list" "list" = some true := by decide
/-- plain values -/
def PV : Nat → D → Prop
  | 0, _ => False
  | n + 1, d => match d with
    | .non => True
    | .int _ => True
    | .bl _ => True
    | .str _ => True
    | .tup ds => ds.length ≤ 1000000 ∧ ∀ d ∈ ds, PV n d
    | .lst ds => ds.length ≤ 1000000 ∧ ∀ d ∈ ds, PV n d
    | _ => False
theorem at_nat {xs : List D} {k : Nat} {x : D} {m : Mu} (h : xs[k]? = some x) : ixD (.lst xs) (.int (k : Int)) m = .ok x m := ix_l (atI_nat h)
theorem at_natT {xs : List D} {k : Nat} {x : D} {m : Mu} (h : xs[k]? = some x) : ixD (.tup xs) (.int (k : Int)) m = .ok x m := ix_t (atI_nat h)
theorem same_refl : ∀ (n : Nat) (d : D) (m : Mu), PV n d → d_law_same_n n [d, d] m = .ok (.bl true) m
  | 0, _, _, h => h.elim
  | n + 1, d, m, h => by
    rw [ok_iff]
    show Wp (e_law_same (d_law_same_n n) [d, d] m) _ _
    unfold e_law_same
    rw [Wp_fun]
    have comp : ∀ (ds : List D) (x : D), (∀ (k : Nat) (y : D) (m : Mu), ds[k]? = some y → ixD x (.int (k : Int)) m = .ok y m) → lenD [x] m = .ok (.int ds.length) m → ds.length ≤ 1000000 → (∀ d ∈ ds, PV n d) →
        mFrz (mLc (mRange1 (mCons (mCall lenD (mCons (mVar 1) mNil)) mNil)) (CT.one 2) mYes (mCall (d_law_same_n n) (mCons (mBin ixD (mVar 0) (mVar 2)) (mCons (mBin ixD (mVar 1) (mVar 2)) mNil))) [2]) [some x, some x, none] m = .ok (.lst ((List.range (ds.length : Int).toNat).map fun _ => .bl true)) m := fun ds x hx hl hn hd => by
      refine lcR_pure (fun _ => .bl true) (by simp [hl]) (by omega) (by omega) (by simp) (fun k acc hk => ?_) (fun k hk => trivial)
      have hk2 : k < ds.length := by omega
      have h1 := hx k ds[k] (m ++ [.lst acc]) (List.getElem?_eq_getElem hk2)
      have h2 := same_refl n ds[k] (m ++ [.lst acc]) (hd _ (List.getElem_mem hk2))
      simp [wip, h1, h2]
    cases d with
    | non => simp
    | int i => simp [kit_ii, kit_ib]
    | bl b => simp [kit_bb]
    | str s => simp [kit_si, kit_sb, kit_ss]
    | tup ds =>
      obtain ⟨h1, h2⟩ := h
      have hc := comp ds (.tup ds) (fun k y m h => at_natT h) len_t h1 h2
      simp [kit_ti, kit_tb, kit_ts, kit_tl, kit_tt]
      simp only [show mFrz _ _ _ = _ from hc]
      rw [sWp_ok, all_true, sWp_ok]
      exact ⟨rfl, rfl⟩
    | lst ds =>
      obtain ⟨h1, h2⟩ := h
      have hc := comp ds (.lst ds) (fun k y m h => at_nat h) len_l h1 h2
      simp [kit_li, kit_lb, kit_ls, kit_lt, kit_ll]
      simp only [show mFrz _ _ _ = _ from hc]
      rw [sWp_ok, all_true, sWp_ok]
      exact ⟨rfl, rfl⟩
    | _ => exact h.elim
theorem PV.mono : ∀ {n : Nat} {d : D}, PV n d → PV (n + 1) d
  | n + 1, d, h => by
    cases d with
    | tup ds => exact ⟨h.1, fun d hd => PV.mono (h.2 d hd)⟩
    | lst ds => exact ⟨h.1, fun d hd => PV.mono (h.2 d hd)⟩
    | _ => exact h
theorem PV.le {n k : Nat} {d : D} (h : PV n d) (hk : n ≤ k) : PV k d := by
  induction hk with
  | refl => exact h
  | step _ ih => exact ih.mono
theorem pv_il {ns : List Int} (h : ns.length ≤ 1000000) : PV 2 (il ns) := ⟨by simpa using h, fun d hd => by
  obtain ⟨i, _, rfl⟩ := List.mem_map.mp hd
  trivial⟩
theorem same_ok {d : D} {m : Mu} {n : Nat} (h : PV n d) (hn : n ≤ 12) : d_law_same [d, d] m = .ok (.bl true) m := same_refl 12 d m (h.le hn)
end SL
namespace SL
open PySem PySem.Spec PyProof.Rows L2
section
variable {P : D → Mu → Prop} {E : XP} {m : Mu}
theorem ix2i (a b v : Int) (h0 : 0 ≤ v) (h1 : v < 2) : ∃ z, (z = a ∨ z = b) ∧ ∀ m : Mu, ixD (.lst [.int a, .int b]) (.int v) m = .ok (.int z) m := by
  rcases (show v = 0 ∨ v = 1 by omega) with rfl | rfl
  · exact ⟨a, .inl rfl, fun m => ix_l rfl⟩
  · exact ⟨b, .inr rfl, fun m => ix_l rfl⟩
theorem ix3i (a b c v : Int) (h0 : 0 ≤ v) (h1 : v < 3) : ∃ z, (z = a ∨ z = b ∨ z = c) ∧ ∀ m : Mu, ixD (.lst [.int a, .int b, .int c]) (.int v) m = .ok (.int z) m := by
  rcases (show v = 0 ∨ v = 1 ∨ v = 2 by omega) with rfl | rfl | rfl
  · exact ⟨a, .inl rfl, fun m => ix_l rfl⟩
  · exact ⟨b, .inr (.inl rfl), fun m => ix_l rfl⟩
  · exact ⟨c, .inr (.inr rfl), fun m => ix_l rfl⟩
theorem ix4i (a b c d v : Int) (h0 : 0 ≤ v) (h1 : v < 4) : ∃ z, (z = a ∨ z = b ∨ z = c ∨ z = d) ∧ ∀ m : Mu, ixD (.lst [.int a, .int b, .int c, .int d]) (.int v) m = .ok (.int z) m := by
  rcases (show v = 0 ∨ v = 1 ∨ v = 2 ∨ v = 3 by omega) with rfl | rfl | rfl | rfl
  · exact ⟨a, .inl rfl, fun m => ix_l rfl⟩
  · exact ⟨b, .inr (.inl rfl), fun m => ix_l rfl⟩
  · exact ⟨c, .inr (.inr (.inl rfl)), fun m => ix_l rfl⟩
  · exact ⟨d, .inr (.inr (.inr rfl)), fun m => ix_l rfl⟩
theorem mid36 {z : Int} (h : -(10 ^ 40) ≤ z ∧ z ≤ 10 ^ 40) : Mid z := mid_of (by
  have : (10 : Int) ^ 40 ≤ 10 ^ 1000 := by decide +kernel
  omega)
theorem noEsc_set {i : Nat} {ns : List Int} : NoEsc m (m.set i (.lst (ns.map D.int))) := ⟨by simp, fun j o hj h => by
  by_cases hij : i = j
  · subst hij
    rw [List.getElem?_set_self hj] at h
    cases h
    exact .inr (LocBs.of fun d hd => by
      obtain ⟨x, _, rfl⟩ := List.mem_map.mp hd
      trivial)
  · rw [List.getElem?_set_ne hij] at h
    exact .inl h⟩
theorem lc_well {h : AF} {fe : EF} {vs : List Nat} {x i : Nat} {j n : Int} {lo hi : Int} {e : En} (hm : m[i]? = some (.lst [.int n])) (hh : h e m = .ok [.int j] m) (hj0 : 0 ≤ j) (hj : j ≤ 1000) (hx : x < e.length)
    (hs : ∀ (k : Nat) (acc : List D) (n' : Int), (k : Int) < j → Wp (fe ((wip e vs).set x (some (.int k))) (m.set i (.lst [.int n']) ++ [.lst acc])) (fun y m3 => ∃ z n'', y = .int z ∧ lo ≤ z ∧ z ≤ hi ∧ m3 = m.set i (.lst [.int n'']) ++ [.lst acc]) NoX)
    (hP : ∀ (ns : List Int) (n' : Int), (ns.length : Int) = j → (∀ z, z ∈ ns → lo ≤ z ∧ z ≤ hi) → P (il ns) (m.set i (.lst [.int n']))) : Wp (mFrz (mLc (mRange1 h) (.one x) mYes fe vs) e m) P E := by
  have hi' : i < m.length := (List.getElem?_eq_some_iff.mp hm).1
  have hf : mRange1 h e m = .ok (fun _ => some (rng 0 j.toNat)) m := by
    unfold mRange1
    rw [hh, bind_ok]
    dsimp only
    rw [if_pos (show smallI j by unfold smallI; omega)]
  have hself : m = m.set i (.lst [.int n]) := by
    apply List.ext_getElem?
    intro k
    by_cases hk : i = k
    · subst hk; rw [List.getElem?_set_self hi', hm]
    · rw [List.getElem?_set_ne hk]
  refine Wp_lcF hf rfl (fun k acc mb => ∃ ns n', acc = ns.map D.int ∧ ns.length = k ∧ (∀ z, z ∈ ns → lo ≤ z ∧ z ≤ hi) ∧ mb = m.set i (.lst [.int n'])) ⟨[], n, rfl, rfl, by simp, hself⟩ (fun k acc mb _ ⟨ns, n', _, _, _, e⟩ => ⟨by rw [e]; simp, fun _ => rfl⟩) rfl (fun k d acc mb hd hJ _ => ?_) (fun acc mb hJ => ?_)
  · obtain ⟨ns, n', rfl, hl, hz, rfl⟩ := hJ
    obtain ⟨h1, rfl⟩ := rng_get hd
    rw [Int.zero_add]
    refine ⟨by simp; omega, ?_⟩
    show St (mGName x (.int (k : Int)) (wip e vs) _) _
    rw [St_gname]
    refine ⟨by rw [wip_len]; exact hx, ?_⟩
    dsimp only
    rw [ev_yes, sWp_ok, if_pos rfl]
    refine Wp_mono (hs k _ n' (by omega)) fun y m3 ⟨z, n'', hy, g1, g2, g3⟩ => ?_
    subst hy
    refine ⟨_, g3, ns ++ [z], n'', by simp, by simp [hl], fun w hw => ?_, rfl⟩
    rcases List.mem_append.mp hw with hw | hw
    · exact hz w hw
    · rw [List.mem_singleton.mp hw]; exact ⟨g1, g2⟩
  · obtain ⟨ns, n', rfl, hl, hz, rfl⟩ := hJ
    rw [rng_len] at hl
    refine ⟨noEsc_set (ns := [n']), fun y hy => ?_, ?_⟩
    · obtain ⟨z, _, rfl⟩ := List.mem_map.mp hy
      trivial
    · exact hP ns n' (by omega) hz
/-- [.. for k in range(..)]: only the range's end has an effect -/
theorem lcR_eff {h : AF} {fe : EF} {vs : List Nat} {x : Nat} {e : En} {f : Nat → Int} (hx : x < e.length)
    (hh : Wp (h e m) (fun ds m1 => ∃ j : Int, ds = [.int j] ∧ 0 ≤ j ∧ j ≤ 1000 ∧ m1.length = m.length ∧ NoEsc m m1 ∧ (∀ (k : Nat) (acc : List D), (k : Int) < j → fe ((wip e vs).set x (some (.int k))) (m1 ++ [.lst acc]) = .ok (.int (f k)) (m1 ++ [.lst acc])) ∧ P (il ((List.range j.toNat).map f)) m1) NoX) : Wp (mFrz (mLc (mRange1 h) (.one x) mYes fe vs) e m) P E := by
  cases hhe : h e m with
  | exc c d m1 => rw [hhe] at hh; exact hh.h.elim
  | stuck => rw [hhe] at hh; exact hh.h.elim
  | ok ds m1 =>
    rw [hhe] at hh
    obtain ⟨j, rfl, hj0, hj, hl, hne, hs, hp⟩ := hh.h
    have hf : mRange1 h e m = .ok (fun _ => some (rng 0 j.toNat)) m1 := by
      unfold mRange1
      rw [hhe, bind_ok]
      dsimp only
      rw [if_pos (show smallI j by unfold smallI; omega)]
    refine Wp_lcF hf hl (fun k acc mb => acc = ((List.range k).map f).map D.int ∧ mb = m1) ⟨rfl, rfl⟩ (fun k acc mb _ ⟨_, e⟩ => ⟨by rw [e, hl], fun _ => rfl⟩) rfl (fun k d acc mb hd hJ _ => ?_) (fun acc mb hJ => ?_)
    · obtain ⟨rfl, rfl⟩ := hJ
      obtain ⟨h1, rfl⟩ := rng_get hd
      rw [Int.zero_add]
      refine ⟨by simp; omega, ?_⟩
      show St (mGName x (.int (k : Int)) (wip e vs) _) _
      rw [St_gname]
      refine ⟨by rw [wip_len]; exact hx, ?_⟩
      dsimp only
      rw [ev_yes, sWp_ok, if_pos rfl, hs k _ (by omega), sWp_ok]
      exact ⟨mb, rfl, by rw [List.range_succ, List.map_append, List.map_append]; rfl, rfl⟩
    · obtain ⟨rfl, rfl⟩ := hJ
      rw [rng_len]
      exact ⟨hne, fun y hy => by obtain ⟨z, _, rfl⟩ := List.mem_map.mp hy; trivial, hp⟩
theorem course_wp {i : Nat} {n : Int} (hm : m[i]? = some (.lst [.int n]))
    (hP : ∀ (st : Int) (row : List Int) (step : Nat) (rise n' : Int), 1 ≤ st → st ≤ 10 ^ 31 → 1 ≤ step → step ≤ 60 → step ≤ row.length → row.length < 130 → (∀ x, x ∈ row → -(10 ^ 37) ≤ x ∧ x ≤ 10 ^ 37) → -(10 ^ 38) ≤ rise → rise ≤ 10 ^ 38 → P (crD st row step rise) (m.set i (.lst [.int n']))) :
    Wp (d_law_course [.loc i, .int 60] m) P E := by
  have hi : i < m.length := (List.getElem?_eq_some_iff.mp hm).1
  have hset : ∀ x : MO, (m.set i x)[i]? = some x := fun x => List.getElem?_set_self hi
  have p36 : (10 : Int) ^ (36 : Int).toNat = 10 ^ 36 := rfl
  have p30 : (10 : Int) ^ (30 : Int).toNat = 10 ^ 30 := rfl
  rw [d_law_course, Wp_fun]
  simp
  refine pick_wp hm (by omega) (mid36 (by omega)) fun v1 n1 a1 b1 => ?_
  simp
  refine pick_wp (hset _) (by omega) (mid36 (by omega)) fun v2 n2 a2 b2 => ?_
  rw [List.set_set]
  obtain ⟨size, hs, hsx⟩ := ix3i 3 1000 1000000000000000000000000000000000000 v2 a2 b2
  have hsz : 3 ≤ size ∧ size ≤ 10 ^ 36 := by
    rcases hs with rfl | rfl | rfl <;> decide
  simp [hsx]
  refine pick_wp (hset _) (by omega) (mid36 (by omega)) fun v3 n3 a3 b3 => ?_
  rw [List.set_set]
  obtain ⟨w1, hw1, hwx1⟩ := ix3i 0 1 2 v3 a3 b3
  simp only [hwx1, sWp_ok]
  refine pick_wp (hset _) (by omega) (mid36 (by omega)) fun v4 n4 a4 b4 => ?_
  rw [List.set_set]
  have hm1 : MulOk w1 (1 + v4) := .inl (sml_of (by omega))
  simp only [add_ii, sWp_ok, mul_ii, hm1, if_true]
  refine pick_wp (hset _) (by omega) (mid36 (by omega)) fun v5 n5 a5 b5 => ?_
  rw [List.set_set]
  refine pick_wp (hset _) (by omega) (mid36 (by omega)) fun v6 n6 a6 b6 => ?_
  rw [List.set_set]
  have hm2 : MulOk v5 v6 := .inl (sml_of (by omega))
  simp only [sub_ii, sWp_ok, mul_ii, hm2, if_true]
  have hr : -(10 ^ 38) ≤ w1 * (1 + v4) - v5 * v6 ∧ w1 * (1 + v4) - v5 * v6 ≤ 10 ^ 38 := by
    have h1 : 0 ≤ w1 * (1 + v4) := Int.mul_nonneg (by omega) (by omega)
    have h2 : w1 * (1 + v4) ≤ 2 * (10 ^ 36) := Int.mul_le_mul (by omega) (by omega) (by omega) (by decide)
    have h3 : 0 ≤ v5 * v6 := Int.mul_nonneg (by omega) (by omega)
    have h4 : v5 * v6 ≤ 1 * (10 ^ 36) := Int.mul_le_mul (by omega) (by omega) (by omega) (by decide)
    omega
  generalize w1 * (1 + v4) - v5 * v6 = rise at hr ⊢
  refine pick_wp (hset _) (by omega) (mid36 (by omega)) fun v7 n7 a7 b7 => ?_
  rw [List.set_set]
  obtain ⟨w2, hw2, hwx2⟩ := ix3i 1 6 999999999999999999999999999800 v7 a7 b7
  simp only [hwx2, sWp_ok]
  refine pick_wp (hset _) (by omega) (mid36 (by omega)) fun v8 n8 a8 b8 => ?_
  rw [List.set_set]
  simp only [add_ii, sWp_ok]
  obtain ⟨w3, hw3, hwx3⟩ := ix2i 4 60 (if v1 = 5 then 1 else 0) (by split <;> decide) (by split <;> decide)
  simp only [hwx3, sWp_ok]
  refine pick_wp (hset _) (by omega) (mid36 (by omega)) fun v9 n9 a9 b9 => ?_
  rw [List.set_set]
  simp only [add_ii, sWp_ok]
  have hsm : ∀ z : Int, MulOk 2 z := fun z => .inl (by unfold Sml; decide)
  refine lc_well (lo := -(10 ^ 36)) (hi := 10 ^ 36) (hset _) (j := 7) rfl (by decide) (by decide) (by simp) (fun k acc n' hk => ?_) fun some_ n10 hl10 hb10 => ?_
  · simp [wip, hsm, List.set_set]
    refine pick_wp (n := n') (by rw [List.getElem?_append_left (by simpa using hi), List.getElem?_set_self hi]) (by omega) (mid36 (by omega)) fun v n'' a b => ?_
    simp
    refine ⟨by omega, by omega, n'', ?_⟩
    rw [List.set_append_left _ _ (by simpa using hi), List.set_set]
  rw [List.set_set]
  have hsv : ∀ (t : Nat) (mm : Mu), t < 7 → ixD (il some_) (.int (t : Int)) mm = .ok (.int ((some_[t]?).getD 0)) mm := fun t mm ht => by
    refine ixl ?_
    rw [List.getElem?_eq_getElem (by omega)]; rfl
  have hsb : ∀ t : Nat, -(10 ^ 37) ≤ (some_[t]?).getD 0 ∧ (some_[t]?).getD 0 ≤ 10 ^ 37 := fun t => by
    by_cases ht : t < some_.length
    · rw [List.getElem?_eq_getElem ht]
      have := hb10 _ (List.getElem_mem ht)
      show -(10 ^ 37) ≤ some_[t] ∧ some_[t] ≤ 10 ^ 37
      omega
    · rw [List.getElem?_eq_none (by omega)]; decide
  have hmk : ∀ k : Nat, k < 1000 → MulOk (k : Int) (k : Int) := fun k hk => .inl (sml_of (by omega))
  refine lcR_eff (f := fun k => (some_[(k * k + 3) % 7]?).getD 0) (by simp) ?_
  obtain ⟨w4, hw4, hwx4⟩ := ix2i 5 60 (if v1 = 5 then 1 else 0) (by split <;> decide) (by split <;> decide)
  simp [hwx4]
  refine pick_wp (hset _) (by omega) (mid36 (by omega)) fun v10 n11 a10 b10 => ?_
  rw [List.set_set]
  have hne : NoEsc (m.set i (.lst [.int n10])) (m.set i (.lst [.int n11])) := by
    have := noEsc_set (m := m.set i (.lst [.int n10])) (i := i) (ns := [n11])
    rwa [List.set_set] at this
  refine ⟨v10, rfl, a10, by omega, by simp, hne, fun k acc hk => ?_, ?_⟩
  · have e1 : ((k : Int) * k + 3).fmod 7 = (((k * k + 3) % 7 : Nat) : Int) := by
      rw [← fmod_nat]; simp
    simp [wip, hmk k (by omega), e1]
    have := hsv ((k * k + 3) % 7) (m.set i (.lst [.int n11]) ++ [.lst acc]) (Nat.mod_lt _ (by omega))
    simpa using this
  have hc := lcR_pure (m := m.set i (.lst [.int n11])) (e := [some (.loc i), some (.int 60), some (.lst [.int 3, .int 1000, .int 1000000000000000000000000000000000000]), some (.bl (decide (v1 = 5))), some (.int size), some (.int rise), some (.int (1 + v8)), some (.int (1 + v9)), some (il some_), none, some (il ((List.range v10.toNat).map fun k => (some_[(k * k + 3) % 7]?).getD 0))]) (i := 9) (vs := [9]) (h := mCons (mVar 7) mNil) (j := 1 + v9)
    (fe := mBin ixD (mVar 8) (mBin modD (mBin (addD false) (mBin (mulD false) (mVar 9) (mVar 9)) (mBin fdivD (mVar 9) (mC (D.int 3)))) (mC (D.int 7)))) (fun k => .int ((some_[(k * k + k / 3) % 7]?).getD 0)) (by simp) (by omega) (by omega) (by simp) (fun k acc hk => ?_) (fun k hk => trivial)
  · rw [show mFrz _ _ _ = _ from hc, sWp_ok, lst_range, add_il (by simp; omega), sWp_ok]
    have := hP (1 + v8) ((List.range v10.toNat).map (fun k => (some_[(k * k + 3) % 7]?).getD 0) ++ (List.range (1 + v9).toNat).map fun k => (some_[(k * k + k / 3) % 7]?).getD 0) (1 + v9).toNat rise n11 (by omega) (by omega) (by omega) (by omega) (by simp <;> omega) (by simp <;> omega) (fun x hx => ?_) hr.1 hr.2
    · unfold crD at this
      rw [Int.toNat_of_nonneg (by omega)] at this
      exact this
    · rcases List.mem_append.mp hx with hx | hx <;> (obtain ⟨k, _, rfl⟩ := List.mem_map.mp hx; exact hsb _)
  · have e2 : ((k : Int)).fdiv 3 = ((k / 3 : Nat) : Int) := fdiv_nat k 3
    have e1 : ((k : Int) * k + ((k / 3 : Nat) : Int)).fmod 7 = (((k * k + k / 3) % 7 : Nat) : Int) := by
      rw [← fmod_nat]; simp
    have hd3 : DivOk 3 := ⟨by decide, mid36 (by decide)⟩
    have := hsv ((k * k + k / 3) % 7) (m.set i (.lst [.int n11]) ++ [.lst acc]) (Nat.mod_lt _ (by omega))
    have e3 : ((k : Int) * k + (k : Int) / 3).fmod 7 = (((k * k + k / 3) % 7 : Nat) : Int) := by
      rw [← e1]; simp
    have e4 : ((k : Int)).fdiv 3 = (k : Int) / 3 := by rw [e2]; simp
    simp [wip, hmk k (by omega), hd3, e4, e3]
    simpa using this
end
end SL
namespace SL
open PySem PySem.Spec PyProof.Rows L2
theorem ex_of_wp {α : Type} {r : R α} {P : α → Mu → Prop} (h : Wp r P NoX) : ∃ v m', r = .ok v m' ∧ P v m' := by
  cases r with
  | ok a m => exact ⟨a, m, rfl, h.h⟩
  | exc c d m => exact h.h.elim
  | stuck => exact h.h.elim
theorem optV_id {κ : Type} {f : D → Option D} : ∀ {ds : List (κ × D)}, (∀ p ∈ ds, f p.2 = some p.2) → optV f ds = some ds
  | [], _ => rfl
  | (k, d) :: ds, h => by
    unfold optV
    rw [h (k, d) (List.mem_cons_self ..), optV_id fun x hx => h x (List.mem_cons_of_mem _ hx)]
theorem frz_loc_ins {m : Mu} {n i k c : Nat} {fs : List (Str × D)} (hi : n ≤ i) (hm : m[i]? = some (.ins c fs)) (h : ∀ p ∈ fs, LocB n p.2) : frz m n (k + 1) (.loc i) = some (.ins c fs) := by
  unfold frz
  rw [if_neg (show ¬ LocB n (.loc i) from fun z => by have z' : i < n := z; omega)]
  show (match m[i]? with | some (.lst ds) => (optL (frz m n k) ds).map D.lst | some (.dct ds) => (optV (frz m n k) ds).map D.dct | some (.dck ds) => (optV (frz m n k) ds).map D.dck | some (.ins c ds) => (optV (frz m n k) ds).map (D.ins c) | none => none) = _
  rw [hm]
  dsimp only
  rw [optV_id fun p hp => frz_of (h p hp) k]
  rfl
section
variable {P : D → Mu → Prop} {E : XP} {m : Mu} {a : Nat → Int} {row : List Int} {step : Nat} {rise st : Int} {e : En} {h : AF}
theorem make_crs (hh : h e m = .ok [.int st, il row, .int step, .int rise] m) (hst : 1 ≤ st) (c0 : CSeq a row step rise) (hL : row.length < 1000) (hP : ∀ c p r, CSeq a (row.take c) p r → c ≤ row.length → P (crs st (row.take c) p r) m) :
    Wp (mFrz (mMake 22 d_Course_init h) e m) P E := by
  refine Wp_cut ?_
  rw [ev_make, hh, bind_ok]
  have hm : (m ++ [MO.ins 22 []])[m.length]? = some (.ins 22 []) := by simp
  obtain ⟨v, m2, h1, rfl, c, p, r, h2, h3, rfl⟩ := ex_of_wp (init_wp (P := fun v m2 => v = .non ∧ ∃ c p r, CSeq a (row.take c) p r ∧ c ≤ row.length ∧ m2 = (m ++ [MO.ins 22 []]).set m.length (.ins 22 (fsC st (row.take c) p r))) hm hst c0 hL fun c p r g1 g2 => ⟨rfl, c, p, r, g1, g2, rfl⟩)
  rw [h1]
  dsimp only
  rw [sWp_ok]
  have e2 : (m ++ [MO.ins 22 []]).set m.length (.ins 22 (fsC st (row.take c) p r)) = m ++ [MO.ins 22 (fsC st (row.take c) p r)] := by simp
  rw [e2]
  refine ⟨noEsc_app, crs st (row.take c) p r, frz_loc_ins (Nat.le_refl _) (by simp) fun q hq => ?_, ?_⟩
  · simp only [fsC, List.mem_cons, List.mem_nil_iff, or_false] at hq
    rcases hq with rfl | rfl | rfl | rfl
    · trivial
    · exact locB_il _
    · trivial
    · trivial
  · simpa using hP c p r h2 h3
theorem p_least {told : List Int} {p : Nat} {r : Int} : d_Course_least [crs st told p r] m = .ok (.int st) m := by
  rw [ok_iff, d_Course_least, Wp_fun]; simp [lk1]
theorem p_numbers {told : List Int} {p : Nat} {r : Int} : d_Course_numbers [crs st told p r] m = .ok (il told) m := by
  rw [ok_iff, d_Course_numbers, Wp_fun]; simp [lk2]
theorem p_every {told : List Int} {p : Nat} {r : Int} : d_Course_every [crs st told p r] m = .ok (.int p) m := by
  rw [ok_iff, d_Course_every, Wp_fun]; simp [lk3]
theorem p_more {told : List Int} {p : Nat} {r : Int} : d_Course_more [crs st told p r] m = .ok (.int r) m := by
  rw [ok_iff, d_Course_more, Wp_fun]; simp [lk4]
theorem lkf1 {told : List Int} {p : Nat} {r : Int} : (fsC st told p r).lookup ("first_with" : Str) = none := by
  unfold fsC
  rw [List.lookup_cons, show (("first_with" : Str) == "start") = false by decide +kernel]; dsimp only
  rw [List.lookup_cons, show (("first_with" : Str) == "told") = false by decide +kernel]; dsimp only
  rw [List.lookup_cons, show (("first_with" : Str) == "period") = false by decide +kernel]; dsimp only
  rw [List.lookup_cons, show (("first_with" : Str) == "rise") = false by decide +kernel]; rfl
theorem lkf2 {told : List Int} {p : Nat} {r : Int} : (fsC st told p r).lookup ("outlast" : Str) = none := by
  unfold fsC
  rw [List.lookup_cons, show (("outlast" : Str) == "start") = false by decide +kernel]; dsimp only
  rw [List.lookup_cons, show (("outlast" : Str) == "told") = false by decide +kernel]; dsimp only
  rw [List.lookup_cons, show (("outlast" : Str) == "period") = false by decide +kernel]; dsimp only
  rw [List.lookup_cons, show (("outlast" : Str) == "rise") = false by decide +kernel]; rfl
theorem lkf1' {told : List Int} {p : Nat} {r : Int} : ∀ (a : Str) (b : D), (a, b) ∈ fsC st told p r → ¬ ("first_with" : Str) = a := fun a b h => by
  simp only [fsC, List.mem_cons, List.mem_nil_iff, or_false, Prod.mk.injEq] at h
  rcases h with ⟨rfl, _⟩ | ⟨rfl, _⟩ | ⟨rfl, _⟩ | ⟨rfl, _⟩ <;> decide +kernel
theorem lkf2' {told : List Int} {p : Nat} {r : Int} : ∀ (a : Str) (b : D), (a, b) ∈ fsC st told p r → ¬ ("outlast" : Str) = a := fun a b h => by
  simp only [fsC, List.mem_cons, List.mem_nil_iff, or_false, Prod.mk.injEq] at h
  rcases h with ⟨rfl, _⟩ | ⟨rfl, _⟩ | ⟨rfl, _⟩ | ⟨rfl, _⟩ <;> decide +kernel
theorem ixq0 {x y z w : D} : ixD (.lst [x, y, z, w]) (.int 0) m = .ok x m := ix_l rfl
theorem ixq1 {x y z w : D} : ixD (.lst [x, y, z, w]) (.int 1) m = .ok y m := ix_l rfl
theorem ixq2 {x y z w : D} : ixD (.lst [x, y, z, w]) (.int 2) m = .ok z m := ix_l rfl
theorem ixq3 {x y z w : D} : ixD (.lst [x, y, z, w]) (.int 3) m = .ok w m := ix_l rfl
theorem ne_self (o : Option Nat) : neD (oD st o) (oD st o) m = .ok (.bl false) m := by
  cases o with
  | none =>
    show bR ((eqB .non .non m).map (!·)) m = _
    have : eqB .non .non m = some true := by
      show (if SeqAt.shaped .none = true ∧ SeqAt.shaped .none = true then some (PyData.eqv .none .none) else none) = _
      have hs : SeqAt.shaped .none = true := by unfold SeqAt.shaped; simp [PyData.canLay0, PyData.depth]
      rw [if_pos ⟨hs, hs⟩]; simp [PyData.eqv]
    rw [this]; rfl
  | some k =>
    show neD (.int _) (.int _) m = _
    rw [ne_ii]; simp
theorem aL_bound (h1 : 1 ≤ step) (h2 : step ≤ row.length) (hb : ∀ x, x ∈ row → -(10 ^ 37) ≤ x ∧ x ≤ 10 ^ 37) (hr1 : -(10 ^ 38) ≤ rise) (hr2 : rise ≤ 10 ^ 38) (k : Nat) (hk : (k : Int) < 10 ^ 26) : -(10 ^ 65) ≤ aL row step rise k ∧ aL row step rise k ≤ 10 ^ 65 := by
  have hg : ∀ t : Nat, -(10 ^ 37) ≤ (row[t]?).getD 0 ∧ (row[t]?).getD 0 ≤ 10 ^ 37 := fun t => by
    by_cases ht : t < row.length
    · rw [List.getElem?_eq_getElem ht]; exact hb _ (List.getElem_mem ht)
    · rw [List.getElem?_eq_none (by omega)]; decide
  unfold aL
  split
  · have := hg k; omega
  · have h3 := hg (k - ((k - row.length) / step + 1) * step)
    have hq : (k - row.length) / step ≤ k := Nat.le_trans (Nat.div_le_self _ _) (Nat.sub_le _ _)
    generalize (row[k - ((k - row.length) / step + 1) * step]?).getD 0 = x at *
    generalize (k - row.length) / step = q at *
    have h4 : ((q + 1 : Nat) : Int) * rise ≤ (10 ^ 26) * 10 ^ 38 := by
      refine Int.le_trans (Int.mul_le_mul_of_nonneg_left hr2 (by omega)) (Int.mul_le_mul_of_nonneg_right (by omega) (by decide))
    have h5 : -((10 ^ 26) * 10 ^ 38) ≤ ((q + 1 : Nat) : Int) * rise := by
      have := Int.mul_le_mul_of_nonneg_left (show -rise ≤ 10 ^ 38 by omega) (show (0 : Int) ≤ ((q + 1 : Nat) : Int) by omega)
      have h6 : ((q + 1 : Nat) : Int) * 10 ^ 38 ≤ 10 ^ 26 * 10 ^ 38 := Int.mul_le_mul_of_nonneg_right (by omega) (by decide)
      rw [Int.mul_neg] at this
      omega
    omega
theorem n_bound {told : List Int} {p : Nat} {r g : Int} {n : Nat} (c0 : CSeq a told p r) (hL : told.length < 1000) (hno : ¬ (r < 0 ∨ (r = 0 ∧ Low a told p g))) (hn : n = 0 ∨ a (n - 1) ≤ g) (hg : g ≤ 10 ^ 66) (hb : ∀ k, k < told.length → -(10 ^ 38) ≤ a k) : (n : Int) < 10 ^ 800 := by
  have big : (10 : Int) ^ 80 < 10 ^ 800 := by decide +kernel
  have hp := c0.pos
  have hle := c0.le
  rcases hn with rfl | hn
  · exact Int.lt_trans (by decide) big
  by_cases hk : n - 1 < told.length
  · omega
  obtain ⟨k0, t, q1, q2, q3⟩ := c0.place (k := n - 1) (by omega)
  rw [q3, c0.iter q1 t] at hn
  have hbk := hb k0 q2
  have hr : 1 ≤ r := by
    rcases Int.lt_trichotomy r 0 with h | h | h
    · exact absurd (.inl h) hno
    · refine absurd (.inr ⟨h, k0, q1, q2, ?_⟩) hno
      rw [h] at hn; simpa using hn
    · omega
  have h1 : (t : Int) * 1 ≤ (t : Int) * r := Int.mul_le_mul_of_nonneg_left hr (by omega)
  have h2 : (t : Int) * p ≤ (10 ^ 67) * 1000 := Int.mul_le_mul (by omega) (by omega) (by omega) (by decide)
  have h3 : ((t * p : Nat) : Int) = (t : Int) * p := by simp
  omega
end
end SL
namespace SL
open PySem PySem.Spec PyProof.Rows L2
section
variable {m : Mu} {row : List Int} {step : Nat} {rise st : Int}
/-- one of the numbers asked -/
theorem one_ok (h1 : 1 ≤ step) (h2 : step ≤ row.length) (hL : row.length < 130) (hb : ∀ x, x ∈ row → -(10 ^ 37) ≤ x ∧ x ≤ 10 ^ 37) (hr1 : -(10 ^ 38) ≤ rise) (hr2 : rise ≤ 10 ^ 38)
    {c p : Nat} {r : Int} (c1 : CSeq (aL row step rise) (row.take c) p r) (hcl : c ≤ row.length) (hr : Mid r) (g : Int) (hg : -(10 ^ 66) ≤ g ∧ g ≤ 10 ^ 66) :
    ∃ (o : Option Nat) (v : D), (∀ m, d_law_first [crD st row step rise, .int g] m = .ok (oN o) m) ∧ (∀ m, d_Course_first_with [crs st (row.take c) p r, .int g] m = .ok (oD st o) m) ∧
      (∀ m, d_Course_outlast [crs st (row.take c) p r, .int g] m = .ok v m) ∧ (∀ m, d_law_outlasts [crD st row step rise, .int g, v] m = .ok (.bl true) m) ∧ ∀ m, neD v v m = .ok (.bl false) m := by
  have hrm : Mid rise := mid36 (by omega)
  have c0 := aL_seq (rise := rise) h1 h2
  have hlt : (row.take c).length < 1000 := by rw [List.length_take]; omega
  have f1 : ∀ m : Mu, ∃ o, d_law_first [crD st row step rise, .int g] m = .ok (oN o) m ∧ IsF (aL row step rise) g o := fun m => by
    obtain ⟨v, m', q1, o, q2, rfl, rfl⟩ := ex_of_wp (first_wp (m := m) (st := st) (E := NoX) (P := fun v m' => ∃ o, IsF (aL row step rise) g o ∧ v = oN o ∧ m' = m) h1 h2 (by omega) hrm g fun o ho => ⟨o, ho, rfl, rfl⟩)
    exact ⟨o, q1, q2⟩
  have f2 : ∀ m : Mu, ∃ o, d_Course_first_with [crs st (row.take c) p r, .int g] m = .ok (oD st o) m ∧ IsF (aL row step rise) g o := fun m => by
    obtain ⟨v, m', q1, o, q2, rfl, rfl⟩ := ex_of_wp (first_with_wp (m := m) (st := st) (E := NoX) (P := fun v m' => ∃ o, IsF (aL row step rise) g o ∧ v = oD st o ∧ m' = m) c1 hlt hr g fun o ho => ⟨o, ho, rfl, rfl⟩)
    exact ⟨o, q1, q2⟩
  obtain ⟨o, _, ho⟩ := f1 []
  have e1 : ∀ m : Mu, d_law_first [crD st row step rise, .int g] m = .ok (oN o) m := fun m => by
    obtain ⟨o', q1, q2⟩ := f1 m
    rw [q1, q2.uniq ho]
  have e2 : ∀ m : Mu, d_Course_first_with [crs st (row.take c) p r, .int g] m = .ok (oD st o) m := fun m => by
    obtain ⟨o', q1, q2⟩ := f2 m
    rw [q1, q2.uniq ho]
  have hd := dicho c1 hlt hr g
  by_cases hN : r < 0 ∨ (r = 0 ∧ Low (aL row step rise) (row.take c) p g)
  · refine ⟨o, .non, e1, e2, fun m => ?_, fun m => ?_, fun m => ne_self (st := st) none⟩
    · obtain ⟨v, m', q1, rfl, rfl⟩ := ex_of_wp (outlast_wp (m := m) (st := st) (E := NoX) (P := fun v m' => v = .non ∧ m' = m) c1 hlt hr g (fun _ => ⟨rfl, rfl⟩) fun h => absurd hN h)
      exact q1
    · rw [ok_iff]
      exact outlasts_wp h1 h2 (by omega) hrm g .non (.inl ⟨rfl, infin c1 g hN⟩) ⟨rfl, rfl⟩
  · have f3 : ∀ m : Mu, ∃ n : Nat, d_Course_outlast [crs st (row.take c) p r, .int g] m = .ok (.int (st + (n : Int))) m ∧ (∀ k, n ≤ k → g < aL row step rise k) ∧ (n = 0 ∨ aL row step rise (n - 1) ≤ g) := fun m => by
      obtain ⟨v, m', q1, n, rfl, rfl, q2, q3⟩ := ex_of_wp (outlast_wp (m := m) (st := st) (E := NoX) (P := fun v m' => ∃ n : Nat, v = .int (st + (n : Int)) ∧ m' = m ∧ (∀ k, n ≤ k → g < aL row step rise k) ∧ (n = 0 ∨ aL row step rise (n - 1) ≤ g)) c1 hlt hr g (fun h => absurd h hN) fun _ n q2 q3 => ⟨n, rfl, rfl, q2, q3⟩)
      exact ⟨n, q1, q2, q3⟩
    obtain ⟨n, _, g2, g3⟩ := f3 []
    have e3 : ∀ m : Mu, d_Course_outlast [crs st (row.take c) p r, .int g] m = .ok (.int (st + (n : Int))) m := fun m => by
      obtain ⟨n', q1, q2, q3⟩ := f3 m
      have : n' = n := by
        rcases Nat.lt_trichotomy n' n with h | h | h
        · have := q2 (n - 1) (by omega)
          rcases g3 with g3 | g3 <;> omega
        · exact h
        · have := g2 (n' - 1) (by omega)
          rcases q3 with q3 | q3 <;> omega
      rw [q1, this]
    have hbk : ∀ k, k < (row.take c).length → -(10 ^ 38) ≤ aL row step rise k := fun k hk => by
      have := c1.at_ k hk
      have := hb _ (List.mem_of_mem_take (List.mem_of_getElem? this))
      omega
    have hnb := n_bound c1 hlt hN g3 hg.2 hbk
    refine ⟨o, .int (st + (n : Int)), e1, e2, e3, fun m => ?_, fun m => by rw [ne_ii]; simp⟩
    rw [ok_iff]
    exact outlasts_wp h1 h2 (by omega) hrm g _ (.inr ⟨n, rfl, g2, g3, hnb⟩) ⟨rfl, rfl⟩
end
theorem r_bound {a : Nat → Int} {told row : List Int} {p q : Nat} {r s : Int} (c1 : CSeq a told p r) (c0 : CSeq a row q s) (hp : p < 1000) (hs1 : -(10 ^ 38) ≤ s) (hs2 : s ≤ 10 ^ 38) : Mid r := by
  have e1 := c1.iter (k := told.length + row.length) (by omega) q
  have e2 := c0.iter (k := told.length + row.length) (by omega) p
  rw [Nat.mul_comm p q, e1] at e2
  have e3 : (q : Int) * r = (p : Int) * s := by omega
  have hq := c0.pos
  have h4 : (p : Int) * s ≤ 1000 * 10 ^ 38 := Int.le_trans (Int.mul_le_mul_of_nonneg_left hs2 (by omega)) (Int.mul_le_mul_of_nonneg_right (by omega) (by decide))
  have h5 : (p : Int) * (-s) ≤ 1000 * 10 ^ 38 := Int.le_trans (Int.mul_le_mul_of_nonneg_left (show -s ≤ 10 ^ 38 by omega) (by omega)) (Int.mul_le_mul_of_nonneg_right (by omega) (by decide))
  rw [Int.mul_neg] at h5
  have big : (10 : Int) ^ 50 ≤ 10 ^ 1000 := by decide +kernel
  refine mid_of ?_
  rcases Int.lt_or_le r 0 with h | h
  · have : (1 : Int) * (-r) ≤ (q : Int) * (-r) := Int.mul_le_mul_of_nonneg_right (by omega) (by omega)
    rw [Int.one_mul, Int.mul_neg] at this
    omega
  · have : (1 : Int) * r ≤ (q : Int) * r := Int.mul_le_mul_of_nonneg_right (by omega) (by omega)
    omega
noncomputable def k50_gen (f1 f2 f3 f4 f5 : Fn) : SF :=
  (mSeq (mAsg (mCall f1 (mCons (mVar 4) (mCons (mVar 15) mNil))) (mGName 16))
    (mSeq (mAsg (mC .non) (mGName 17))
    (mSeq (mIf (mTest (mBin isnD (mVar 16) (mC .non))) (mAsg (mBin (addD false) (mVar 7) (mVar 16)) (mGName 17)) mNext)
    (mSeq (mIf (mNot (mTest (mCall f2 (mCons (mMeth 22 "first_with" f3 (mVar 11) (mCons (mVar 15) mNil)) (mCons (mVar 17) mNil))))) (mRet (mC (.bl false))) mNext)
    (mIf (mNot (mTest (mCall f4 (mCons (mVar 4) (mCons (mVar 15) (mCons (mMeth 22 "outlast" f5 (mVar 11) (mCons (mVar 15) mNil)) mNil)))))) (mRet (mC (.bl false))) mNext)))))
theorem inner_gen {f1 f2 f3 f4 f5 : Fn} (hsame : ∀ d m, PV 1 d → f2 [d, d] m = .ok (.bl true) m) {mm : Mu} {ns : List Int} {cell v1 v2 v3 v4 v5 other st rise r near g : Int} {i step c p kk : Nat} {row : List Int} {x16 x17 : Option D} {o : Option Nat} {v : D} {Q : Ps}
    (q1 : ∀ m, f1 [.tup [.int st, il row, .int step, .int rise], .int g] m = .ok (oN o) m) (q2 : ∀ m, f3 [crs st (row.take c) p r, .int g] m = .ok (oD st o) m)
    (q3 : ∀ m, f5 [crs st (row.take c) p r, .int g] m = .ok v m) (q4 : ∀ m, f4 [.tup [.int st, il row, .int step, .int rise], .int g, v] m = .ok (.bl true) m)
    (hQ : ∀ y16 y17 : Option D, Q.nx [some (.scr ns), some (.int cell), some (.loc i), some (.lst [.int v1, .int v2, .int v3, .int v4]), some (.tup [.int st, il row, .int step, .int rise]), some (.int v5), some (.int other), some (.int st), some (il row), some (.int step), some (.int rise), some (crs st (row.take c) p r), some (.tup [.int st, il (row.take c), .int p, .int r]), some (.int kk), some (.int near), some (.int g), y16, y17] mm) :
    St (k50_gen f1 f2 f3 f4 f5 [some (.scr ns), some (.int cell), some (.loc i), some (.lst [.int v1, .int v2, .int v3, .int v4]), some (.tup [.int st, il row, .int step, .int rise]), some (.int v5), some (.int other), some (.int st), some (il row), some (.int step), some (.int rise), some (crs st (row.take c) p r), some (.tup [.int st, il (row.take c), .int p, .int r]), some (.int kk), some (.int near), some (.int g), x16, x17] mm) Q := by
  unfold k50_gen
  simp [q1]
  cases o with
  | none =>
    have hs := hsame .non mm trivial
    simp [oN, oD, q2, q3, q4, hs, hQ]
    exact ⟨lkf1', lkf2'⟩
  | some k =>
    have hs := hsame (.int (st + (k : Int))) mm trivial
    simp [oN, oD, q2, q3, q4, hs, hQ]
    exact ⟨lkf1', lkf2'⟩
noncomputable def k50_inner : SF := k50_gen d_law_first d_law_same d_Course_first_with d_law_outlasts d_Course_outlast
noncomputable def k50_tail : SF :=
  (mSeq (mAsg (mTup (mCons (mProp 22 d_Course_least (mVar 11)) (mCons (mProp 22 d_Course_numbers (mVar 11)) (mCons (mProp 22 d_Course_every (mVar 11)) (mCons (mProp 22 d_Course_more (mVar 11)) mNil))))) (mGName 12))
    (mSeq (mAsg (mBin ixD (mLst false (mCons (mVar 5) (mCons (mBin ixD (mVar 3) (mC (.int 2))) (mCons (mBin modD (mCall intD (mCons (mBin ixD (mVar 3) (mC (.int 2))) mNil)) (mCall lenD (mCons (mVar 8) mNil))) (mCons (mBin (addD false) (mCall lenD (mCons (mVar 8) mNil)) (mBin modD (mCall intD (mCons (mBin ixD (mVar 3) (mC (.int 2))) mNil)) (mVar 9))) mNil))))) (mBin ixD (mVar 3) (mC (.int 0)))) (mGName 13))
    (mSeq (mAsg (mCall d_law_value (mCons (mVar 4) (mCons (mVar 13) mNil))) (mGName 14))
    (mSeq (mFor (mSeqI (mLst false (mCons (mVar 14) (mCons (mBin subD (mBin (addD false) (mVar 14) (mC (.int 1))) (mBin ixD (mVar 3) (mC (.int 1)))) (mCons (mVar 6) (mCons (mVar 14) (mCons (mCall minD (mCons (mVar 8) mNil)) (mCons (mCall maxD (mCons (mVar 8) mNil)) mNil)))))))) (mGName 15) k50_inner)
    (mSeq (mIf (mNot (mTest (mCall d_law_same (mCons (mTup (mCons (mProp 22 d_Course_least (mVar 11)) (mCons (mProp 22 d_Course_numbers (mVar 11)) (mCons (mProp 22 d_Course_every (mVar 11)) (mCons (mProp 22 d_Course_more (mVar 11)) mNil))))) (mCons (mVar 12) mNil))))) (mRet (mC (.bl false))) mNext)
    (mSeq (mIf (mTest (mBin neD (mMethK 22 "first_with" [0] 1 2 d_Course_first_with (mVar 11) (mCons (mVar 14) mNil)) (mMeth 22 "first_with" d_Course_first_with (mVar 11) (mCons (mVar 14) mNil)))) (mRet (mC (.bl false))) mNext)
    (mIf (mTest (mBin neD (mMethK 22 "outlast" [0] 1 2 d_Course_outlast (mVar 11) (mCons (mVar 14) mNil)) (mMeth 22 "outlast" d_Course_outlast (mVar 11) (mCons (mVar 14) mNil)))) (mRet (mC (.bl false))) mNext)))))))
theorem d_law_eq : d_law = (mFun 18
    (mSeq (mFor (mSeqI (mBin (addD false) (mLst false (mCons (mBin (addD false) (mBin powD (mC (.int 10)) (mC (.int 18))) (mC (.int 112927463172077))) mNil)) (mSlice false (mVar 0) mNoP (mPart (mC (.int 6)))))) (mGName 1) (mSeq (mAsg (mCall d_law_well (mCons (mVar 1) (mCons (mC (.int 50)) mNil))) (mGName 2))
    (mSeq (mAsg (mLst false (mCons (mCall d_law_pick (mCons (mVar 2) (mCons (mC (.int 4)) mNil))) (mCons (mCall d_law_pick (mCons (mVar 2) (mCons (mC (.int 3)) mNil))) (mCons (mCall d_law_pick (mCons (mVar 2) (mCons (mC (.int 150)) mNil))) (mCons (mCall d_law_pick (mCons (mVar 2) (mCons (mC (.int 2)) mNil))) mNil))))) (mGName 3))
    (mSeq (mAsg (mCall d_law_course (mCons (mVar 2) (mCons (mC (.int 60)) mNil))) (mGName 4))
    (mSeq (mAsg (mCall d_law_pick (mCons (mVar 2) (mCons (mBin powD (mC (.int 10)) (mC (.int 24))) mNil))) (mGName 5))
    (mSeq (mAsg (mBin subD (mCall d_law_pick (mCons (mVar 2) (mCons (mBin ixD (mLst false (mCons (mC (.int 8)) (mCons (mBin powD (mC (.int 10)) (mC (.int 60))) mNil))) (mBin ixD (mVar 3) (mC (.int 3)))) mNil))) (mBin ixD (mLst false (mCons (mC (.int 4)) (mCons (mBin powD (mC (.int 10)) (mC (.int 59))) mNil))) (mBin ixD (mVar 3) (mC (.int 3))))) (mGName 6))
    (mSeq (mAsg (mVar 4) (mGTup [(mGName 7), (mGName 8), (mGName 9), (mGName 10)]))
    (mSeq (mAsg (mFrz (mMake 22 d_Course_init (mCons (mVar 7) (mCons (mCall (listD false) (mCons (mVar 8) mNil)) (mCons (mVar 9) (mCons (mVar 10) mNil)))))) (mGName 11))
    k50_tail))))))))
    (mRet (mC (.bl true))))) := rfl
theorem inner_ok {mm : Mu} {ns : List Int} {cell v1 v2 v3 v4 v5 other st rise r near g : Int} {i step c p kk : Nat} {row : List Int} {x16 x17 : Option D} {o : Option Nat} {v : D} {Q : Ps}
    (q1 : ∀ m, d_law_first [.tup [.int st, il row, .int step, .int rise], .int g] m = .ok (oN o) m) (q2 : ∀ m, d_Course_first_with [crs st (row.take c) p r, .int g] m = .ok (oD st o) m)
    (q3 : ∀ m, d_Course_outlast [crs st (row.take c) p r, .int g] m = .ok v m) (q4 : ∀ m, d_law_outlasts [.tup [.int st, il row, .int step, .int rise], .int g, v] m = .ok (.bl true) m)
    (hQ : ∀ y16 y17 : Option D, Q.nx [some (.scr ns), some (.int cell), some (.loc i), some (.lst [.int v1, .int v2, .int v3, .int v4]), some (.tup [.int st, il row, .int step, .int rise]), some (.int v5), some (.int other), some (.int st), some (il row), some (.int step), some (.int rise), some (crs st (row.take c) p r), some (.tup [.int st, il (row.take c), .int p, .int r]), some (.int kk), some (.int near), some (.int g), y16, y17] mm) :
    St (k50_inner [some (.scr ns), some (.int cell), some (.loc i), some (.lst [.int v1, .int v2, .int v3, .int v4]), some (.tup [.int st, il row, .int step, .int rise]), some (.int v5), some (.int other), some (.int st), some (il row), some (.int step), some (.int rise), some (crs st (row.take c) p r), some (.tup [.int st, il (row.take c), .int p, .int r]), some (.int kk), some (.int near), some (.int g), x16, x17] mm) Q :=
  inner_gen (fun d m h => same_ok h (by decide)) q1 q2 q3 q4 hQ
theorem tail_ok {M2 : Mu} {ns : List Int} {cell v1 v2 v3 v4 v5 other st rise r : Int} {i step c p : Nat} {row : List Int} {x12 x13 x14 x15 x16 x17 : Option D} {Q : Ps} (a1 : 0 ≤ v1) (b1 : v1 < 4) (a2 : 0 ≤ v2) (b2 : v2 < 3) (a3 : 0 ≤ v3) (b3 : v3 < 150) (a5 : 0 ≤ v5) (b5 : v5 < 10 ^ 24)
    (hs1 : 1 ≤ step) (hs2 : step ≤ 60) (hs3 : step ≤ row.length) (hL : row.length < 130) (hb : ∀ x, x ∈ row → -(10 ^ 37) ≤ x ∧ x ≤ 10 ^ 37) (hr1 : -(10 ^ 38) ≤ rise) (hr2 : rise ≤ 10 ^ 38) (hoth : -(10 ^ 66) ≤ other ∧ other ≤ 10 ^ 66)
    (c0 : CSeq (aL row step rise) row step rise) (c1 : CSeq (aL row step rise) (row.take c) p r) (hcl : c ≤ row.length)
    (hQ : ∀ y12 y13 y14 y15 y16 y17 : Option D, Q.nx [some (.scr ns), some (.int cell), some (.loc i), some (.lst [.int v1, .int v2, .int v3, .int v4]), some (.tup [.int st, il row, .int step, .int rise]), some (.int v5), some (.int other), some (.int st), some (il row), some (.int step), some (.int rise), some (crs st (row.take c) p r), y12, y13, y14, y15, y16, y17] M2) :
    St (k50_tail [some (.scr ns), some (.int cell), some (.loc i), some (.lst [.int v1, .int v2, .int v3, .int v4]), some (.tup [.int st, il row, .int step, .int rise]), some (.int v5), some (.int other), some (.int st), some (il row), some (.int step), some (.int rise), some (crs st (row.take c) p r), x12, x13, x14, x15, x16, x17] M2) Q := by
  unfold k50_tail
  simp
  have hrm : Mid r := r_bound c1 c0 (by have := c1.le; rw [List.length_take] at this; omega) hr1 hr2
  have z1 : (row.length : Int) ≠ 0 := by omega
  have z2 : (step : Int) ≠ 0 := by omega
  have y1 : 0 ≤ v3.fmod row.length ∧ v3.fmod row.length < row.length := ⟨Int.fmod_nonneg_of_pos _ (by omega), Int.fmod_lt_of_pos _ (by omega)⟩
  have y2 : 0 ≤ v3.fmod step ∧ v3.fmod step < step := ⟨Int.fmod_nonneg_of_pos _ (by omega), Int.fmod_lt_of_pos _ (by omega)⟩
  obtain ⟨at_, hat, hatx⟩ := ix4i v5 v3 (v3.fmod row.length) (row.length + v3.fmod step) v1 a1 b1
  have hat2 : 0 ≤ at_ ∧ at_ < 10 ^ 25 := by omega
  obtain ⟨kk, rfl⟩ : ∃ kk : Nat, at_ = (kk : Int) := ⟨_, (Int.toNat_of_nonneg hat2.1).symm⟩
  have hv := value_eq (m := M2) (st := st) hs1 hs3 (by omega) (show Mid rise from mid36 (by omega)) kk (by
    have : (10 : Int) ^ 25 < 10 ^ 900 := by decide +kernel
    omega)
  unfold crD at hv
  simp only [insOf_crs, if_true, p_least, p_numbers, p_every, p_more, ixq0, ixq1, ixq2, ixq3, sWp_ok, int_i, mod_ii, ne_eq, z1, z2, not_false_eq_true, add_ii, hatx, hv]
  have hnear := aL_bound hs1 hs3 hb hr1 hr2 kk (by omega)
  generalize aL row step rise kk = near at hnear ⊢
  have hne : row ≠ [] := fun h => by rw [h] at hs3; simp at hs3; omega
  have hmin := hb _ (minI_mem hne)
  have hmax := hb _ (maxI_mem hne)
  have hone := one_ok (st := st) hs1 hs3 hL hb hr1 hr2 c1 hcl hrm
  unfold crD at hone
  refine St_forS (d := .lst [.int near, .int (near + 1 - v2), .int other, .int near, .int (minI row), .int (maxI row)]) (all := [.int near, .int (near + 1 - v2), .int other, .int near, .int (minI row), .int (maxI row)]) (m1 := M2) (by simp [ixq1, min_il hne, max_il hne]) (fun _ => rfl) (fun j e mm => mm = M2 ∧ ∃ y1 y2 y3 : Option D, e = [some (.scr ns), some (.int cell), some (.loc i), some (.lst [.int v1, .int v2, .int v3, .int v4]), some (.tup [.int st, il row, .int step, .int rise]), some (.int v5), some (.int other), some (.int st), some (il row), some (.int step), some (.int rise), some (crs st (row.take c) p r), some (.tup [.int st, il (row.take c), .int p, .int r]), some (.int kk), some (.int near), y1, y2, y3]) ⟨rfl, _, _, _, rfl⟩ ?_ ?_
  · rintro j y e mm hy ⟨rfl, y1, y2, y3, rfl⟩
    obtain ⟨g, rfl, hg⟩ : ∃ g, y = .int g ∧ -(10 ^ 66) ≤ g ∧ g ≤ 10 ^ 66 := by
      have := List.mem_of_getElem? hy
      simp only [List.mem_cons, List.mem_nil_iff, or_false] at this
      rcases this with rfl | rfl | rfl | rfl | rfl | rfl
      · exact ⟨_, rfl, by omega⟩
      · exact ⟨_, rfl, by omega⟩
      · exact ⟨_, rfl, hoth⟩
      · exact ⟨_, rfl, by omega⟩
      · exact ⟨_, rfl, by omega⟩
      · exact ⟨_, rfl, by omega⟩
    clear hy
    obtain ⟨o, v, q1, q2, q3, q4, _⟩ := hone g hg
    rw [sSt_gname]
    refine ⟨by simp, ?_⟩
    exact inner_ok q1 q2 q3 q4 fun y16 y17 => ⟨rfl, _, _, _, rfl⟩
  · rintro e mm ⟨rfl, y1, y2, y3, rfl⟩
    obtain ⟨o, v, _, q2, q3, _, q5⟩ := hone near (by omega)
    have hpv : PV 3 (.tup [.int st, il (row.take c), .int p, .int r]) := ⟨by simp, fun d hd => by
      simp only [List.mem_cons, List.mem_nil_iff, or_false] at hd
      rcases hd with rfl | rfl | rfl | rfl
      · trivial
      · exact pv_il (by rw [List.length_take]; omega)
      · trivial
      · trivial⟩
    have hs := same_ok (m := mm) hpv (by decide)
    simp [p_least, p_numbers, p_every, p_more, hs, lkf1, lkf2, pmK, q2, q3, q5, ne_self]
    exact hQ _ _ _ _ _ _
theorem law_true (ns : List Int) (h : ns.length ≤ 63) (hb : ∀ z ∈ ns, Builtin.Int.intBits z ≤ 1048576) : ∃ m, d_law [.scr ns] [] = .ok (.bl true) m := by
  have main : Wp (d_law [.scr ns] []) (fun v _ => v = .bl true) NoX := by
    rw [d_law_eq, Wp_fun]
    simp
    have hcell : (mBin (addD false) (mLst false (mCons (mBin (addD false) (mBin powD (mC (.int 10)) (mC (.int 18))) (mC (.int 112927463172077))) mNil)) (mSlice false (mVar 0) mNoP (mPart (mC (.int 6)))))
        [some (.scr ns), none, none, none, none, none, none, none, none, none, none, none, none, none, none, none, none, none] [] = .ok (il (1000112927463172077 :: ns.take 6)) [] := by
      have e1 : cutDs (ns.map D.int) none (some 6) = (ns.take 6).map D.int := by
        have := cut_take (ns.map D.int) 6
        rw [List.map_take]; exact this
      simp [e1]
      rw [add_l (by simp; omega), mkL_f]
      unfold il
      rw [List.map_cons, List.map_take]
      rfl
    refine St_forS (all := (1000112927463172077 :: ns.take 6).map D.int) hcell (fun _ => rfl) (fun i e m => ∃ x1 x2 x3 x4 x5 x6 x7 x8 x9 x10 x11 x12 x13 x14 x15 x16 x17 : Option D, e = [some (.scr ns), x1, x2, x3, x4, x5, x6, x7, x8, x9, x10, x11, x12, x13, x14, x15, x16, x17]) ⟨_, _, _, _, _, _, _, _, _, _, _, _, _, _, _, _, _, rfl⟩ ?_ ?_
    · rintro i x e m hx ⟨x1, x2, x3, x4, x5, x6, x7, x8, x9, x10, x11, x12, x13, x14, x15, x16, x17, rfl⟩
      obtain ⟨cell, rfl⟩ : ∃ cell, x = .int cell := by
        have := List.mem_of_getElem? hx
        obtain ⟨z, _, rfl⟩ := List.mem_map.mp this
        exact ⟨z, rfl⟩
      clear hx
      simp
      refine well_wp (by unfold Sml; decide) fun n0 => ?_
      obtain ⟨M, hM⟩ : ∃ M, M = m ++ [MO.lst [D.int n0]] := ⟨_, rfl⟩
      obtain ⟨i, hi⟩ : ∃ i, i = m.length := ⟨_, rfl⟩
      have hm : M[i]? = some (.lst [.int n0]) := by rw [hM, hi]; simp
      have hil : i < M.length := by rw [hM, hi]; simp
      rw [← hM, ← hi]
      have hset : ∀ x : MO, (M.set i x)[i]? = some x := fun x => List.getElem?_set_self hil
      refine pick_wp hm (by omega) (mid36 (by omega)) fun v1 n1 a1 b1 => ?_
      refine pick_wp (hset _) (by omega) (mid36 (by omega)) fun v2 n2 a2 b2 => ?_
      rw [List.set_set]
      refine pick_wp (hset _) (by omega) (mid36 (by omega)) fun v3 n3 a3 b3 => ?_
      rw [List.set_set]
      refine pick_wp (hset _) (by omega) (mid36 (by omega)) fun v4 n4 a4 b4 => ?_
      rw [List.set_set]
      refine course_wp (hset _) fun st row step rise n5 hst1 hst2 hs1 hs2 hs3 hL hb hr1 hr2 => ?_
      rw [List.set_set]
      refine pick_wp (hset _) (by omega) (mid36 (by omega)) fun v5 n6 a5 b5 => ?_
      rw [List.set_set]
      obtain ⟨w1, hw1, hwx1⟩ := ix2i 8 1000000000000000000000000000000000000000000000000000000000000 v4 a4 b4
      simp only [ixq3, sWp_ok, hwx1]
      refine pick_wp (hset _) (by omega) (mid_of (by
        have : (10 : Int) ^ 70 ≤ 10 ^ 1000 := by decide +kernel
        omega)) fun v6 n7 a6 b6 => ?_
      rw [List.set_set]
      obtain ⟨w2, hw2, hwx2⟩ := ix2i 4 100000000000000000000000000000000000000000000000000000000000 v4 a4 b4
      simp only [ixq3, sWp_ok, hwx2, sub_ii]
      have hoth : -(10 ^ 66) ≤ v6 - w2 ∧ v6 - w2 ≤ 10 ^ 66 := by omega
      generalize v6 - w2 = other at hoth ⊢
      generalize M.set i (MO.lst [D.int n7]) = M2
      have c0 := aL_seq (rise := rise) hs1 hs3
      unfold crD
      simp
      refine make_crs (a := aL row step rise) (by simp) hst1 c0 (by omega) fun c p r c1 hcl => ?_
      refine tail_ok a1 b1 a2 b2 a3 b3 a5 (by omega) hs1 hs2 hs3 hL hb hr1 hr2 hoth c0 c1 hcl ?_
      intro y12 y13 y14 y15 y16 y17
      simp
    · rintro e m ⟨x1, x2, x3, x4, x5, x6, x7, x8, x9, x10, x11, x12, x13, x14, x15, x16, x17, rfl⟩
      simp
  obtain ⟨v, m', q1, rfl⟩ := ex_of_wp main
  exact ⟨m', q1⟩
end SL
namespace SL
open PySem PySem.Spec PyProof.Rows L2
def top (i : Nat) : Stmt := PySem.Challenge.pw_sandthreads_k50_first_and_last_lengths.main.body.getD i (.Pass ⟨0, 0, 0, 0⟩)
abbrev s_fewest_numbers : Stmt := (top 10)
abbrev N_fewest_numbers : List Str := ["numbers", "every", "more", "count"]
abbrev P_fewest_numbers : List Str := ["numbers", "every", "more"]
abbrev s_tail_number : Stmt := (top 8)
abbrev N_tail_number : List Str := ["tail", "more", "k"]
abbrev P_tail_number : List Str := ["tail", "more", "k"]
abbrev s_least_every : Stmt := (top 9)
abbrev N_least_every : List Str := ["tail", "more", "every", "rise", "steps", "k"]
abbrev P_least_every : List Str := ["tail", "more"]
abbrev s_Course_init : Stmt := (inClass (top 11) 0)
abbrev N_Course_init : List Str := ["self", "least", "numbers", "every", "more", "period", "rise"]
abbrev P_Course_init : List Str := ["self", "least", "numbers", "every", "more"]
abbrev s_Course_every : Stmt := (inClass (top 11) 3)
abbrev N_Course_every : List Str := ["self"]
abbrev P_Course_every : List Str := ["self"]
abbrev s_Course_first_with : Stmt := (inClass (top 11) 6)
abbrev N_Course_first_with : List Str := ["self", "number", "found", "k", "missing"]
abbrev P_Course_first_with : List Str := ["self", "number"]
abbrev s_Course_least : Stmt := (inClass (top 11) 1)
abbrev N_Course_least : List Str := ["self"]
abbrev P_Course_least : List Str := ["self"]
abbrev s_Course_more : Stmt := (inClass (top 11) 4)
abbrev N_Course_more : List Str := ["self"]
abbrev P_Course_more : List Str := ["self"]
abbrev s_Course_numbers : Stmt := (inClass (top 11) 2)
abbrev N_Course_numbers : List Str := ["self"]
abbrev P_Course_numbers : List Str := ["self"]
abbrev s_Course_outlast : Stmt := (inClass (top 11) 7)
abbrev N_Course_outlast : List Str := ["self", "number", "tail", "last", "k", "worth"]
abbrev P_Course_outlast : List Str := ["self", "number"]
abbrev s_law_pick : Stmt := (top 14)
abbrev N_law_pick : List Str := ["_law_well_here", "_law_many", "_law_taken"]
abbrev P_law_pick : List Str := ["_law_well_here", "_law_many"]
abbrev s_law_course : Stmt := (top 16)
abbrev N_law_course : List Str := ["_law_well_here", "_law_most", "_law_sizes", "_law_long", "_law_size", "_law_rise", "_law_start", "_law_step", "_law_some", "_law_k", "_law_row"]
abbrev P_law_course : List Str := ["_law_well_here", "_law_most"]
abbrev s_law_value : Stmt := (top 17)
abbrev N_law_value : List Str := ["_law_course_here", "_law_k", "_law_row", "_law_rounds"]
abbrev P_law_value : List Str := ["_law_course_here", "_law_k"]
abbrev s_law_first : Stmt := (top 18)
abbrev N_law_first : List Str := ["_law_course_here", "_law_goal", "_law_start", "_law_row", "_law_step", "_law_rise", "_law_k", "_law_best", "_law_gap", "_law_at"]
abbrev P_law_first : List Str := ["_law_course_here", "_law_goal"]
abbrev s_law_outlasts : Stmt := (top 19)
abbrev N_law_outlasts : List Str := ["_law_course_here", "_law_goal", "_law_told", "_law_start", "_law_row", "_law_step", "_law_rise", "_law_tail", "_law_k"]
abbrev P_law_outlasts : List Str := ["_law_course_here", "_law_goal", "_law_told"]
abbrev s_law_same : Stmt := (top 15)
abbrev N_law_same : List Str := ["_law_found", "_law_due", "_law_k"]
abbrev P_law_same : List Str := ["_law_found", "_law_due"]
abbrev s_law_well : Stmt := (top 13)
abbrev N_law_well : List Str := ["_law_cell", "_law_salt", "_law_prime", "_law_seed", "_law_whole", "_law_k"]
abbrev P_law_well : List Str := ["_law_cell", "_law_salt"]
abbrev s_law : Stmt := (top 20)
abbrev N_law : List Str := ["_law_script", "_law_cell", "_law_well_here", "_law_picks", "_law_course_here", "_law_far", "_law_other", "_law_start", "_law_row", "_law_step", "_law_rise", "_law_found", "_law_told", "_law_at", "_law_near", "_law_one", "_law_k", "_law_due"]
abbrev P_law : List Str := ["_law_script"]
structure Ad where
  a_fewest_numbers : Addr
  f_fewest_numbers : FuncData
  a_tail_number : Addr
  f_tail_number : FuncData
  a_least_every : Addr
  f_least_every : FuncData
  a_Course_init : Addr
  f_Course_init : FuncData
  a_Course_every : Addr
  f_Course_every : FuncData
  p_Course_every : Addr
  a_Course_first_with : Addr
  f_Course_first_with : FuncData
  a_Course_least : Addr
  f_Course_least : FuncData
  p_Course_least : Addr
  a_Course_more : Addr
  f_Course_more : FuncData
  p_Course_more : Addr
  a_Course_numbers : Addr
  f_Course_numbers : FuncData
  p_Course_numbers : Addr
  a_Course_outlast : Addr
  f_Course_outlast : FuncData
  a_law_pick : Addr
  f_law_pick : FuncData
  a_law_course : Addr
  f_law_course : FuncData
  a_law_value : Addr
  f_law_value : FuncData
  a_law_first : Addr
  f_law_first : FuncData
  a_law_outlasts : Addr
  f_law_outlasts : FuncData
  a_law_same : Addr
  f_law_same : FuncData
  a_law_well : Addr
  f_law_well : FuncData
  a_law : Addr
  f_law : FuncData
  C_Course : Addr
def Ad.C (A : Ad) : Nat → Addr
  | 22 => A.C_Course
  | _ => 0
structure Fx (K : PySem.W.Frag) (mg : Str → Option Value) (A : Ad) : Prop where
  F_fewest_numbers : Fun K "fewest_numbers" "fewest_numbers" s_fewest_numbers A.a_fewest_numbers A.f_fewest_numbers
  b_fewest_numbers : Binds K A.f_fewest_numbers P_fewest_numbers []
  m_fewest_numbers : mg "fewest_numbers" = some (.ref A.a_fewest_numbers)
  k_fewest_numbers : PySem.W.keepIn K (.ref A.a_fewest_numbers) = true
  F_tail_number : Fun K "tail_number" "tail_number" s_tail_number A.a_tail_number A.f_tail_number
  b_tail_number : Binds K A.f_tail_number P_tail_number []
  m_tail_number : mg "tail_number" = some (.ref A.a_tail_number)
  k_tail_number : PySem.W.keepIn K (.ref A.a_tail_number) = true
  F_least_every : Fun K "least_every" "least_every" s_least_every A.a_least_every A.f_least_every
  b_least_every : Binds K A.f_least_every P_least_every []
  m_least_every : mg "least_every" = some (.ref A.a_least_every)
  k_least_every : PySem.W.keepIn K (.ref A.a_least_every) = true
  F_Course_init : Fun K "__init__" "Course.__init__" s_Course_init A.a_Course_init A.f_Course_init
  b_Course_init : Binds K A.f_Course_init P_Course_init []
  F_Course_every : Fun K "every" "Course.every" s_Course_every A.a_Course_every A.f_Course_every
  b_Course_every : Binds K A.f_Course_every P_Course_every []
  p_Course_every : PropOf K (A.C 22) "every" A.p_Course_every A.a_Course_every
  F_Course_first_with : Fun K "first_with" "Course.first_with" s_Course_first_with A.a_Course_first_with A.f_Course_first_with
  b_Course_first_with : Binds K A.f_Course_first_with P_Course_first_with []
  me_Course_first_with : Meth K (A.C 22) "first_with" A.a_Course_first_with
  F_Course_least : Fun K "least" "Course.least" s_Course_least A.a_Course_least A.f_Course_least
  b_Course_least : Binds K A.f_Course_least P_Course_least []
  p_Course_least : PropOf K (A.C 22) "least" A.p_Course_least A.a_Course_least
  F_Course_more : Fun K "more" "Course.more" s_Course_more A.a_Course_more A.f_Course_more
  b_Course_more : Binds K A.f_Course_more P_Course_more []
  p_Course_more : PropOf K (A.C 22) "more" A.p_Course_more A.a_Course_more
  F_Course_numbers : Fun K "numbers" "Course.numbers" s_Course_numbers A.a_Course_numbers A.f_Course_numbers
  b_Course_numbers : Binds K A.f_Course_numbers P_Course_numbers []
  p_Course_numbers : PropOf K (A.C 22) "numbers" A.p_Course_numbers A.a_Course_numbers
  F_Course_outlast : Fun K "outlast" "Course.outlast" s_Course_outlast A.a_Course_outlast A.f_Course_outlast
  b_Course_outlast : Binds K A.f_Course_outlast P_Course_outlast []
  me_Course_outlast : Meth K (A.C 22) "outlast" A.a_Course_outlast
  F_law_pick : Fun K "_law_pick" "_law_pick" s_law_pick A.a_law_pick A.f_law_pick
  b_law_pick : Binds K A.f_law_pick P_law_pick []
  m_law_pick : mg "_law_pick" = some (.ref A.a_law_pick)
  k_law_pick : PySem.W.keepIn K (.ref A.a_law_pick) = true
  F_law_course : Fun K "_law_course" "_law_course" s_law_course A.a_law_course A.f_law_course
  b_law_course : Binds K A.f_law_course P_law_course []
  m_law_course : mg "_law_course" = some (.ref A.a_law_course)
  k_law_course : PySem.W.keepIn K (.ref A.a_law_course) = true
  F_law_value : Fun K "_law_value" "_law_value" s_law_value A.a_law_value A.f_law_value
  b_law_value : Binds K A.f_law_value P_law_value []
  m_law_value : mg "_law_value" = some (.ref A.a_law_value)
  k_law_value : PySem.W.keepIn K (.ref A.a_law_value) = true
  F_law_first : Fun K "_law_first" "_law_first" s_law_first A.a_law_first A.f_law_first
  b_law_first : Binds K A.f_law_first P_law_first []
  m_law_first : mg "_law_first" = some (.ref A.a_law_first)
  k_law_first : PySem.W.keepIn K (.ref A.a_law_first) = true
  F_law_outlasts : Fun K "_law_outlasts" "_law_outlasts" s_law_outlasts A.a_law_outlasts A.f_law_outlasts
  b_law_outlasts : Binds K A.f_law_outlasts P_law_outlasts []
  m_law_outlasts : mg "_law_outlasts" = some (.ref A.a_law_outlasts)
  k_law_outlasts : PySem.W.keepIn K (.ref A.a_law_outlasts) = true
  F_law_same : Fun K "_law_same" "_law_same" s_law_same A.a_law_same A.f_law_same
  b_law_same : Binds K A.f_law_same P_law_same []
  m_law_same : mg "_law_same" = some (.ref A.a_law_same)
  k_law_same : PySem.W.keepIn K (.ref A.a_law_same) = true
  F_law_well : Fun K "_law_well" "_law_well" s_law_well A.a_law_well A.f_law_well
  b_law_well : Binds K A.f_law_well P_law_well []
  m_law_well : mg "_law_well" = some (.ref A.a_law_well)
  k_law_well : PySem.W.keepIn K (.ref A.a_law_well) = true
  F_law : Fun K "law" "law" s_law A.a_law A.f_law
  b_law : Binds K A.f_law P_law []
  m_law : mg "law" = some (.ref A.a_law)
  k_law : PySem.W.keepIn K (.ref A.a_law) = true
  m_Course : mg "Course" = some (.ref (A.C 22))
  cl_Course : Cls K (A.C 22)
  mk_Course : Mk K (A.C 22) A.a_Course_init
  na_Course_period : NoAttr K (A.C 22) "period"
  na_Course_rise : NoAttr K (A.C 22) "rise"
  na_Course_start : NoAttr K (A.C 22) "start"
  na_Course_told : NoAttr K (A.C 22) "told"
  z_all : mg "all" = none
  z_bool : mg "bool" = none
  z_enumerate : mg "enumerate" = none
  z_int : mg "int" = none
  z_isinstance : mg "isinstance" = none
  z_len : mg "len" = none
  z_list : mg "list" = none
  z_max : mg "max" = none
  z_min : mg "min" = none
  z_range : mg "range" = none
  z_str : mg "str" = none
  z_tuple : mg "tuple" = none
  kb_Course_first_with_0 : KB K A.f_Course_first_with P_Course_first_with 1 ["number"] [0]
  kb_Course_outlast_0 : KB K A.f_Course_outlast P_Course_outlast 1 ["number"] [0]
section
variable {P : Program} {w : World} {K : PySem.W.Frag} {mg : Str → Option Value} {base : Heap} {A : Ad}
theorem sc_fewest_numbers : FnScope N_fewest_numbers P_fewest_numbers (defScope s_fewest_numbers) := ⟨rfl, rfl, rfl, by decide +kernel, rfl, by decide +kernel, by decide +kernel⟩
theorem ok_fewest_numbers (T : Fx K mg A) : FnOk P w K mg base (L2.CX P w) 1 A.a_fewest_numbers A.f_fewest_numbers P_fewest_numbers (spS K A.C 3 d_fewest_numbers) := (fn_ok T.F_fewest_numbers sc_fewest_numbers rfl rfl fun cdv Ar outer s H E hr tk hp => by
    have hu := hr.units
    have hu5 : (Ar.deeper (envOfC "fewest_numbers" (defScope s_fewest_numbers) s.heap.objs.size A.a_fewest_numbers cdv)).units + 65 < cLine := by have := hr.un; omega
    have Sc := sc_fewest_numbers
    exact (ss_cons (sS_set (i := 3) Sc.nd rfl (by first | exact Or.inl rfl | exact Or.inr rfl) (se_callB call_lenX ok_len rfl T.z_len (by decide +kernel) (sa_cons (se_var (pv 0)) sa_nil)))
    (ss_cons (sS_while 1048576 hp (PW.pt (sw_and (st_cmp op_gt ok_gt (se_var (pv 3)) (se_var (pv 1)) (by first | exact nobehind _ (by decide) (by decide) | rfl)) (sw_and1 (st_cmp (op_eqX hu) ok_eq (se_ix hu (se_var (pv 0)) (se_op op_sub ok_sub (se_var (pv 3)) se_int) (fun _ _ => rfl)) (se_op op_addX (ok_add false) (se_ix hu (se_var (pv 0)) (se_op op_sub ok_sub (se_op op_sub ok_sub (se_var (pv 3)) se_int) (se_var (pv 1))) (fun _ _ => rfl)) (se_var (pv 2))) (by first | exact nobehind _ (by decide) (by decide) | rfl))))) (ss_one (sS_aug (i := 3) Sc.nd rfl (by first | exact Or.inl rfl | exact Or.inr rfl) se_int iop_sub ok_sub)))
    (ss_one (sS_ret (se_slice false (se_var (pv 0)) sp_none (sp_some (se_var (pv 3)))))))))
theorem sc_tail_number : FnScope N_tail_number P_tail_number (defScope s_tail_number) := ⟨rfl, rfl, rfl, by decide +kernel, rfl, by decide +kernel, by decide +kernel⟩
theorem ok_tail_number (T : Fx K mg A) : FnOk P w K mg base (L2.CX P w) 1 A.a_tail_number A.f_tail_number P_tail_number (spS K A.C 3 d_tail_number) := (fn_ok T.F_tail_number sc_tail_number rfl rfl fun cdv Ar outer s H E hr tk hp => by
    have hu := hr.units
    have hu5 : (Ar.deeper (envOfC "tail_number" (defScope s_tail_number) s.heap.objs.size A.a_tail_number cdv)).units + 65 < cLine := by have := hr.un; omega
    have Sc := sc_tail_number
    exact (ss_one (sS_ret (se_op op_addX (ok_add false) (se_ix hu (se_var (pv 0)) (se_op op_modN ok_mod (se_var (pv 2)) (se_callB call_lenX ok_len rfl T.z_len (by decide +kernel) (sa_cons (se_var (pv 0)) sa_nil))) (fun _ _ => rfl)) (se_op op_mulXX (ok_mul false) (se_op op_fdivX ok_fdiv (se_var (pv 2)) (se_callB call_lenX ok_len rfl T.z_len (by decide +kernel) (sa_cons (se_var (pv 0)) sa_nil))) (se_var (pv 1)))))))
theorem sc_least_every : FnScope N_least_every P_least_every (defScope s_least_every) := ⟨rfl, rfl, rfl, by decide +kernel, rfl, by decide +kernel, by decide +kernel⟩
theorem ok_least_every (T : Fx K mg A) : FnOk P w K mg base (L2.CX P w) 2 A.a_least_every A.f_least_every P_least_every (spS K A.C 2 d_least_every) := (fn_ok T.F_least_every sc_least_every rfl rfl fun cdv Ar outer s H E hr tk hp => by
    have hu := hr.units
    have hu5 : (Ar.deeper (envOfC "least_every" (defScope s_least_every) s.heap.objs.size A.a_least_every cdv)).units + 65 < cLine := by have := hr.un; omega
    have Sc := sc_least_every
    exact (ss_cons (sS_for hp rfl (si_range2 rfl T.z_range (sa_cons se_int (sa_cons (se_callB call_lenX ok_len rfl T.z_len (by decide +kernel) (sa_cons (se_var (pv 0)) sa_nil)) sa_nil))) (sg_name (pg_name (i := 2) Sc.nd rfl (by first | exact Or.inl rfl | exact Or.inr rfl))) (ss_one (sS_if (st_cmp (op_eqX hu) ok_eq (se_op op_modN ok_mod (se_callB call_lenX ok_len rfl T.z_len (by decide +kernel) (sa_cons (se_var (pv 0)) sa_nil)) (se_var (pv 2))) se_int (by first | exact nobehind _ (by decide) (by decide) | rfl)) (ss_cons (sS_set (i := 3) Sc.nd rfl (by first | exact Or.inl rfl | exact Or.inr rfl) (se_op op_sub ok_sub (se_ix hu (se_var (pv 0)) (se_var (pv 2)) (fun _ _ => rfl)) (se_ix hu (se_var (pv 0)) se_int (fun _ _ => rfl))))
    (ss_cons (sS_setLcF (i := 4) (ct := (CT.one 5)) rfl Sc.nd rfl rfl (sw_true rfl rfl rfl (by decide +kernel)) (si_range1 rfl T.z_range (sa_cons (se_callB call_lenX ok_len rfl T.z_len (by decide +kernel) (sa_cons (se_var (pv 0)) sa_nil)) sa_nil)) (blkOk_by (own := [("k", 5)]) (N := N_least_every) (sc := defScope s_least_every) (by decide +kernel)) (fun _ _ _ _ _ => ct_one (pg_name (i := 5) Sc.nd rfl (by first | exact Or.inl rfl | exact Or.inr rfl))) (fun _ _ _ _ _ => sp_nil) (fun _ _ _ _ _ => (se_op op_sub ok_sub (se_call (ok_tail_number T) (hr.mono (by decide)) rfl T.m_tail_number T.k_tail_number T.b_tail_number takes_no (sa_cons (se_var (pv 0)) (sa_cons (se_var (pv 1)) (sa_cons (se_op op_addX (ok_add false) (se_var (pv 5)) (se_var (pv 2))) sa_nil))) (hlen := (len_cons (len_cons (len_cons len_nil))))) (se_ix hu (se_var (pv 0)) (se_var (pv 5)) (fun _ _ => rfl)))) (by decide) rfl)
    (ss_one (sS_if (st_cmp (op_eqX hu) ok_eq (se_var (pv 4)) (se_op op_mulXX (ok_mul false) (se_lst false (sa_cons (se_var (pv 3)) sa_nil)) (se_callB call_lenX ok_len rfl T.z_len (by decide +kernel) (sa_cons (se_var (pv 0)) sa_nil))) (by first | exact nobehind _ (by decide) (by decide) | rfl)) (ss_one (sS_ret (se_tup (sa_cons (se_var (pv 2)) (sa_cons (se_var (pv 3)) sa_nil))))) ss_nil)))) ss_nil)))
    (ss_one (sS_ret (se_tup (sa_cons (se_callB call_lenX ok_len rfl T.z_len (by decide +kernel) (sa_cons (se_var (pv 0)) sa_nil)) (sa_cons (se_var (pv 1)) sa_nil)))))))
theorem sc_Course_init : FnScope N_Course_init P_Course_init (defScope s_Course_init) := ⟨rfl, rfl, rfl, by decide +kernel, rfl, by decide +kernel, by decide +kernel⟩
theorem ok_Course_init (T : Fx K mg A) : FnOk P w K mg base (L2.CX P w) 3 A.a_Course_init A.f_Course_init P_Course_init (spS K A.C 5 d_Course_init) := (fn_ok T.F_Course_init sc_Course_init rfl rfl fun cdv Ar outer s H E hr tk hp => by
    have hu := hr.units
    have hu5 : (Ar.deeper (envOfC "Course.__init__" (defScope s_Course_init) s.heap.objs.size A.a_Course_init cdv)).units + 65 < cLine := by have := hr.un; omega
    have Sc := sc_Course_init
    exact (ss_cons (sS_if (st_cmp op_lt ok_lt (se_var (pv 1)) se_int (by first | exact nobehind _ (by decide) (by decide) | rfl)) (ss_one sS_out) ss_nil)
    (ss_cons (sS_if (PW.pt (sw_or (st_cmp op_lt ok_lt (se_var (pv 3)) se_int (by first | exact nobehind _ (by decide) (by decide) | rfl)) (sw_or1 (st_cmp op_gt ok_gt (se_var (pv 3)) (se_callB call_lenX ok_len rfl T.z_len (by decide +kernel) (sa_cons (se_var (pv 2)) sa_nil)) (by first | exact nobehind _ (by decide) (by decide) | rfl))))) (ss_one sS_out) ss_nil)
    (ss_cons (sS_asg (se_call (ok_least_every T) (hr.mono (by decide)) rfl T.m_least_every T.k_least_every T.b_least_every tk (sa_cons (se_slice false (se_var (pv 2)) (sp_some (se_op op_sub ok_sub (se_callB call_lenX ok_len rfl T.z_len (by decide +kernel) (sa_cons (se_var (pv 2)) sa_nil)) (se_var (pv 3)))) sp_none) (sa_cons (se_var (pv 4)) sa_nil)) (hlen := (len_cons (len_cons len_nil)))) (sg_tup rfl (sgs_cons (sg_name (pg_name (i := 5) Sc.nd rfl (by first | exact Or.inl rfl | exact Or.inr rfl))) (sgs_cons (sg_name (pg_name (i := 6) Sc.nd rfl (by first | exact Or.inl rfl | exact Or.inr rfl))) sgs_nil))))
    (ss_cons (sS_fld (c := 22) T.cl_Course T.na_Course_start (se_var (pv 0)) (se_var (pv 1)))
    (ss_cons (sS_fld (c := 22) T.cl_Course T.na_Course_told (se_var (pv 0)) (se_call (ok_fewest_numbers T) (hr.mono (by decide)) rfl T.m_fewest_numbers T.k_fewest_numbers T.b_fewest_numbers tk (sa_cons (se_var (pv 2)) (sa_cons (se_var (pv 5)) (sa_cons (se_var (pv 6)) sa_nil))) (hlen := (len_cons (len_cons (len_cons len_nil))))))
    (ss_cons (sS_fld (c := 22) T.cl_Course T.na_Course_period (se_var (pv 0)) (se_var (pv 5)))
    (ss_one (sS_fld (c := 22) T.cl_Course T.na_Course_rise (se_var (pv 0)) (se_var (pv 6)))))))))))
theorem sc_Course_every : FnScope N_Course_every P_Course_every (defScope s_Course_every) := ⟨rfl, rfl, rfl, by decide +kernel, rfl, by decide +kernel, by decide +kernel⟩
theorem ok_Course_every (T : Fx K mg A) : FnOk P w K mg base (L2.CX P w) 1 A.a_Course_every A.f_Course_every P_Course_every (spS K A.C 1 d_Course_every) := (fn_ok T.F_Course_every sc_Course_every rfl rfl fun cdv Ar outer s H E hr tk hp => by
    have hu := hr.units
    have hu5 : (Ar.deeper (envOfC "Course.every" (defScope s_Course_every) s.heap.objs.size A.a_Course_every cdv)).units + 65 < cLine := by have := hr.un; omega
    have Sc := sc_Course_every
    exact (ss_one (sS_ret (se_fld (c := 22) T.cl_Course T.na_Course_period (se_var (pv 0))))))
theorem sc_Course_first_with : FnScope N_Course_first_with P_Course_first_with (defScope s_Course_first_with) := ⟨rfl, rfl, rfl, by decide +kernel, rfl, by decide +kernel, by decide +kernel⟩
theorem ok_Course_first_with (T : Fx K mg A) : FnOk P w K mg base (L2.CX P w) 1 A.a_Course_first_with A.f_Course_first_with P_Course_first_with (spS K A.C 2 d_Course_first_with) := fn_frz (fn_ok T.F_Course_first_with sc_Course_first_with rfl rfl fun cdv Ar outer s H E hr tk hp => by
    have hu := hr.units
    have hu5 : (Ar.deeper (envOfC "Course.first_with" (defScope s_Course_first_with) s.heap.objs.size A.a_Course_first_with cdv)).units + 65 < cLine := by have := hr.un; omega
    have Sc := sc_Course_first_with
    exact (ss_cons (sS_if (st_cmp (op_inX hu5) ok_in (se_var (pv 1)) (se_fld (c := 22) T.cl_Course T.na_Course_told (se_var (pv 0))) (by first | exact nobehind _ (by decide) (by decide) | rfl)) (ss_one (sS_ret (se_op op_addX (ok_add false) (se_fld (c := 22) T.cl_Course T.na_Course_start (se_var (pv 0))) (se_bm PySem.F.plainAttrs_list PySem.F.slot_list_index rfl (mt_indexD hu5) ok_index (se_fld (c := 22) T.cl_Course T.na_Course_told (se_var (pv 0))) (sa_cons (se_var (pv 1)) sa_nil))))) ss_nil)
    (ss_cons (sS_set (i := 2) Sc.nd rfl (by first | exact Or.inl rfl | exact Or.inr rfl) (se_lst true sa_nil))
    (ss_cons (sS_for hp rfl (si_range2 rfl T.z_range (sa_cons (se_op op_sub ok_sub (se_callB call_lenX ok_len rfl T.z_len (by decide +kernel) (sa_cons (se_fld (c := 22) T.cl_Course T.na_Course_told (se_var (pv 0))) sa_nil)) (se_fld (c := 22) T.cl_Course T.na_Course_period (se_var (pv 0)))) (sa_cons (se_callB call_lenX ok_len rfl T.z_len (by decide +kernel) (sa_cons (se_fld (c := 22) T.cl_Course T.na_Course_told (se_var (pv 0))) sa_nil)) sa_nil))) (sg_name (pg_name (i := 3) Sc.nd rfl (by first | exact Or.inl rfl | exact Or.inr rfl))) (ss_cons (sS_set (i := 4) Sc.nd rfl (by first | exact Or.inl rfl | exact Or.inr rfl) (se_op op_sub ok_sub (se_var (pv 1)) (se_ix hu (se_fld (c := 22) T.cl_Course T.na_Course_told (se_var (pv 0))) (se_var (pv 3)) (fun _ _ => rfl))))
    (ss_one (sS_if (PW.pt (sw_and (st_cmp (op_neX hu) ok_ne (se_fld (c := 22) T.cl_Course T.na_Course_rise (se_var (pv 0))) se_int (by first | exact nobehind _ (by decide) (by decide) | rfl)) (sw_and (st_cmp (op_eqX hu) ok_eq (se_op op_modN ok_mod (se_var (pv 4)) (se_fld (c := 22) T.cl_Course T.na_Course_rise (se_var (pv 0)))) se_int (by first | exact nobehind _ (by decide) (by decide) | rfl)) (sw_and1 (st_cmp op_gt ok_gt (se_op op_fdivX ok_fdiv (se_var (pv 4)) (se_fld (c := 22) T.cl_Course T.na_Course_rise (se_var (pv 0)))) se_int (by first | exact nobehind _ (by decide) (by decide) | rfl)))))) (ss_one (sS_expr (se_bm PySem.F.plainAttrs_list PySem.F.slot_list_append rfl mt_append ok_append (se_var (pv 2)) (sa_cons (se_op op_addX (ok_add false) (se_op op_addX (ok_add false) (se_fld (c := 22) T.cl_Course T.na_Course_start (se_var (pv 0))) (se_var (pv 3))) (se_op op_mulXX (ok_mul false) (se_op op_fdivX ok_fdiv (se_var (pv 4)) (se_fld (c := 22) T.cl_Course T.na_Course_rise (se_var (pv 0)))) (se_fld (c := 22) T.cl_Course T.na_Course_period (se_var (pv 0))))) sa_nil)))) ss_nil))))
    (ss_one (sS_ret (se_minDef rfl hu rfl T.z_min PyProof.Rows.boot_min (se_var (pv 2)) se_non)))))))
theorem sc_Course_least : FnScope N_Course_least P_Course_least (defScope s_Course_least) := ⟨rfl, rfl, rfl, by decide +kernel, rfl, by decide +kernel, by decide +kernel⟩
theorem ok_Course_least (T : Fx K mg A) : FnOk P w K mg base (L2.CX P w) 1 A.a_Course_least A.f_Course_least P_Course_least (spS K A.C 1 d_Course_least) := (fn_ok T.F_Course_least sc_Course_least rfl rfl fun cdv Ar outer s H E hr tk hp => by
    have hu := hr.units
    have hu5 : (Ar.deeper (envOfC "Course.least" (defScope s_Course_least) s.heap.objs.size A.a_Course_least cdv)).units + 65 < cLine := by have := hr.un; omega
    have Sc := sc_Course_least
    exact (ss_one (sS_ret (se_fld (c := 22) T.cl_Course T.na_Course_start (se_var (pv 0))))))
theorem sc_Course_more : FnScope N_Course_more P_Course_more (defScope s_Course_more) := ⟨rfl, rfl, rfl, by decide +kernel, rfl, by decide +kernel, by decide +kernel⟩
theorem ok_Course_more (T : Fx K mg A) : FnOk P w K mg base (L2.CX P w) 1 A.a_Course_more A.f_Course_more P_Course_more (spS K A.C 1 d_Course_more) := (fn_ok T.F_Course_more sc_Course_more rfl rfl fun cdv Ar outer s H E hr tk hp => by
    have hu := hr.units
    have hu5 : (Ar.deeper (envOfC "Course.more" (defScope s_Course_more) s.heap.objs.size A.a_Course_more cdv)).units + 65 < cLine := by have := hr.un; omega
    have Sc := sc_Course_more
    exact (ss_one (sS_ret (se_fld (c := 22) T.cl_Course T.na_Course_rise (se_var (pv 0))))))
theorem sc_Course_numbers : FnScope N_Course_numbers P_Course_numbers (defScope s_Course_numbers) := ⟨rfl, rfl, rfl, by decide +kernel, rfl, by decide +kernel, by decide +kernel⟩
theorem ok_Course_numbers (T : Fx K mg A) : FnOk P w K mg base (L2.CX P w) 1 A.a_Course_numbers A.f_Course_numbers P_Course_numbers (spS K A.C 1 d_Course_numbers) := (fn_ok T.F_Course_numbers sc_Course_numbers rfl rfl fun cdv Ar outer s H E hr tk hp => by
    have hu := hr.units
    have hu5 : (Ar.deeper (envOfC "Course.numbers" (defScope s_Course_numbers) s.heap.objs.size A.a_Course_numbers cdv)).units + 65 < cLine := by have := hr.un; omega
    have Sc := sc_Course_numbers
    exact (ss_one (sS_ret (se_callTy call_list_of (ok_list false) rfl T.z_list (by decide +kernel) (sa_cons (se_fld (c := 22) T.cl_Course T.na_Course_told (se_var (pv 0))) sa_nil)))))
theorem sc_Course_outlast : FnScope N_Course_outlast P_Course_outlast (defScope s_Course_outlast) := ⟨rfl, rfl, rfl, by decide +kernel, rfl, by decide +kernel, by decide +kernel⟩
theorem ok_Course_outlast (T : Fx K mg A) : FnOk P w K mg base (L2.CX P w) 1 A.a_Course_outlast A.f_Course_outlast P_Course_outlast (spS K A.C 2 d_Course_outlast) := (fn_ok T.F_Course_outlast sc_Course_outlast rfl rfl fun cdv Ar outer s H E hr tk hp => by
    have hu := hr.units
    have hu5 : (Ar.deeper (envOfC "Course.outlast" (defScope s_Course_outlast) s.heap.objs.size A.a_Course_outlast cdv)).units + 65 < cLine := by have := hr.un; omega
    have Sc := sc_Course_outlast
    exact (ss_cons (sS_set (i := 2) Sc.nd rfl (by first | exact Or.inl rfl | exact Or.inr rfl) (se_slice false (se_fld (c := 22) T.cl_Course T.na_Course_told (se_var (pv 0))) (sp_some (se_neg (se_fld (c := 22) T.cl_Course T.na_Course_period (se_var (pv 0))))) sp_none))
    (ss_cons (sS_if (PW.pt (sw_or (st_cmp op_lt ok_lt (se_fld (c := 22) T.cl_Course T.na_Course_rise (se_var (pv 0))) se_int (by first | exact nobehind _ (by decide) (by decide) | rfl)) (sw_or1 (PW.pt (sw_and (st_cmp (op_eqX hu) ok_eq (se_fld (c := 22) T.cl_Course T.na_Course_rise (se_var (pv 0))) se_int (by first | exact nobehind _ (by decide) (by decide) | rfl)) (sw_and1 (st_cmp op_le ok_le (se_callB (call_minX rfl) ok_min rfl T.z_min (by decide +kernel) (sa_cons (se_var (pv 2)) sa_nil)) (se_var (pv 1)) (by first | exact nobehind _ (by decide) (by decide) | rfl)))))))) (ss_one (sS_ret se_non)) ss_nil)
    (ss_cons (sS_set (i := 3) Sc.nd rfl (by first | exact Or.inl rfl | exact Or.inr rfl) (se_neg se_int))
    (ss_cons (sS_for hp rfl (si_enum rfl T.z_enumerate (sa_cons (se_fld (c := 22) T.cl_Course T.na_Course_told (se_var (pv 0))) sa_nil)) (sg_tup rfl (sgs_cons (sg_name (pg_name (i := 4) Sc.nd rfl (by first | exact Or.inl rfl | exact Or.inr rfl))) (sgs_cons (sg_name (pg_name (i := 5) Sc.nd rfl (by first | exact Or.inl rfl | exact Or.inr rfl))) sgs_nil))) (ss_one (sS_if (st_cmp op_le ok_le (se_var (pv 5)) (se_var (pv 1)) (by first | exact nobehind _ (by decide) (by decide) | rfl)) (ss_cons (sS_set (i := 3) Sc.nd rfl (by first | exact Or.inl rfl | exact Or.inr rfl) (se_callB (call_maxX rfl) ok_max rfl T.z_max (by decide +kernel) (sa_cons (se_var (pv 3)) (sa_cons (se_var (pv 4)) sa_nil))))
    (ss_one (sS_if (PW.pt (sw_and (st_cmp op_gt ok_gt (se_fld (c := 22) T.cl_Course T.na_Course_rise (se_var (pv 0))) se_int (by first | exact nobehind _ (by decide) (by decide) | rfl)) (sw_and1 (st_cmp op_ge ok_ge (se_var (pv 4)) (se_op op_sub ok_sub (se_callB call_lenX ok_len rfl T.z_len (by decide +kernel) (sa_cons (se_fld (c := 22) T.cl_Course T.na_Course_told (se_var (pv 0))) sa_nil)) (se_fld (c := 22) T.cl_Course T.na_Course_period (se_var (pv 0)))) (by first | exact nobehind _ (by decide) (by decide) | rfl))))) (ss_one (sS_set (i := 3) Sc.nd rfl (by first | exact Or.inl rfl | exact Or.inr rfl) (se_callB (call_maxX rfl) ok_max rfl T.z_max (by decide +kernel) (sa_cons (se_var (pv 3)) (sa_cons (se_op op_addX (ok_add false) (se_var (pv 4)) (se_op op_mulXX (ok_mul false) (se_op op_fdivX ok_fdiv (se_op op_sub ok_sub (se_var (pv 1)) (se_var (pv 5))) (se_fld (c := 22) T.cl_Course T.na_Course_rise (se_var (pv 0)))) (se_fld (c := 22) T.cl_Course T.na_Course_period (se_var (pv 0))))) sa_nil))))) ss_nil))) ss_nil)))
    (ss_one (sS_ret (se_op op_addX (ok_add false) (se_op op_addX (ok_add false) (se_fld (c := 22) T.cl_Course T.na_Course_start (se_var (pv 0))) (se_var (pv 3))) se_int))))))))
theorem sc_law_pick : FnScope N_law_pick P_law_pick (defScope s_law_pick) := ⟨rfl, rfl, rfl, by decide +kernel, rfl, by decide +kernel, by decide +kernel⟩
theorem ok_law_pick (T : Fx K mg A) : FnOk P w K mg base (L2.CX P w) 1 A.a_law_pick A.f_law_pick P_law_pick (spS K A.C 2 d_law_pick) := (fn_ok T.F_law_pick sc_law_pick rfl rfl fun cdv Ar outer s H E hr tk hp => by
    have hu := hr.units
    have hu5 : (Ar.deeper (envOfC "_law_pick" (defScope s_law_pick) s.heap.objs.size A.a_law_pick cdv)).units + 65 < cLine := by have := hr.un; omega
    have Sc := sc_law_pick
    exact (ss_cons (sS_set (i := 2) Sc.nd rfl (by first | exact Or.inl rfl | exact Or.inr rfl) (se_op op_modN ok_mod (se_callTy call_int1 ok_int rfl T.z_int (by decide +kernel) (sa_cons (se_ix hu (se_var (pv 0)) se_int (fun _ _ => rfl)) sa_nil)) (se_var (pv 1))))
    (ss_cons (sS_asg (se_op op_fdivX ok_fdiv (se_ix hu (se_var (pv 0)) se_int (fun _ _ => rfl)) (se_var (pv 1))) (sg_sub (W := WNo) hu (se_var (pv 0)) se_int))
    (ss_one (sS_ret (se_var (pv 2)))))))
theorem sc_law_course : FnScope N_law_course P_law_course (defScope s_law_course) := ⟨rfl, rfl, rfl, by decide +kernel, rfl, by decide +kernel, by decide +kernel⟩
theorem ok_law_course (T : Fx K mg A) : FnOk P w K mg base (L2.CX P w) 2 A.a_law_course A.f_law_course P_law_course (spS K A.C 2 d_law_course) := (fn_ok T.F_law_course sc_law_course rfl rfl fun cdv Ar outer s H E hr tk hp => by
    have hu := hr.units
    have hu5 : (Ar.deeper (envOfC "_law_course" (defScope s_law_course) s.heap.objs.size A.a_law_course cdv)).units + 65 < cLine := by have := hr.un; omega
    have Sc := sc_law_course
    exact (ss_cons (sS_set (i := 2) Sc.nd rfl (by first | exact Or.inl rfl | exact Or.inr rfl) (se_lst false (sa_cons se_int (sa_cons se_int (sa_cons (se_op op_pow ok_pow se_int se_int) sa_nil)))))
    (ss_cons (sS_set (i := 3) Sc.nd rfl (by first | exact Or.inl rfl | exact Or.inr rfl) (se_cmp (op_eqX hu) ok_eq (se_call (ok_law_pick T) (hr.mono (by decide)) rfl T.m_law_pick T.k_law_pick T.b_law_pick tk (sa_cons (se_var (pv 0)) (sa_cons se_int sa_nil)) (hlen := (len_cons (len_cons len_nil)))) se_int (by first | exact nobehind _ (by decide) (by decide) | rfl)))
    (ss_cons (sS_set (i := 4) Sc.nd rfl (by first | exact Or.inl rfl | exact Or.inr rfl) (se_ix hu (se_var (pv 2)) (se_call (ok_law_pick T) (hr.mono (by decide)) rfl T.m_law_pick T.k_law_pick T.b_law_pick tk (sa_cons (se_var (pv 0)) (sa_cons se_int sa_nil)) (hlen := (len_cons (len_cons len_nil)))) (fun _ _ => rfl)))
    (ss_cons (sS_set (i := 5) Sc.nd rfl (by first | exact Or.inl rfl | exact Or.inr rfl) (se_op op_sub ok_sub (se_op op_mulXX (ok_mul false) (se_ix hu (se_lst false (sa_cons se_int (sa_cons se_int (sa_cons se_int sa_nil)))) (se_call (ok_law_pick T) (hr.mono (by decide)) rfl T.m_law_pick T.k_law_pick T.b_law_pick tk (sa_cons (se_var (pv 0)) (sa_cons se_int sa_nil)) (hlen := (len_cons (len_cons len_nil)))) (fun _ _ => rfl)) (se_op op_addX (ok_add false) se_int (se_call (ok_law_pick T) (hr.mono (by decide)) rfl T.m_law_pick T.k_law_pick T.b_law_pick tk (sa_cons (se_var (pv 0)) (sa_cons (se_var (pv 4)) sa_nil)) (hlen := (len_cons (len_cons len_nil)))))) (se_op op_mulXX (ok_mul false) (se_call (ok_law_pick T) (hr.mono (by decide)) rfl T.m_law_pick T.k_law_pick T.b_law_pick tk (sa_cons (se_var (pv 0)) (sa_cons se_int sa_nil)) (hlen := (len_cons (len_cons len_nil)))) (se_call (ok_law_pick T) (hr.mono (by decide)) rfl T.m_law_pick T.k_law_pick T.b_law_pick tk (sa_cons (se_var (pv 0)) (sa_cons (se_var (pv 4)) sa_nil)) (hlen := (len_cons (len_cons len_nil)))))))
    (ss_cons (sS_set (i := 6) Sc.nd rfl (by first | exact Or.inl rfl | exact Or.inr rfl) (se_op op_addX (ok_add false) se_int (se_call (ok_law_pick T) (hr.mono (by decide)) rfl T.m_law_pick T.k_law_pick T.b_law_pick tk (sa_cons (se_var (pv 0)) (sa_cons (se_ix hu (se_lst false (sa_cons se_int (sa_cons se_int (sa_cons (se_op op_sub ok_sub (se_op op_pow ok_pow se_int se_int) se_int) sa_nil)))) (se_call (ok_law_pick T) (hr.mono (by decide)) rfl T.m_law_pick T.k_law_pick T.b_law_pick tk (sa_cons (se_var (pv 0)) (sa_cons se_int sa_nil)) (hlen := (len_cons (len_cons len_nil)))) (fun _ _ => rfl)) sa_nil)) (hlen := (len_cons (len_cons len_nil))))))
    (ss_cons (sS_set (i := 7) Sc.nd rfl (by first | exact Or.inl rfl | exact Or.inr rfl) (se_op op_addX (ok_add false) se_int (se_call (ok_law_pick T) (hr.mono (by decide)) rfl T.m_law_pick T.k_law_pick T.b_law_pick tk (sa_cons (se_var (pv 0)) (sa_cons (se_ix hu (se_lst false (sa_cons se_int (sa_cons (se_var (pv 1)) sa_nil))) (se_callTy call_int1 ok_int rfl T.z_int (by decide +kernel) (sa_cons (se_var (pv 3)) sa_nil)) (fun _ _ => rfl)) sa_nil)) (hlen := (len_cons (len_cons len_nil))))))
    (ss_cons (sS_set (i := 8) Sc.nd rfl (by first | exact Or.inl rfl | exact Or.inr rfl) (se_frz (se_lc (ct := (CT.one 9)) rfl Sc.nd (si_range1 rfl T.z_range (sa_cons se_int sa_nil)) (blkOk_by (own := [("_law_k", 9)]) (N := N_law_course) (sc := defScope s_law_course) (by decide +kernel)) (fun _ _ _ _ _ => ct_one (pg_name (i := 9) Sc.nd rfl (by first | exact Or.inl rfl | exact Or.inr rfl))) (fun _ _ _ _ _ => sp_nil) (fun _ _ _ _ _ => (se_op op_sub ok_sub (se_call (ok_law_pick T) (hr.mono (by decide)) rfl T.m_law_pick T.k_law_pick T.b_law_pick takes_no (sa_cons (se_var (pv 0)) (sa_cons (se_op op_mulXX (ok_mul false) se_int (se_var (pv 4))) sa_nil)) (hlen := (len_cons (len_cons len_nil)))) (se_var (pv 4)))) (by decide) rfl)))
    (ss_cons (sS_setLcF (i := 10) (ct := (CT.one 9)) rfl Sc.nd rfl rfl (sw_true rfl rfl rfl (by decide +kernel)) (si_range1 rfl T.z_range (sa_cons (se_call (ok_law_pick T) (hr.mono (by decide)) rfl T.m_law_pick T.k_law_pick T.b_law_pick tk (sa_cons (se_var (pv 0)) (sa_cons (se_ix hu (se_lst false (sa_cons se_int (sa_cons se_int sa_nil))) (se_callTy call_int1 ok_int rfl T.z_int (by decide +kernel) (sa_cons (se_var (pv 3)) sa_nil)) (fun _ _ => rfl)) sa_nil)) (hlen := (len_cons (len_cons len_nil)))) sa_nil)) (blkOk_by (own := [("_law_k", 9)]) (N := N_law_course) (sc := defScope s_law_course) (by decide +kernel)) (fun _ _ _ _ _ => ct_one (pg_name (i := 9) Sc.nd rfl (by first | exact Or.inl rfl | exact Or.inr rfl))) (fun _ _ _ _ _ => sp_nil) (fun _ _ _ _ _ => (se_ix hu (se_var (pv 8)) (se_op op_modN ok_mod (se_op op_addX (ok_add false) (se_op op_mulXX (ok_mul false) (se_var (pv 9)) (se_var (pv 9))) se_int) se_int) (fun _ _ => rfl))) (by decide) rfl)
    (ss_one (sS_ret (se_tup (sa_cons (se_var (pv 6)) (sa_cons (se_op op_addX (ok_add false) (se_var (pv 10)) (se_frz (se_lc (ct := (CT.one 9)) rfl Sc.nd (si_range1 rfl T.z_range (sa_cons (se_var (pv 7)) sa_nil)) (blkOk_by (own := [("_law_k", 9)]) (N := N_law_course) (sc := defScope s_law_course) (by decide +kernel)) (fun _ _ _ _ _ => ct_one (pg_name (i := 9) Sc.nd rfl (by first | exact Or.inl rfl | exact Or.inr rfl))) (fun _ _ _ _ _ => sp_nil) (fun _ _ _ _ _ => (se_ix hu (se_var (pv 8)) (se_op op_modN ok_mod (se_op op_addX (ok_add false) (se_op op_mulXX (ok_mul false) (se_var (pv 9)) (se_var (pv 9))) (se_op op_fdivX ok_fdiv (se_var (pv 9)) se_int)) se_int) (fun _ _ => rfl))) (by decide) rfl))) (sa_cons (se_var (pv 7)) (sa_cons (se_var (pv 5)) sa_nil))))))))))))))))
theorem sc_law_value : FnScope N_law_value P_law_value (defScope s_law_value) := ⟨rfl, rfl, rfl, by decide +kernel, rfl, by decide +kernel, by decide +kernel⟩
theorem ok_law_value (T : Fx K mg A) : FnOk P w K mg base (L2.CX P w) 1 A.a_law_value A.f_law_value P_law_value (spS K A.C 2 d_law_value) := (fn_ok T.F_law_value sc_law_value rfl rfl fun cdv Ar outer s H E hr tk hp => by
    have hu := hr.units
    have hu5 : (Ar.deeper (envOfC "_law_value" (defScope s_law_value) s.heap.objs.size A.a_law_value cdv)).units + 65 < cLine := by have := hr.un; omega
    have Sc := sc_law_value
    exact (ss_cons (sS_set (i := 2) Sc.nd rfl (by first | exact Or.inl rfl | exact Or.inr rfl) (se_ix hu (se_var (pv 0)) se_int (fun _ _ => rfl)))
    (ss_cons (sS_if (st_cmp op_lt ok_lt (se_var (pv 1)) (se_callB call_lenX ok_len rfl T.z_len (by decide +kernel) (sa_cons (se_var (pv 2)) sa_nil)) (by first | exact nobehind _ (by decide) (by decide) | rfl)) (ss_one (sS_ret (se_ix hu (se_var (pv 2)) (se_var (pv 1)) (fun _ _ => rfl)))) ss_nil)
    (ss_cons (sS_set (i := 3) Sc.nd rfl (by first | exact Or.inl rfl | exact Or.inr rfl) (se_op op_addX (ok_add false) (se_op op_fdivX ok_fdiv (se_op op_sub ok_sub (se_var (pv 1)) (se_callB call_lenX ok_len rfl T.z_len (by decide +kernel) (sa_cons (se_var (pv 2)) sa_nil))) (se_ix hu (se_var (pv 0)) se_int (fun _ _ => rfl))) se_int))
    (ss_one (sS_ret (se_op op_addX (ok_add false) (se_ix hu (se_var (pv 2)) (se_op op_sub ok_sub (se_var (pv 1)) (se_op op_mulXX (ok_mul false) (se_var (pv 3)) (se_ix hu (se_var (pv 0)) se_int (fun _ _ => rfl)))) (fun _ _ => rfl)) (se_op op_mulXX (ok_mul false) (se_var (pv 3)) (se_ix hu (se_var (pv 0)) se_int (fun _ _ => rfl))))))))))
theorem sc_law_first : FnScope N_law_first P_law_first (defScope s_law_first) := ⟨rfl, rfl, rfl, by decide +kernel, rfl, by decide +kernel, by decide +kernel⟩
theorem ok_law_first (T : Fx K mg A) : FnOk P w K mg base (L2.CX P w) 2 A.a_law_first A.f_law_first P_law_first (spS K A.C 2 d_law_first) := (fn_ok T.F_law_first sc_law_first rfl rfl fun cdv Ar outer s H E hr tk hp => by
    have hu := hr.units
    have hu5 : (Ar.deeper (envOfC "_law_first" (defScope s_law_first) s.heap.objs.size A.a_law_first cdv)).units + 65 < cLine := by have := hr.un; omega
    have Sc := sc_law_first
    exact (ss_cons (sS_asg (se_var (pv 0)) (sg_tup rfl (sgs_cons (sg_name (pg_name (i := 2) Sc.nd rfl (by first | exact Or.inl rfl | exact Or.inr rfl))) (sgs_cons (sg_name (pg_name (i := 3) Sc.nd rfl (by first | exact Or.inl rfl | exact Or.inr rfl))) (sgs_cons (sg_name (pg_name (i := 4) Sc.nd rfl (by first | exact Or.inl rfl | exact Or.inr rfl))) (sgs_cons (sg_name (pg_name (i := 5) Sc.nd rfl (by first | exact Or.inl rfl | exact Or.inr rfl))) sgs_nil))))))
    (ss_cons (sS_for hp rfl (si_range1 rfl T.z_range (sa_cons (se_callB call_lenX ok_len rfl T.z_len (by decide +kernel) (sa_cons (se_var (pv 3)) sa_nil)) sa_nil)) (sg_name (pg_name (i := 6) Sc.nd rfl (by first | exact Or.inl rfl | exact Or.inr rfl))) (ss_one (sS_if (st_cmp (op_eqX hu) ok_eq (se_ix hu (se_var (pv 3)) (se_var (pv 6)) (fun _ _ => rfl)) (se_var (pv 1)) (by first | exact nobehind _ (by decide) (by decide) | rfl)) (ss_one (sS_ret (se_var (pv 6)))) ss_nil)))
    (ss_cons (sS_set (i := 7) Sc.nd rfl (by first | exact Or.inl rfl | exact Or.inr rfl) se_non)
    (ss_cons (sS_for hp rfl (si_range2 rfl T.z_range (sa_cons (se_callB call_lenX ok_len rfl T.z_len (by decide +kernel) (sa_cons (se_var (pv 3)) sa_nil)) (sa_cons (se_op op_addX (ok_add false) (se_callB call_lenX ok_len rfl T.z_len (by decide +kernel) (sa_cons (se_var (pv 3)) sa_nil)) (se_var (pv 4))) sa_nil))) (sg_name (pg_name (i := 6) Sc.nd rfl (by first | exact Or.inl rfl | exact Or.inr rfl))) (ss_cons (sS_set (i := 8) Sc.nd rfl (by first | exact Or.inl rfl | exact Or.inr rfl) (se_op op_sub ok_sub (se_var (pv 1)) (se_call (ok_law_value T) (hr.mono (by decide)) rfl T.m_law_value T.k_law_value T.b_law_value tk (sa_cons (se_var (pv 0)) (sa_cons (se_var (pv 6)) sa_nil)) (hlen := (len_cons (len_cons len_nil))))))
    (ss_one (sS_if (PW.pt (sw_or (st_cmp (op_eqX hu) ok_eq (se_var (pv 8)) se_int (by first | exact nobehind _ (by decide) (by decide) | rfl)) (sw_or1 (PW.pt (sw_and (st_cmp (op_neX hu) ok_ne (se_var (pv 5)) se_int (by first | exact nobehind _ (by decide) (by decide) | rfl)) (sw_and (st_cmp (op_eqX hu) ok_eq (se_op op_modN ok_mod (se_callTy call_int1 ok_int rfl T.z_int (by decide +kernel) (sa_cons (se_var (pv 8)) sa_nil)) (se_var (pv 5))) se_int (by first | exact nobehind _ (by decide) (by decide) | rfl)) (sw_and1 (st_cmp op_gt ok_gt (se_op op_fdivX ok_fdiv (se_var (pv 8)) (se_var (pv 5))) se_int (by first | exact nobehind _ (by decide) (by decide) | rfl))))))))) (ss_cons (sS_set (i := 9) Sc.nd rfl (by first | exact Or.inl rfl | exact Or.inr rfl) (se_var (pv 6)))
    (ss_cons (sS_if (st_cmp (op_neX hu) ok_ne (se_var (pv 8)) se_int (by first | exact nobehind _ (by decide) (by decide) | rfl)) (ss_one (sS_set (i := 9) Sc.nd rfl (by first | exact Or.inl rfl | exact Or.inr rfl) (se_op op_addX (ok_add false) (se_var (pv 6)) (se_op op_mulXX (ok_mul false) (se_op op_fdivX ok_fdiv (se_var (pv 8)) (se_var (pv 5))) (se_var (pv 4)))))) ss_nil)
    (ss_one (sS_if (PW.pt (sw_or (st_cmp op_isX ok_is (se_var (pv 7)) se_non (by first | exact nobehind _ (by decide) (by decide) | rfl)) (sw_or1 (st_cmp op_lt ok_lt (se_var (pv 9)) (se_var (pv 7)) (by first | exact nobehind _ (by decide) (by decide) | rfl))))) (ss_one (sS_set (i := 7) Sc.nd rfl (by first | exact Or.inl rfl | exact Or.inr rfl) (se_var (pv 9)))) ss_nil)))) ss_nil))))
    (ss_one (sS_ret (se_var (pv 7)))))))))
theorem sc_law_outlasts : FnScope N_law_outlasts P_law_outlasts (defScope s_law_outlasts) := ⟨rfl, rfl, rfl, by decide +kernel, rfl, by decide +kernel, by decide +kernel⟩
theorem ok_law_outlasts (T : Fx K mg A) : FnOk P w K mg base (L2.CX P w) 2 A.a_law_outlasts A.f_law_outlasts P_law_outlasts (spS K A.C 3 d_law_outlasts) := (fn_ok T.F_law_outlasts sc_law_outlasts rfl rfl fun cdv Ar outer s H E hr tk hp => by
    have hu := hr.units
    have hu5 : (Ar.deeper (envOfC "_law_outlasts" (defScope s_law_outlasts) s.heap.objs.size A.a_law_outlasts cdv)).units + 65 < cLine := by have := hr.un; omega
    have Sc := sc_law_outlasts
    exact (ss_cons (sS_asg (se_var (pv 0)) (sg_tup rfl (sgs_cons (sg_name (pg_name (i := 3) Sc.nd rfl (by first | exact Or.inl rfl | exact Or.inr rfl))) (sgs_cons (sg_name (pg_name (i := 4) Sc.nd rfl (by first | exact Or.inl rfl | exact Or.inr rfl))) (sgs_cons (sg_name (pg_name (i := 5) Sc.nd rfl (by first | exact Or.inl rfl | exact Or.inr rfl))) (sgs_cons (sg_name (pg_name (i := 6) Sc.nd rfl (by first | exact Or.inl rfl | exact Or.inr rfl))) sgs_nil))))))
    (ss_cons (sS_set (i := 7) Sc.nd rfl (by first | exact Or.inl rfl | exact Or.inr rfl) (se_slice false (se_var (pv 4)) (sp_some (se_op op_sub ok_sub (se_callB call_lenX ok_len rfl T.z_len (by decide +kernel) (sa_cons (se_var (pv 4)) sa_nil)) (se_var (pv 5)))) sp_none))
    (ss_cons (sS_if (PW.pt (sw_or (st_cmp op_lt ok_lt (se_var (pv 6)) se_int (by first | exact nobehind _ (by decide) (by decide) | rfl)) (sw_or1 (PW.pt (sw_and (st_cmp (op_eqX hu) ok_eq (se_var (pv 6)) se_int (by first | exact nobehind _ (by decide) (by decide) | rfl)) (sw_and1 (st_cmp op_le ok_le (se_callB (call_minX rfl) ok_min rfl T.z_min (by decide +kernel) (sa_cons (se_var (pv 7)) sa_nil)) (se_var (pv 1)) (by first | exact nobehind _ (by decide) (by decide) | rfl)))))))) (ss_one (sS_ret (se_cmp op_isX ok_is (se_var (pv 2)) se_non (by first | exact nobehind _ (by decide) (by decide) | rfl)))) ss_nil)
    (ss_cons (sS_if (PW.pt (sw_or (st_not (st_val (se_isI rfl T.z_isinstance rfl T.z_int (by decide +kernel) (se_var (pv 2))))) (sw_or (st_val (se_isI rfl T.z_isinstance rfl T.z_bool (by decide +kernel) (se_var (pv 2)))) (sw_or1 (st_cmp op_lt ok_lt (se_var (pv 2)) (se_var (pv 3)) (by first | exact nobehind _ (by decide) (by decide) | rfl)))))) (ss_one (sS_ret se_bl)) ss_nil)
    (ss_cons (sS_if (PW.pt (sw_and (st_cmp op_gt ok_gt (se_var (pv 2)) (se_var (pv 3)) (by first | exact nobehind _ (by decide) (by decide) | rfl)) (sw_and1 (st_cmp op_gt ok_gt (se_call (ok_law_value T) (hr.mono (by decide)) rfl T.m_law_value T.k_law_value T.b_law_value tk (sa_cons (se_var (pv 0)) (sa_cons (se_op op_sub ok_sub (se_op op_sub ok_sub (se_var (pv 2)) (se_var (pv 3))) se_int) sa_nil)) (hlen := (len_cons (len_cons len_nil)))) (se_var (pv 1)) (by first | exact nobehind _ (by decide) (by decide) | rfl))))) (ss_one (sS_ret se_bl)) ss_nil)
    (ss_cons (sS_for hp rfl (si_range1 rfl T.z_range (sa_cons (se_op op_addX (ok_add false) (se_callB call_lenX ok_len rfl T.z_len (by decide +kernel) (sa_cons (se_var (pv 4)) sa_nil)) (se_op op_mulXX (ok_mul false) se_int (se_var (pv 5)))) sa_nil)) (sg_name (pg_name (i := 8) Sc.nd rfl (by first | exact Or.inl rfl | exact Or.inr rfl))) (ss_one (sS_if (PW.pt (sw_and (st_cmp op_ge ok_ge (se_op op_addX (ok_add false) (se_var (pv 8)) (se_var (pv 3))) (se_var (pv 2)) (by first | exact nobehind _ (by decide) (by decide) | rfl)) (sw_and1 (st_cmp op_le ok_le (se_call (ok_law_value T) (hr.mono (by decide)) rfl T.m_law_value T.k_law_value T.b_law_value tk (sa_cons (se_var (pv 0)) (sa_cons (se_var (pv 8)) sa_nil)) (hlen := (len_cons (len_cons len_nil)))) (se_var (pv 1)) (by first | exact nobehind _ (by decide) (by decide) | rfl))))) (ss_one (sS_ret se_bl)) ss_nil)))
    (ss_one (sS_ret (se_callB (cr_all rfl) ok_all rfl T.z_all (by decide +kernel) (sa_cons (se_frz (se_lc (ct := (CT.one 8)) rfl Sc.nd (si_range1 rfl T.z_range (sa_cons (se_op op_mulXX (ok_mul false) se_int (se_var (pv 5))) sa_nil)) (blkOk_by (own := [("_law_k", 8)]) (N := N_law_outlasts) (sc := defScope s_law_outlasts) (by decide +kernel)) (fun _ _ _ _ _ => ct_one (pg_name (i := 8) Sc.nd rfl (by first | exact Or.inl rfl | exact Or.inr rfl))) (fun _ _ _ _ _ => sp_nil) (fun _ _ _ _ _ => (se_cmp op_gt ok_gt (se_call (ok_law_value T) (hr.mono (by decide)) rfl T.m_law_value T.k_law_value T.b_law_value takes_no (sa_cons (se_var (pv 0)) (sa_cons (se_op op_addX (ok_add false) (se_op op_sub ok_sub (se_var (pv 2)) (se_var (pv 3))) (se_var (pv 8))) sa_nil)) (hlen := (len_cons (len_cons len_nil)))) (se_var (pv 1)) (by first | exact nobehind _ (by decide) (by decide) | rfl))) (by decide) rfl)) sa_nil)))))))))))
theorem sc_law_same : FnScope N_law_same P_law_same (defScope s_law_same) := ⟨rfl, rfl, rfl, by decide +kernel, rfl, by decide +kernel, by decide +kernel⟩
theorem ok_law_same_n (T : Fx K mg A) : ∀ n : Nat, FnOk P w K mg base (L2.CX P w) (1 + n) A.a_law_same A.f_law_same P_law_same (spS K A.C 2 (d_law_same_n n))
  | 0 => fn_stuck T.F_law_same sc_law_same rfl
  | n + 1 => by
    have ih := ok_law_same_n T n
    exact (fn_ok T.F_law_same sc_law_same rfl rfl fun cdv Ar outer s H E hr tk hp => by
      have hu := hr.units
      have hu5 : (Ar.deeper (envOfC "_law_same" (defScope s_law_same) s.heap.objs.size A.a_law_same cdv)).units + 65 < cLine := by have := hr.un; omega
      have Sc := sc_law_same
      have hrec := hr.mono (Nat.le_refl (1 + n))
      have hr := hr.mono (Nat.le_add_right 1 n)
      exact (ss_cons (sS_if (st_cmp op_isX ok_is (se_var (pv 1)) se_non (by first | exact nobehind _ (by decide) (by decide) | rfl)) (ss_one (sS_ret (se_cmp op_isX ok_is (se_var (pv 0)) se_non (by first | exact nobehind _ (by decide) (by decide) | rfl)))) ss_nil)
    (ss_cons (sS_if (st_val (se_isI rfl T.z_isinstance rfl T.z_bool (by decide +kernel) (se_var (pv 1)))) (ss_one (sS_ret (se_and (se_isI rfl T.z_isinstance rfl T.z_bool (by decide +kernel) (se_var (pv 0))) (se_one (se_cmp (op_eqX hu) ok_eq (se_var (pv 0)) (se_var (pv 1)) (by first | exact nobehind _ (by decide) (by decide) | rfl)))))) ss_nil)
    (ss_cons (sS_if (st_val (se_isI rfl T.z_isinstance rfl T.z_int (by decide +kernel) (se_var (pv 1)))) (ss_one (sS_ret (se_and (se_isI rfl T.z_isinstance rfl T.z_int (by decide +kernel) (se_var (pv 0))) (se_and (se_not (se_isI rfl T.z_isinstance rfl T.z_bool (by decide +kernel) (se_var (pv 0)))) (se_one (se_cmp (op_eqX hu) ok_eq (se_var (pv 0)) (se_var (pv 1)) (by first | exact nobehind _ (by decide) (by decide) | rfl))))))) ss_nil)
    (ss_cons (sS_if (st_val (se_isI rfl T.z_isinstance rfl T.z_str (by decide +kernel) (se_var (pv 1)))) (ss_one (sS_ret (se_and (se_isI rfl T.z_isinstance rfl T.z_str (by decide +kernel) (se_var (pv 0))) (se_one (se_cmp (op_eqX hu) ok_eq (se_var (pv 0)) (se_var (pv 1)) (by first | exact nobehind _ (by decide) (by decide) | rfl)))))) ss_nil)
    (ss_cons (sS_if (PW.pt (sw_and (st_val (se_isI rfl T.z_isinstance rfl T.z_list (by decide +kernel) (se_var (pv 1)))) (sw_and1 (st_not (st_val (se_isI rfl T.z_isinstance rfl T.z_list (by decide +kernel) (se_var (pv 0)))))))) (ss_one (sS_ret se_bl)) ss_nil)
    (ss_cons (sS_if (PW.pt (sw_and (st_val (se_isI rfl T.z_isinstance rfl T.z_tuple (by decide +kernel) (se_var (pv 1)))) (sw_and1 (st_not (st_val (se_isI rfl T.z_isinstance rfl T.z_tuple (by decide +kernel) (se_var (pv 0)))))))) (ss_one (sS_ret se_bl)) ss_nil)
    (ss_cons (sS_if (st_cmp (op_neX hu) ok_ne (se_callB call_lenX ok_len rfl T.z_len (by decide +kernel) (sa_cons (se_var (pv 0)) sa_nil)) (se_callB call_lenX ok_len rfl T.z_len (by decide +kernel) (sa_cons (se_var (pv 1)) sa_nil)) (by first | exact nobehind _ (by decide) (by decide) | rfl)) (ss_one (sS_ret se_bl)) ss_nil)
    (ss_one (sS_ret (se_callB (cr_all rfl) ok_all rfl T.z_all (by decide +kernel) (sa_cons (se_frz (se_lc (ct := (CT.one 2)) rfl Sc.nd (si_range1 rfl T.z_range (sa_cons (se_callB call_lenX ok_len rfl T.z_len (by decide +kernel) (sa_cons (se_var (pv 1)) sa_nil)) sa_nil)) (blkOk_by (own := [("_law_k", 2)]) (N := N_law_same) (sc := defScope s_law_same) (by decide +kernel)) (fun _ _ _ _ _ => ct_one (pg_name (i := 2) Sc.nd rfl (by first | exact Or.inl rfl | exact Or.inr rfl))) (fun _ _ _ _ _ => sp_nil) (fun _ _ _ _ _ => (se_call ih hrec rfl T.m_law_same T.k_law_same T.b_law_same takes_no (sa_cons (se_ix hu (se_var (pv 0)) (se_var (pv 2)) (fun _ _ => rfl)) (sa_cons (se_ix hu (se_var (pv 1)) (se_var (pv 2)) (fun _ _ => rfl)) sa_nil)) (hlen := (len_cons (len_cons len_nil))))) (by decide) rfl)) sa_nil))))))))))))
theorem ok_law_same (T : Fx K mg A) : FnOk P w K mg base (L2.CX P w) 13 A.a_law_same A.f_law_same P_law_same (spS K A.C 2 d_law_same) := ok_law_same_n T 12
theorem sc_law_well : FnScope N_law_well P_law_well (defScope s_law_well) := ⟨rfl, rfl, rfl, by decide +kernel, rfl, by decide +kernel, by decide +kernel⟩
theorem ok_law_well (T : Fx K mg A) : FnOk P w K mg base (L2.CX P w) 1 A.a_law_well A.f_law_well P_law_well (spS K A.C 2 d_law_well) := (fn_ok T.F_law_well sc_law_well rfl rfl fun cdv Ar outer s H E hr tk hp => by
    have hu := hr.units
    have hu5 : (Ar.deeper (envOfC "_law_well" (defScope s_law_well) s.heap.objs.size A.a_law_well cdv)).units + 65 < cLine := by have := hr.un; omega
    have Sc := sc_law_well
    exact (ss_cons (sS_if (st_cmp op_ge ok_ge (se_var (pv 0)) (se_op op_pow ok_pow se_int se_int) (by first | exact nobehind _ (by decide) (by decide) | rfl)) (ss_one (sS_ret (se_lst true (sa_cons (se_op op_sub ok_sub (se_var (pv 0)) (se_op op_pow ok_pow se_int se_int)) sa_nil)))) ss_nil)
    (ss_cons (sS_set (i := 2) Sc.nd rfl (by first | exact Or.inl rfl | exact Or.inr rfl) se_int)
    (ss_cons (sS_set (i := 3) Sc.nd rfl (by first | exact Or.inl rfl | exact Or.inr rfl) (se_op op_modN ok_mod (se_callTy call_int1 ok_int rfl T.z_int (by decide +kernel) (sa_cons (se_op op_addX (ok_add false) (se_op op_addX (ok_add false) (se_op op_mulXX (ok_mul false) (se_var (pv 0)) se_int) (se_op op_mulXX (ok_mul false) (se_var (pv 1)) se_int)) se_int) sa_nil)) (se_var (pv 2))))
    (ss_cons (sS_set (i := 4) Sc.nd rfl (by first | exact Or.inl rfl | exact Or.inr rfl) se_int)
    (ss_cons (sS_for hp rfl (si_range1 rfl T.z_range (sa_cons se_int sa_nil)) (sg_name (pg_name (i := 5) Sc.nd rfl (by first | exact Or.inl rfl | exact Or.inr rfl))) (ss_cons (sS_set (i := 3) Sc.nd rfl (by first | exact Or.inl rfl | exact Or.inr rfl) (se_op op_modN ok_mod (se_callTy call_int1 ok_int rfl T.z_int (by decide +kernel) (sa_cons (se_op op_addX (ok_add false) (se_op op_addX (ok_add false) (se_op op_mulXX (ok_mul false) (se_op op_mulXX (ok_mul false) (se_var (pv 3)) (se_var (pv 3))) (se_var (pv 3))) (se_op op_mulXX (ok_mul false) se_int (se_var (pv 5)))) (se_var (pv 1))) sa_nil)) (se_var (pv 2))))
    (ss_one (sS_set (i := 4) Sc.nd rfl (by first | exact Or.inl rfl | exact Or.inr rfl) (se_op op_addX (ok_add false) (se_op op_mulXX (ok_mul false) (se_var (pv 4)) (se_var (pv 2))) (se_var (pv 3)))))))
    (ss_one (sS_ret (se_lst true (sa_cons (se_var (pv 4)) sa_nil))))))))))
theorem sc_law : FnScope N_law P_law (defScope s_law) := ⟨rfl, rfl, rfl, by decide +kernel, rfl, by decide +kernel, by decide +kernel⟩
theorem ok_law (T : Fx K mg A) : FnOk P w K mg base (L2.CX P w) 14 A.a_law A.f_law P_law (spS K A.C 1 d_law) := (fn_ok T.F_law sc_law rfl rfl fun cdv Ar outer s H E hr tk hp => by
    have hu := hr.units
    have hu5 : (Ar.deeper (envOfC "law" (defScope s_law) s.heap.objs.size A.a_law cdv)).units + 65 < cLine := by have := hr.un; omega
    have Sc := sc_law
    exact (ss_cons (sS_for hp rfl (si_seq (se_op op_addX (ok_add false) (se_lst false (sa_cons (se_op op_addX (ok_add false) (se_op op_pow ok_pow se_int se_int) se_int) sa_nil)) (se_slice false (se_var (pv 0)) sp_none (sp_some se_int)))) (sg_name (pg_name (i := 1) Sc.nd rfl (by first | exact Or.inl rfl | exact Or.inr rfl))) (ss_cons (sS_set (i := 2) Sc.nd rfl (by first | exact Or.inl rfl | exact Or.inr rfl) (se_call (ok_law_well T) (hr.mono (by decide)) rfl T.m_law_well T.k_law_well T.b_law_well tk (sa_cons (se_var (pv 1)) (sa_cons se_int sa_nil)) (hlen := (len_cons (len_cons len_nil)))))
    (ss_cons (sS_set (i := 3) Sc.nd rfl (by first | exact Or.inl rfl | exact Or.inr rfl) (se_lst false (sa_cons (se_call (ok_law_pick T) (hr.mono (by decide)) rfl T.m_law_pick T.k_law_pick T.b_law_pick tk (sa_cons (se_var (pv 2)) (sa_cons se_int sa_nil)) (hlen := (len_cons (len_cons len_nil)))) (sa_cons (se_call (ok_law_pick T) (hr.mono (by decide)) rfl T.m_law_pick T.k_law_pick T.b_law_pick tk (sa_cons (se_var (pv 2)) (sa_cons se_int sa_nil)) (hlen := (len_cons (len_cons len_nil)))) (sa_cons (se_call (ok_law_pick T) (hr.mono (by decide)) rfl T.m_law_pick T.k_law_pick T.b_law_pick tk (sa_cons (se_var (pv 2)) (sa_cons se_int sa_nil)) (hlen := (len_cons (len_cons len_nil)))) (sa_cons (se_call (ok_law_pick T) (hr.mono (by decide)) rfl T.m_law_pick T.k_law_pick T.b_law_pick tk (sa_cons (se_var (pv 2)) (sa_cons se_int sa_nil)) (hlen := (len_cons (len_cons len_nil)))) sa_nil))))))
    (ss_cons (sS_set (i := 4) Sc.nd rfl (by first | exact Or.inl rfl | exact Or.inr rfl) (se_call (ok_law_course T) (hr.mono (by decide)) rfl T.m_law_course T.k_law_course T.b_law_course tk (sa_cons (se_var (pv 2)) (sa_cons se_int sa_nil)) (hlen := (len_cons (len_cons len_nil)))))
    (ss_cons (sS_set (i := 5) Sc.nd rfl (by first | exact Or.inl rfl | exact Or.inr rfl) (se_call (ok_law_pick T) (hr.mono (by decide)) rfl T.m_law_pick T.k_law_pick T.b_law_pick tk (sa_cons (se_var (pv 2)) (sa_cons (se_op op_pow ok_pow se_int se_int) sa_nil)) (hlen := (len_cons (len_cons len_nil)))))
    (ss_cons (sS_set (i := 6) Sc.nd rfl (by first | exact Or.inl rfl | exact Or.inr rfl) (se_op op_sub ok_sub (se_call (ok_law_pick T) (hr.mono (by decide)) rfl T.m_law_pick T.k_law_pick T.b_law_pick tk (sa_cons (se_var (pv 2)) (sa_cons (se_ix hu (se_lst false (sa_cons se_int (sa_cons (se_op op_pow ok_pow se_int se_int) sa_nil))) (se_ix hu (se_var (pv 3)) se_int (fun _ _ => rfl)) (fun _ _ => rfl)) sa_nil)) (hlen := (len_cons (len_cons len_nil)))) (se_ix hu (se_lst false (sa_cons se_int (sa_cons (se_op op_pow ok_pow se_int se_int) sa_nil))) (se_ix hu (se_var (pv 3)) se_int (fun _ _ => rfl)) (fun _ _ => rfl))))
    (ss_cons (sS_asg (se_var (pv 4)) (sg_tup rfl (sgs_cons (sg_name (pg_name (i := 7) Sc.nd rfl (by first | exact Or.inl rfl | exact Or.inr rfl))) (sgs_cons (sg_name (pg_name (i := 8) Sc.nd rfl (by first | exact Or.inl rfl | exact Or.inr rfl))) (sgs_cons (sg_name (pg_name (i := 9) Sc.nd rfl (by first | exact Or.inl rfl | exact Or.inr rfl))) (sgs_cons (sg_name (pg_name (i := 10) Sc.nd rfl (by first | exact Or.inl rfl | exact Or.inr rfl))) sgs_nil))))))
    (ss_cons (sS_set (i := 11) Sc.nd rfl (by first | exact Or.inl rfl | exact Or.inr rfl) (se_frz (se_make (c := 22) T.mk_Course (ok_Course_init T) (hr.mono (by decide)) rfl T.m_Course T.b_Course_init tk (sa_cons (se_var (pv 7)) (sa_cons (se_callTy call_list_of (ok_list false) rfl T.z_list (by decide +kernel) (sa_cons (se_var (pv 8)) sa_nil)) (sa_cons (se_var (pv 9)) (sa_cons (se_var (pv 10)) sa_nil)))) (fun e m ds m1 q => congrArg (· + 1) ((len_cons (len_cons (len_cons (len_cons len_nil)))) e m ds m1 q)))))
    (ss_cons (sS_set (i := 12) Sc.nd rfl (by first | exact Or.inl rfl | exact Or.inr rfl) (se_tup (sa_cons (se_prop (c := 22) T.cl_Course T.p_Course_least (ok_Course_least T) (hr.mono (by decide)) T.b_Course_least (se_var (pv 11))) (sa_cons (se_prop (c := 22) T.cl_Course T.p_Course_numbers (ok_Course_numbers T) (hr.mono (by decide)) T.b_Course_numbers (se_var (pv 11))) (sa_cons (se_prop (c := 22) T.cl_Course T.p_Course_every (ok_Course_every T) (hr.mono (by decide)) T.b_Course_every (se_var (pv 11))) (sa_cons (se_prop (c := 22) T.cl_Course T.p_Course_more (ok_Course_more T) (hr.mono (by decide)) T.b_Course_more (se_var (pv 11))) sa_nil))))))
    (ss_cons (sS_set (i := 13) Sc.nd rfl (by first | exact Or.inl rfl | exact Or.inr rfl) (se_ix hu (se_lst false (sa_cons (se_var (pv 5)) (sa_cons (se_ix hu (se_var (pv 3)) se_int (fun _ _ => rfl)) (sa_cons (se_op op_modN ok_mod (se_callTy call_int1 ok_int rfl T.z_int (by decide +kernel) (sa_cons (se_ix hu (se_var (pv 3)) se_int (fun _ _ => rfl)) sa_nil)) (se_callB call_lenX ok_len rfl T.z_len (by decide +kernel) (sa_cons (se_var (pv 8)) sa_nil))) (sa_cons (se_op op_addX (ok_add false) (se_callB call_lenX ok_len rfl T.z_len (by decide +kernel) (sa_cons (se_var (pv 8)) sa_nil)) (se_op op_modN ok_mod (se_callTy call_int1 ok_int rfl T.z_int (by decide +kernel) (sa_cons (se_ix hu (se_var (pv 3)) se_int (fun _ _ => rfl)) sa_nil)) (se_var (pv 9)))) sa_nil))))) (se_ix hu (se_var (pv 3)) se_int (fun _ _ => rfl)) (fun _ _ => rfl)))
    (ss_cons (sS_set (i := 14) Sc.nd rfl (by first | exact Or.inl rfl | exact Or.inr rfl) (se_call (ok_law_value T) (hr.mono (by decide)) rfl T.m_law_value T.k_law_value T.b_law_value tk (sa_cons (se_var (pv 4)) (sa_cons (se_var (pv 13)) sa_nil)) (hlen := (len_cons (len_cons len_nil)))))
    (ss_cons (sS_for hp rfl (si_seq (se_lst false (sa_cons (se_var (pv 14)) (sa_cons (se_op op_sub ok_sub (se_op op_addX (ok_add false) (se_var (pv 14)) se_int) (se_ix hu (se_var (pv 3)) se_int (fun _ _ => rfl))) (sa_cons (se_var (pv 6)) (sa_cons (se_var (pv 14)) (sa_cons (se_callB (call_minX rfl) ok_min rfl T.z_min (by decide +kernel) (sa_cons (se_var (pv 8)) sa_nil)) (sa_cons (se_callB (call_maxX rfl) ok_max rfl T.z_max (by decide +kernel) (sa_cons (se_var (pv 8)) sa_nil)) sa_nil)))))))) (sg_name (pg_name (i := 15) Sc.nd rfl (by first | exact Or.inl rfl | exact Or.inr rfl))) (ss_cons (sS_set (i := 16) Sc.nd rfl (by first | exact Or.inl rfl | exact Or.inr rfl) (se_call (ok_law_first T) (hr.mono (by decide)) rfl T.m_law_first T.k_law_first T.b_law_first tk (sa_cons (se_var (pv 4)) (sa_cons (se_var (pv 15)) sa_nil)) (hlen := (len_cons (len_cons len_nil)))))
    (ss_cons (sS_set (i := 17) Sc.nd rfl (by first | exact Or.inl rfl | exact Or.inr rfl) se_non)
    (ss_cons (sS_if (st_cmp op_isnX ok_isn (se_var (pv 16)) se_non (by first | exact nobehind _ (by decide) (by decide) | rfl)) (ss_one (sS_set (i := 17) Sc.nd rfl (by first | exact Or.inl rfl | exact Or.inr rfl) (se_op op_addX (ok_add false) (se_var (pv 7)) (se_var (pv 16))))) ss_nil)
    (ss_cons (sS_if (st_not (st_val (se_call (ok_law_same T) (hr.mono (by decide)) rfl T.m_law_same T.k_law_same T.b_law_same tk (sa_cons (se_meth (c := 22) (se_var (pv 11)) T.cl_Course T.me_Course_first_with (ok_Course_first_with T) (hr.mono (by decide)) T.b_Course_first_with tk (sa_cons (se_var (pv 15)) sa_nil) (fun e m ds m1 q => congrArg (· + 1) ((len_cons len_nil) e m ds m1 q))) (sa_cons (se_var (pv 17)) sa_nil)) (hlen := (len_cons (len_cons len_nil)))))) (ss_one (sS_ret se_bl)) ss_nil)
    (ss_one (sS_if (st_not (st_val (se_call (ok_law_outlasts T) (hr.mono (by decide)) rfl T.m_law_outlasts T.k_law_outlasts T.b_law_outlasts tk (sa_cons (se_var (pv 4)) (sa_cons (se_var (pv 15)) (sa_cons (se_meth (c := 22) (se_var (pv 11)) T.cl_Course T.me_Course_outlast (ok_Course_outlast T) (hr.mono (by decide)) T.b_Course_outlast tk (sa_cons (se_var (pv 15)) sa_nil) (fun e m ds m1 q => congrArg (· + 1) ((len_cons len_nil) e m ds m1 q))) sa_nil))) (hlen := (len_cons (len_cons (len_cons len_nil))))))) (ss_one (sS_ret se_bl)) ss_nil)))))))
    (ss_cons (sS_if (st_not (st_val (se_call (ok_law_same T) (hr.mono (by decide)) rfl T.m_law_same T.k_law_same T.b_law_same tk (sa_cons (se_tup (sa_cons (se_prop (c := 22) T.cl_Course T.p_Course_least (ok_Course_least T) (hr.mono (by decide)) T.b_Course_least (se_var (pv 11))) (sa_cons (se_prop (c := 22) T.cl_Course T.p_Course_numbers (ok_Course_numbers T) (hr.mono (by decide)) T.b_Course_numbers (se_var (pv 11))) (sa_cons (se_prop (c := 22) T.cl_Course T.p_Course_every (ok_Course_every T) (hr.mono (by decide)) T.b_Course_every (se_var (pv 11))) (sa_cons (se_prop (c := 22) T.cl_Course T.p_Course_more (ok_Course_more T) (hr.mono (by decide)) T.b_Course_more (se_var (pv 11))) sa_nil))))) (sa_cons (se_var (pv 12)) sa_nil)) (hlen := (len_cons (len_cons len_nil)))))) (ss_one (sS_ret se_bl)) ss_nil)
    (ss_cons (sS_if (st_cmp (op_neX hu) ok_ne (se_methK (c := 22) (se_var (pv 11)) T.cl_Course T.me_Course_first_with (ok_Course_first_with T) (hr.mono (by decide)) T.kb_Course_first_with_0 tk (sk_cons (se_var (pv 14)) sk_nil)) (se_meth (c := 22) (se_var (pv 11)) T.cl_Course T.me_Course_first_with (ok_Course_first_with T) (hr.mono (by decide)) T.b_Course_first_with tk (sa_cons (se_var (pv 14)) sa_nil) (fun e m ds m1 q => congrArg (· + 1) ((len_cons len_nil) e m ds m1 q))) (by first | exact nobehind _ (by decide) (by decide) | rfl)) (ss_one (sS_ret se_bl)) ss_nil)
    (ss_one (sS_if (st_cmp (op_neX hu) ok_ne (se_methK (c := 22) (se_var (pv 11)) T.cl_Course T.me_Course_outlast (ok_Course_outlast T) (hr.mono (by decide)) T.kb_Course_outlast_0 tk (sk_cons (se_var (pv 14)) sk_nil)) (se_meth (c := 22) (se_var (pv 11)) T.cl_Course T.me_Course_outlast (ok_Course_outlast T) (hr.mono (by decide)) T.b_Course_outlast tk (sa_cons (se_var (pv 14)) sa_nil) (fun e m ds m1 q => congrArg (· + 1) ((len_cons len_nil) e m ds m1 q))) (by first | exact nobehind _ (by decide) (by decide) | rfl)) (ss_one (sS_ret se_bl)) ss_nil))))))))))))))))
    (ss_one (sS_ret se_bl))))
end
theorem all_mk {l : PySem.W.OpenLaw} {w : World} {K : PySem.W.Frag} {h : Heap} {mg : Str → Option Value} {fa f0 f1 f2 f3 f4 p4 f5 f6 p6 f7 p7 f8 p8 f9 f10 f11 f12 f13 f14 f15 f16 f17 C_Course : Addr} (X : K.In h) (G : h.Ns mainGlobals mg) (hfa : mg "law" = some (.ref fa))
    {oc0 kV0 dc0 pm0 cd0 ct0 : Value} {od0 an0 : Option Addr} {sl0 : Array (Option Value)}
    {oc1 kV1 dc1 pm1 cd1 ct1 : Value} {od1 an1 : Option Addr} {sl1 : Array (Option Value)}
    {oc2 kV2 dc2 pm2 cd2 ct2 : Value} {od2 an2 : Option Addr} {sl2 : Array (Option Value)}
    {oc3 kV3 dc3 pm3 cd3 ct3 : Value} {od3 an3 : Option Addr} {sl3 : Array (Option Value)}
    {oc4 kV4 dc4 pm4 cd4 ct4 : Value} {od4 an4 : Option Addr} {sl4 : Array (Option Value)}
    {oc5 kV5 dc5 pm5 cd5 ct5 : Value} {od5 an5 : Option Addr} {sl5 : Array (Option Value)}
    {oc6 kV6 dc6 pm6 cd6 ct6 : Value} {od6 an6 : Option Addr} {sl6 : Array (Option Value)}
    {oc7 kV7 dc7 pm7 cd7 ct7 : Value} {od7 an7 : Option Addr} {sl7 : Array (Option Value)}
    {oc8 kV8 dc8 pm8 cd8 ct8 : Value} {od8 an8 : Option Addr} {sl8 : Array (Option Value)}
    {oc9 kV9 dc9 pm9 cd9 ct9 : Value} {od9 an9 : Option Addr} {sl9 : Array (Option Value)}
    {oc10 kV10 dc10 pm10 cd10 ct10 : Value} {od10 an10 : Option Addr} {sl10 : Array (Option Value)}
    {oc11 kV11 dc11 pm11 cd11 ct11 : Value} {od11 an11 : Option Addr} {sl11 : Array (Option Value)}
    {oc12 kV12 dc12 pm12 cd12 ct12 : Value} {od12 an12 : Option Addr} {sl12 : Array (Option Value)}
    {oc13 kV13 dc13 pm13 cd13 ct13 : Value} {od13 an13 : Option Addr} {sl13 : Array (Option Value)}
    {oc14 kV14 dc14 pm14 cd14 ct14 : Value} {od14 an14 : Option Addr} {sl14 : Array (Option Value)}
    {oc15 kV15 dc15 pm15 cd15 ct15 : Value} {od15 an15 : Option Addr} {sl15 : Array (Option Value)}
    {oc16 kV16 dc16 pm16 cd16 ct16 : Value} {od16 an16 : Option Addr} {sl16 : Array (Option Value)}
    {oc17 kV17 dc17 pm17 cd17 ct17 : Value} {od17 an17 : Option Addr} {sl17 : Array (Option Value)}
    (gC_Course : PySem.W.nsIn K mainGlobals "Course" = some (some (.ref C_Course)))
    (pg_Course : PySem.W.plainGet K C_Course Str.empty = true)
    (hd_Course : PySem.W.hasDictIn K C_Course = true)
    (po_Course : PySem.W.plainOver K C_Course = true)
    (sa_Course : PySem.W.findIn K (.ref C_Course) "__setattr__" = some (some (.builtin "object.__setattr__")))
    (mk_Course : PySem.W.makesIn K C_Course = true)
    (kc_Course : PySem.W.keepIn K (.ref C_Course) = true)
    (a0 : PySem.W.nsIn K mainGlobals "fewest_numbers" = some (some (.ref f0)))
    (l0 : K.lookup f0 = some ⟨oc0, od0, .func (PySem.W.fnOf "fewest_numbers" "fewest_numbers" (defArgs s_fewest_numbers) (defBody s_fewest_numbers) (defScope s_fewest_numbers) .none kV0 dc0 pm0 an0 cd0 ct0), sl0⟩)
    (c0 : PySem.W.codeIn K cd0 "fewest_numbers" = true)
    (k0 : PySem.W.keepIn K (.ref f0) = true)
    (a1 : PySem.W.nsIn K mainGlobals "tail_number" = some (some (.ref f1)))
    (l1 : K.lookup f1 = some ⟨oc1, od1, .func (PySem.W.fnOf "tail_number" "tail_number" (defArgs s_tail_number) (defBody s_tail_number) (defScope s_tail_number) .none kV1 dc1 pm1 an1 cd1 ct1), sl1⟩)
    (c1 : PySem.W.codeIn K cd1 "tail_number" = true)
    (k1 : PySem.W.keepIn K (.ref f1) = true)
    (a2 : PySem.W.nsIn K mainGlobals "least_every" = some (some (.ref f2)))
    (l2 : K.lookup f2 = some ⟨oc2, od2, .func (PySem.W.fnOf "least_every" "least_every" (defArgs s_least_every) (defBody s_least_every) (defScope s_least_every) .none kV2 dc2 pm2 an2 cd2 ct2), sl2⟩)
    (c2 : PySem.W.codeIn K cd2 "least_every" = true)
    (k2 : PySem.W.keepIn K (.ref f2) = true)
    (a3 : PySem.W.findIn K (.ref C_Course) "__init__" = some (some (.ref f3)))
    (i3 : PySem.W.isFn K (.ref f3) = true)
    (l3 : K.lookup f3 = some ⟨oc3, od3, .func (PySem.W.fnOf "__init__" "Course.__init__" (defArgs s_Course_init) (defBody s_Course_init) (defScope s_Course_init) .none kV3 dc3 pm3 an3 cd3 ct3), sl3⟩)
    (c3 : PySem.W.codeIn K cd3 "Course.__init__" = true)
    (k3 : PySem.W.keepIn K (.ref f3) = true)
    (a4 : PySem.W.findIn K (.ref C_Course) "every" = some (some (.ref p4)))
    (g4 : PySem.W.specialIn K (.ref p4) "__get__" = some (some (.builtin "property.__get__")))
    (t4 : PySem.W.takesIn K (.ref p4) = some true)
    (r4 : ∃ rest, PySem.W.recIn K p4 "property" = some (.ref f4 :: rest))
    (l4 : K.lookup f4 = some ⟨oc4, od4, .func (PySem.W.fnOf "every" "Course.every" (defArgs s_Course_every) (defBody s_Course_every) (defScope s_Course_every) .none kV4 dc4 pm4 an4 cd4 ct4), sl4⟩)
    (c4 : PySem.W.codeIn K cd4 "Course.every" = true)
    (k4 : PySem.W.keepIn K (.ref f4) = true)
    (a5 : PySem.W.findIn K (.ref C_Course) "first_with" = some (some (.ref f5)))
    (i5 : PySem.W.isFn K (.ref f5) = true)
    (l5 : K.lookup f5 = some ⟨oc5, od5, .func (PySem.W.fnOf "first_with" "Course.first_with" (defArgs s_Course_first_with) (defBody s_Course_first_with) (defScope s_Course_first_with) .none kV5 dc5 pm5 an5 cd5 ct5), sl5⟩)
    (c5 : PySem.W.codeIn K cd5 "Course.first_with" = true)
    (k5 : PySem.W.keepIn K (.ref f5) = true)
    (a6 : PySem.W.findIn K (.ref C_Course) "least" = some (some (.ref p6)))
    (g6 : PySem.W.specialIn K (.ref p6) "__get__" = some (some (.builtin "property.__get__")))
    (t6 : PySem.W.takesIn K (.ref p6) = some true)
    (r6 : ∃ rest, PySem.W.recIn K p6 "property" = some (.ref f6 :: rest))
    (l6 : K.lookup f6 = some ⟨oc6, od6, .func (PySem.W.fnOf "least" "Course.least" (defArgs s_Course_least) (defBody s_Course_least) (defScope s_Course_least) .none kV6 dc6 pm6 an6 cd6 ct6), sl6⟩)
    (c6 : PySem.W.codeIn K cd6 "Course.least" = true)
    (k6 : PySem.W.keepIn K (.ref f6) = true)
    (a7 : PySem.W.findIn K (.ref C_Course) "more" = some (some (.ref p7)))
    (g7 : PySem.W.specialIn K (.ref p7) "__get__" = some (some (.builtin "property.__get__")))
    (t7 : PySem.W.takesIn K (.ref p7) = some true)
    (r7 : ∃ rest, PySem.W.recIn K p7 "property" = some (.ref f7 :: rest))
    (l7 : K.lookup f7 = some ⟨oc7, od7, .func (PySem.W.fnOf "more" "Course.more" (defArgs s_Course_more) (defBody s_Course_more) (defScope s_Course_more) .none kV7 dc7 pm7 an7 cd7 ct7), sl7⟩)
    (c7 : PySem.W.codeIn K cd7 "Course.more" = true)
    (k7 : PySem.W.keepIn K (.ref f7) = true)
    (a8 : PySem.W.findIn K (.ref C_Course) "numbers" = some (some (.ref p8)))
    (g8 : PySem.W.specialIn K (.ref p8) "__get__" = some (some (.builtin "property.__get__")))
    (t8 : PySem.W.takesIn K (.ref p8) = some true)
    (r8 : ∃ rest, PySem.W.recIn K p8 "property" = some (.ref f8 :: rest))
    (l8 : K.lookup f8 = some ⟨oc8, od8, .func (PySem.W.fnOf "numbers" "Course.numbers" (defArgs s_Course_numbers) (defBody s_Course_numbers) (defScope s_Course_numbers) .none kV8 dc8 pm8 an8 cd8 ct8), sl8⟩)
    (c8 : PySem.W.codeIn K cd8 "Course.numbers" = true)
    (k8 : PySem.W.keepIn K (.ref f8) = true)
    (a9 : PySem.W.findIn K (.ref C_Course) "outlast" = some (some (.ref f9)))
    (i9 : PySem.W.isFn K (.ref f9) = true)
    (l9 : K.lookup f9 = some ⟨oc9, od9, .func (PySem.W.fnOf "outlast" "Course.outlast" (defArgs s_Course_outlast) (defBody s_Course_outlast) (defScope s_Course_outlast) .none kV9 dc9 pm9 an9 cd9 ct9), sl9⟩)
    (c9 : PySem.W.codeIn K cd9 "Course.outlast" = true)
    (k9 : PySem.W.keepIn K (.ref f9) = true)
    (a10 : PySem.W.nsIn K mainGlobals "_law_pick" = some (some (.ref f10)))
    (l10 : K.lookup f10 = some ⟨oc10, od10, .func (PySem.W.fnOf "_law_pick" "_law_pick" (defArgs s_law_pick) (defBody s_law_pick) (defScope s_law_pick) .none kV10 dc10 pm10 an10 cd10 ct10), sl10⟩)
    (c10 : PySem.W.codeIn K cd10 "_law_pick" = true)
    (k10 : PySem.W.keepIn K (.ref f10) = true)
    (a11 : PySem.W.nsIn K mainGlobals "_law_course" = some (some (.ref f11)))
    (l11 : K.lookup f11 = some ⟨oc11, od11, .func (PySem.W.fnOf "_law_course" "_law_course" (defArgs s_law_course) (defBody s_law_course) (defScope s_law_course) .none kV11 dc11 pm11 an11 cd11 ct11), sl11⟩)
    (c11 : PySem.W.codeIn K cd11 "_law_course" = true)
    (k11 : PySem.W.keepIn K (.ref f11) = true)
    (a12 : PySem.W.nsIn K mainGlobals "_law_value" = some (some (.ref f12)))
    (l12 : K.lookup f12 = some ⟨oc12, od12, .func (PySem.W.fnOf "_law_value" "_law_value" (defArgs s_law_value) (defBody s_law_value) (defScope s_law_value) .none kV12 dc12 pm12 an12 cd12 ct12), sl12⟩)
    (c12 : PySem.W.codeIn K cd12 "_law_value" = true)
    (k12 : PySem.W.keepIn K (.ref f12) = true)
    (a13 : PySem.W.nsIn K mainGlobals "_law_first" = some (some (.ref f13)))
    (l13 : K.lookup f13 = some ⟨oc13, od13, .func (PySem.W.fnOf "_law_first" "_law_first" (defArgs s_law_first) (defBody s_law_first) (defScope s_law_first) .none kV13 dc13 pm13 an13 cd13 ct13), sl13⟩)
    (c13 : PySem.W.codeIn K cd13 "_law_first" = true)
    (k13 : PySem.W.keepIn K (.ref f13) = true)
    (a14 : PySem.W.nsIn K mainGlobals "_law_outlasts" = some (some (.ref f14)))
    (l14 : K.lookup f14 = some ⟨oc14, od14, .func (PySem.W.fnOf "_law_outlasts" "_law_outlasts" (defArgs s_law_outlasts) (defBody s_law_outlasts) (defScope s_law_outlasts) .none kV14 dc14 pm14 an14 cd14 ct14), sl14⟩)
    (c14 : PySem.W.codeIn K cd14 "_law_outlasts" = true)
    (k14 : PySem.W.keepIn K (.ref f14) = true)
    (a15 : PySem.W.nsIn K mainGlobals "_law_same" = some (some (.ref f15)))
    (l15 : K.lookup f15 = some ⟨oc15, od15, .func (PySem.W.fnOf "_law_same" "_law_same" (defArgs s_law_same) (defBody s_law_same) (defScope s_law_same) .none kV15 dc15 pm15 an15 cd15 ct15), sl15⟩)
    (c15 : PySem.W.codeIn K cd15 "_law_same" = true)
    (k15 : PySem.W.keepIn K (.ref f15) = true)
    (a16 : PySem.W.nsIn K mainGlobals "_law_well" = some (some (.ref f16)))
    (l16 : K.lookup f16 = some ⟨oc16, od16, .func (PySem.W.fnOf "_law_well" "_law_well" (defArgs s_law_well) (defBody s_law_well) (defScope s_law_well) .none kV16 dc16 pm16 an16 cd16 ct16), sl16⟩)
    (c16 : PySem.W.codeIn K cd16 "_law_well" = true)
    (k16 : PySem.W.keepIn K (.ref f16) = true)
    (a17 : PySem.W.nsIn K mainGlobals "law" = some (some (.ref f17)))
    (l17 : K.lookup f17 = some ⟨oc17, od17, .func (PySem.W.fnOf "law" "law" (defArgs s_law) (defBody s_law) (defScope s_law) .none kV17 dc17 pm17 an17 cd17 ct17), sl17⟩)
    (c17 : PySem.W.codeIn K cd17 "law" = true)
    (k17 : PySem.W.keepIn K (.ref f17) = true)
    (na_Course_period : PySem.W.findIn K (.ref C_Course) "period" = some none)
    (na_Course_rise : PySem.W.findIn K (.ref C_Course) "rise" = some none)
    (na_Course_start : PySem.W.findIn K (.ref C_Course) "start" = some none)
    (na_Course_told : PySem.W.findIn K (.ref C_Course) "told" = some none)
    (z_all : PySem.W.nsIn K mainGlobals "all" = some none)
    (z_bool : PySem.W.nsIn K mainGlobals "bool" = some none)
    (z_enumerate : PySem.W.nsIn K mainGlobals "enumerate" = some none)
    (z_int : PySem.W.nsIn K mainGlobals "int" = some none)
    (z_isinstance : PySem.W.nsIn K mainGlobals "isinstance" = some none)
    (z_len : PySem.W.nsIn K mainGlobals "len" = some none)
    (z_list : PySem.W.nsIn K mainGlobals "list" = some none)
    (z_max : PySem.W.nsIn K mainGlobals "max" = some none)
    (z_min : PySem.W.nsIn K mainGlobals "min" = some none)
    (z_range : PySem.W.nsIn K mainGlobals "range" = some none)
    (z_str : PySem.W.nsIn K mainGlobals "str" = some none)
    (z_tuple : PySem.W.nsIn K mainGlobals "tuple" = some none)
    : ∃ (fd : FuncData) (C : Nat → Addr), (∀ (s : Shared) (v : Value), BindsTo s fd ⟨[v], []⟩ [("_law_script", v)]) ∧ ∀ base : Heap, K.In base → base.Ns mainGlobals mg → FnOk l.prog w K mg base (L2.CX l.prog w) 14 fa fd ["_law_script"] (spS K C 1 d_law) := by
  have e := hfa.symm.trans (PySem.W.mg_of X G a17)
  cases e
  let A : Ad := {
    a_fewest_numbers := f0,
    f_fewest_numbers := (PySem.W.fnOf "fewest_numbers" "fewest_numbers" (defArgs s_fewest_numbers) (defBody s_fewest_numbers) (defScope s_fewest_numbers) .none kV0 dc0 pm0 an0 cd0 ct0),
    a_tail_number := f1,
    f_tail_number := (PySem.W.fnOf "tail_number" "tail_number" (defArgs s_tail_number) (defBody s_tail_number) (defScope s_tail_number) .none kV1 dc1 pm1 an1 cd1 ct1),
    a_least_every := f2,
    f_least_every := (PySem.W.fnOf "least_every" "least_every" (defArgs s_least_every) (defBody s_least_every) (defScope s_least_every) .none kV2 dc2 pm2 an2 cd2 ct2),
    a_Course_init := f3,
    f_Course_init := (PySem.W.fnOf "__init__" "Course.__init__" (defArgs s_Course_init) (defBody s_Course_init) (defScope s_Course_init) .none kV3 dc3 pm3 an3 cd3 ct3),
    a_Course_every := f4,
    f_Course_every := (PySem.W.fnOf "every" "Course.every" (defArgs s_Course_every) (defBody s_Course_every) (defScope s_Course_every) .none kV4 dc4 pm4 an4 cd4 ct4),
    p_Course_every := p4,
    a_Course_first_with := f5,
    f_Course_first_with := (PySem.W.fnOf "first_with" "Course.first_with" (defArgs s_Course_first_with) (defBody s_Course_first_with) (defScope s_Course_first_with) .none kV5 dc5 pm5 an5 cd5 ct5),
    a_Course_least := f6,
    f_Course_least := (PySem.W.fnOf "least" "Course.least" (defArgs s_Course_least) (defBody s_Course_least) (defScope s_Course_least) .none kV6 dc6 pm6 an6 cd6 ct6),
    p_Course_least := p6,
    a_Course_more := f7,
    f_Course_more := (PySem.W.fnOf "more" "Course.more" (defArgs s_Course_more) (defBody s_Course_more) (defScope s_Course_more) .none kV7 dc7 pm7 an7 cd7 ct7),
    p_Course_more := p7,
    a_Course_numbers := f8,
    f_Course_numbers := (PySem.W.fnOf "numbers" "Course.numbers" (defArgs s_Course_numbers) (defBody s_Course_numbers) (defScope s_Course_numbers) .none kV8 dc8 pm8 an8 cd8 ct8),
    p_Course_numbers := p8,
    a_Course_outlast := f9,
    f_Course_outlast := (PySem.W.fnOf "outlast" "Course.outlast" (defArgs s_Course_outlast) (defBody s_Course_outlast) (defScope s_Course_outlast) .none kV9 dc9 pm9 an9 cd9 ct9),
    a_law_pick := f10,
    f_law_pick := (PySem.W.fnOf "_law_pick" "_law_pick" (defArgs s_law_pick) (defBody s_law_pick) (defScope s_law_pick) .none kV10 dc10 pm10 an10 cd10 ct10),
    a_law_course := f11,
    f_law_course := (PySem.W.fnOf "_law_course" "_law_course" (defArgs s_law_course) (defBody s_law_course) (defScope s_law_course) .none kV11 dc11 pm11 an11 cd11 ct11),
    a_law_value := f12,
    f_law_value := (PySem.W.fnOf "_law_value" "_law_value" (defArgs s_law_value) (defBody s_law_value) (defScope s_law_value) .none kV12 dc12 pm12 an12 cd12 ct12),
    a_law_first := f13,
    f_law_first := (PySem.W.fnOf "_law_first" "_law_first" (defArgs s_law_first) (defBody s_law_first) (defScope s_law_first) .none kV13 dc13 pm13 an13 cd13 ct13),
    a_law_outlasts := f14,
    f_law_outlasts := (PySem.W.fnOf "_law_outlasts" "_law_outlasts" (defArgs s_law_outlasts) (defBody s_law_outlasts) (defScope s_law_outlasts) .none kV14 dc14 pm14 an14 cd14 ct14),
    a_law_same := f15,
    f_law_same := (PySem.W.fnOf "_law_same" "_law_same" (defArgs s_law_same) (defBody s_law_same) (defScope s_law_same) .none kV15 dc15 pm15 an15 cd15 ct15),
    a_law_well := f16,
    f_law_well := (PySem.W.fnOf "_law_well" "_law_well" (defArgs s_law_well) (defBody s_law_well) (defScope s_law_well) .none kV16 dc16 pm16 an16 cd16 ct16),
    a_law := fa,
    f_law := (PySem.W.fnOf "law" "law" (defArgs s_law) (defBody s_law) (defScope s_law) .none kV17 dc17 pm17 an17 cd17 ct17),
    C_Course := C_Course }
  have T : Fx K mg A := {
    F_fewest_numbers := fun_mk (st := s_fewest_numbers) l0 c0 k0,
    b_fewest_numbers := (fun_mk (st := s_fewest_numbers) l0 c0 k0).binds (ps := P_fewest_numbers) fun _ _ _ _ _ _ us hl => match us, hl with | [_, _, _], _ => rfl,
    m_fewest_numbers := PySem.W.mg_of X G a0,
    k_fewest_numbers := k0,
    F_tail_number := fun_mk (st := s_tail_number) l1 c1 k1,
    b_tail_number := (fun_mk (st := s_tail_number) l1 c1 k1).binds (ps := P_tail_number) fun _ _ _ _ _ _ us hl => match us, hl with | [_, _, _], _ => rfl,
    m_tail_number := PySem.W.mg_of X G a1,
    k_tail_number := k1,
    F_least_every := fun_mk (st := s_least_every) l2 c2 k2,
    b_least_every := (fun_mk (st := s_least_every) l2 c2 k2).binds (ps := P_least_every) fun _ _ _ _ _ _ us hl => match us, hl with | [_, _], _ => rfl,
    m_least_every := PySem.W.mg_of X G a2,
    k_least_every := k2,
    F_Course_init := fun_mk (st := s_Course_init) l3 c3 k3,
    b_Course_init := (fun_mk (st := s_Course_init) l3 c3 k3).binds (ps := P_Course_init) fun _ _ _ _ _ _ us hl => match us, hl with | [_, _, _, _, _], _ => rfl,
    F_Course_every := fun_mk (st := s_Course_every) l4 c4 k4,
    b_Course_every := (fun_mk (st := s_Course_every) l4 c4 k4).binds (ps := P_Course_every) fun _ _ _ _ _ _ us hl => match us, hl with | [_], _ => rfl,
    p_Course_every := ⟨a4, g4, t4, r4⟩,
    F_Course_first_with := fun_mk (st := s_Course_first_with) l5 c5 k5,
    b_Course_first_with := (fun_mk (st := s_Course_first_with) l5 c5 k5).binds (ps := P_Course_first_with) fun _ _ _ _ _ _ us hl => match us, hl with | [_, _], _ => rfl,
    me_Course_first_with := ⟨a5, i5, k5⟩,
    F_Course_least := fun_mk (st := s_Course_least) l6 c6 k6,
    b_Course_least := (fun_mk (st := s_Course_least) l6 c6 k6).binds (ps := P_Course_least) fun _ _ _ _ _ _ us hl => match us, hl with | [_], _ => rfl,
    p_Course_least := ⟨a6, g6, t6, r6⟩,
    F_Course_more := fun_mk (st := s_Course_more) l7 c7 k7,
    b_Course_more := (fun_mk (st := s_Course_more) l7 c7 k7).binds (ps := P_Course_more) fun _ _ _ _ _ _ us hl => match us, hl with | [_], _ => rfl,
    p_Course_more := ⟨a7, g7, t7, r7⟩,
    F_Course_numbers := fun_mk (st := s_Course_numbers) l8 c8 k8,
    b_Course_numbers := (fun_mk (st := s_Course_numbers) l8 c8 k8).binds (ps := P_Course_numbers) fun _ _ _ _ _ _ us hl => match us, hl with | [_], _ => rfl,
    p_Course_numbers := ⟨a8, g8, t8, r8⟩,
    F_Course_outlast := fun_mk (st := s_Course_outlast) l9 c9 k9,
    b_Course_outlast := (fun_mk (st := s_Course_outlast) l9 c9 k9).binds (ps := P_Course_outlast) fun _ _ _ _ _ _ us hl => match us, hl with | [_, _], _ => rfl,
    me_Course_outlast := ⟨a9, i9, k9⟩,
    F_law_pick := fun_mk (st := s_law_pick) l10 c10 k10,
    b_law_pick := (fun_mk (st := s_law_pick) l10 c10 k10).binds (ps := P_law_pick) fun _ _ _ _ _ _ us hl => match us, hl with | [_, _], _ => rfl,
    m_law_pick := PySem.W.mg_of X G a10,
    k_law_pick := k10,
    F_law_course := fun_mk (st := s_law_course) l11 c11 k11,
    b_law_course := (fun_mk (st := s_law_course) l11 c11 k11).binds (ps := P_law_course) fun _ _ _ _ _ _ us hl => match us, hl with | [_, _], _ => rfl,
    m_law_course := PySem.W.mg_of X G a11,
    k_law_course := k11,
    F_law_value := fun_mk (st := s_law_value) l12 c12 k12,
    b_law_value := (fun_mk (st := s_law_value) l12 c12 k12).binds (ps := P_law_value) fun _ _ _ _ _ _ us hl => match us, hl with | [_, _], _ => rfl,
    m_law_value := PySem.W.mg_of X G a12,
    k_law_value := k12,
    F_law_first := fun_mk (st := s_law_first) l13 c13 k13,
    b_law_first := (fun_mk (st := s_law_first) l13 c13 k13).binds (ps := P_law_first) fun _ _ _ _ _ _ us hl => match us, hl with | [_, _], _ => rfl,
    m_law_first := PySem.W.mg_of X G a13,
    k_law_first := k13,
    F_law_outlasts := fun_mk (st := s_law_outlasts) l14 c14 k14,
    b_law_outlasts := (fun_mk (st := s_law_outlasts) l14 c14 k14).binds (ps := P_law_outlasts) fun _ _ _ _ _ _ us hl => match us, hl with | [_, _, _], _ => rfl,
    m_law_outlasts := PySem.W.mg_of X G a14,
    k_law_outlasts := k14,
    F_law_same := fun_mk (st := s_law_same) l15 c15 k15,
    b_law_same := (fun_mk (st := s_law_same) l15 c15 k15).binds (ps := P_law_same) fun _ _ _ _ _ _ us hl => match us, hl with | [_, _], _ => rfl,
    m_law_same := PySem.W.mg_of X G a15,
    k_law_same := k15,
    F_law_well := fun_mk (st := s_law_well) l16 c16 k16,
    b_law_well := (fun_mk (st := s_law_well) l16 c16 k16).binds (ps := P_law_well) fun _ _ _ _ _ _ us hl => match us, hl with | [_, _], _ => rfl,
    m_law_well := PySem.W.mg_of X G a16,
    k_law_well := k16,
    F_law := fun_mk (st := s_law) l17 c17 k17,
    b_law := (fun_mk (st := s_law) l17 c17 k17).binds (ps := P_law) fun _ _ _ _ _ _ us hl => match us, hl with | [_], _ => rfl,
    m_law := PySem.W.mg_of X G a17,
    k_law := k17,
    m_Course := PySem.W.mg_of X G gC_Course,
    cl_Course := ⟨pg_Course, hd_Course, po_Course, sa_Course⟩,
    mk_Course := ⟨mk_Course, a3, i3, kc_Course⟩,
    na_Course_period := na_Course_period,
    na_Course_rise := na_Course_rise,
    na_Course_start := na_Course_start,
    na_Course_told := na_Course_told,
    z_all := PySem.W.mg_none_of X G z_all,
    z_bool := PySem.W.mg_none_of X G z_bool,
    z_enumerate := PySem.W.mg_none_of X G z_enumerate,
    z_int := PySem.W.mg_none_of X G z_int,
    z_isinstance := PySem.W.mg_none_of X G z_isinstance,
    z_len := PySem.W.mg_none_of X G z_len,
    z_list := PySem.W.mg_none_of X G z_list,
    z_max := PySem.W.mg_none_of X G z_max,
    z_min := PySem.W.mg_none_of X G z_min,
    z_range := PySem.W.mg_none_of X G z_range,
    z_str := PySem.W.mg_none_of X G z_str,
    z_tuple := PySem.W.mg_none_of X G z_tuple,
    kb_Course_first_with_0 := kb_mk (fun_mk (st := s_Course_first_with) l5 c5 k5) fun _ _ _ _ _ _ us ws h1 h2 => match us, ws, h1, h2 with | [_], [_], _, _ => rfl,
    kb_Course_outlast_0 := kb_mk (fun_mk (st := s_Course_outlast) l9 c9 k9) fun _ _ _ _ _ _ us ws h1 h2 => match us, ws, h1, h2 with | [_], [_], _, _ => rfl }
  exact ⟨(PySem.W.fnOf "law" "law" (defArgs s_law) (defBody s_law) (defScope s_law) .none kV17 dc17 pm17 an17 cd17 ct17), A.C, fun s v => .of_eq rfl, fun base _ _ => ok_law T⟩
end SL
open PySem PySem.W PyProof.Rows
set_option maxRecDepth 100000 in
set_option maxHeartbeats 0 in
theorem PySem.Challenge.cw_sandthreads_k50_first_and_last_lengths_holds : PySem.Challenge.rw_sandthreads_k50_first_and_last_lengths.Holds := by
  w_on; o_law; k_head; (case hw => w_witness2)
  k_fill
  refine SL.walk_sl (l := PySem.Challenge.rw_sandthreads_k50_first_and_last_lengths) (k := 14) (d := SL.d_law) (x := "_law_script") rfl rfl ⟨rfl, by decide, by decide⟩ (fun w h Y => PySem.W.kIn_of Y) ?F SL.law_true
  case F =>
    intro w mg fa h KX G hmg
    refine' SL.all_mk KX G hmg ?gC_Course ?pg_Course ?hd_Course ?po_Course ?sa_Course ?mk_Course ?kc_Course ?a0 ?l0 ?c0 ?k0 ?a1 ?l1 ?c1 ?k1 ?a2 ?l2 ?c2 ?k2 ?a3 ?i3 ?l3 ?c3 ?k3 ?a4 ?g4 ?t4 ?r4 ?l4 ?c4 ?k4 ?a5 ?i5 ?l5 ?c5 ?k5 ?a6 ?g6 ?t6 ?r6 ?l6 ?c6 ?k6 ?a7 ?g7 ?t7 ?r7 ?l7 ?c7 ?k7 ?a8 ?g8 ?t8 ?r8 ?l8 ?c8 ?k8 ?a9 ?i9 ?l9 ?c9 ?k9 ?a10 ?l10 ?c10 ?k10 ?a11 ?l11 ?c11 ?k11 ?a12 ?l12 ?c12 ?k12 ?a13 ?l13 ?c13 ?k13 ?a14 ?l14 ?c14 ?k14 ?a15 ?l15 ?c15 ?k15 ?a16 ?l16 ?c16 ?k16 ?a17 ?l17 ?c17 ?k17 ?na_Course_period ?na_Course_rise ?na_Course_start ?na_Course_told ?z_all ?z_bool ?z_enumerate ?z_int ?z_isinstance ?z_len ?z_list ?z_max ?z_min ?z_range ?z_str ?z_tuple
    (case gC_Course => k_is)
    (case pg_Course => k_is)
    (case hd_Course => k_is)
    (case po_Course => k_is)
    (case sa_Course => k_is)
    (case mk_Course => k_is)
    (case kc_Course => k_is)
    (case a0 => k_is)
    (case l0 => k_is)
    (case c0 => k_is)
    (case k0 => k_is)
    (case a1 => k_is)
    (case l1 => k_is)
    (case c1 => k_is)
    (case k1 => k_is)
    (case a2 => k_is)
    (case l2 => k_is)
    (case c2 => k_is)
    (case k2 => k_is)
    (case a3 => k_is)
    (case i3 => k_is)
    (case l3 => k_is)
    (case c3 => k_is)
    (case k3 => k_is)
    (case a4 => k_is)
    (case g4 => k_is)
    (case t4 => k_is)
    (case r4 => exact ⟨_, by k_is⟩)
    (case l4 => k_is)
    (case c4 => k_is)
    (case k4 => k_is)
    (case a5 => k_is)
    (case i5 => k_is)
    (case l5 => k_is)
    (case c5 => k_is)
    (case k5 => k_is)
    (case a6 => k_is)
    (case g6 => k_is)
    (case t6 => k_is)
    (case r6 => exact ⟨_, by k_is⟩)
    (case l6 => k_is)
    (case c6 => k_is)
    (case k6 => k_is)
    (case a7 => k_is)
    (case g7 => k_is)
    (case t7 => k_is)
    (case r7 => exact ⟨_, by k_is⟩)
    (case l7 => k_is)
    (case c7 => k_is)
    (case k7 => k_is)
    (case a8 => k_is)
    (case g8 => k_is)
    (case t8 => k_is)
    (case r8 => exact ⟨_, by k_is⟩)
    (case l8 => k_is)
    (case c8 => k_is)
    (case k8 => k_is)
    (case a9 => k_is)
    (case i9 => k_is)
    (case l9 => k_is)
    (case c9 => k_is)
    (case k9 => k_is)
    (case a10 => k_is)
    (case l10 => k_is)
    (case c10 => k_is)
    (case k10 => k_is)
    (case a11 => k_is)
    (case l11 => k_is)
    (case c11 => k_is)
    (case k11 => k_is)
    (case a12 => k_is)
    (case l12 => k_is)
    (case c12 => k_is)
    (case k12 => k_is)
    (case a13 => k_is)
    (case l13 => k_is)
    (case c13 => k_is)
    (case k13 => k_is)
    (case a14 => k_is)
    (case l14 => k_is)
    (case c14 => k_is)
    (case k14 => k_is)
    (case a15 => k_is)
    (case l15 => k_is)
    (case c15 => k_is)
    (case k15 => k_is)
    (case a16 => k_is)
    (case l16 => k_is)
    (case c16 => k_is)
    (case k16 => k_is)
    (case a17 => k_is)
    (case l17 => k_is)
    (case c17 => k_is)
    (case k17 => k_is)
    (case na_Course_period => k_is)
    (case na_Course_rise => k_is)
    (case na_Course_start => k_is)
    (case na_Course_told => k_is)
    (case z_all => k_is)
    (case z_bool => k_is)
    (case z_enumerate => k_is)
    (case z_int => k_is)
    (case z_isinstance => k_is)
    (case z_len => k_is)
    (case z_list => k_is)
    (case z_max => k_is)
    (case z_min => k_is)
    (case z_range => k_is)
    (case z_str => k_is)
    (case z_tuple => k_is)
