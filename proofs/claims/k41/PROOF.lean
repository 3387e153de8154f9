import PyProof.Rows.All
import Wide.All
import OpenK.AllK
import Wide.FinOn
import HandS.ForMost
import HandS.ForExc
import HandS.Lambda
import HandS.EndTab
import HandS.IsInst
import HandS.Wide
import HandS.TupAny
import HandS.TupMul
import HandS.TupLe
import HandS.Deep
import HandS.Gcd
import HandS.Flow
import HandS.SortInts
import HandS.Defaults
import HandS.MakeKwOnly
import HandS.Style
import HandS.ExcIs
import KE.KStateDown
import HandS.Head0
import HandS.Head1
import HandS.Head2
import HandS.HeadEnd
import HandS.HeadHook4
import HandS.HeadWalk
import PySem.Challenge.RW_pulledrooms_k41_rows_judged_and_their_nu
set_option Elab.async false
set_option linter.all false
set_option maxRecDepth 100000
set_option maxHeartbeats 4000000
/-! The data layer: values as trees of data, environments, the rules of the hand layer told without heaps. -/
namespace HD
open PySem PySem.Spec PyProof.Rows L2

/-- data -/
inductive D where
  | non | bl (b : Bool) | int (i : Int) | str (x : Str) | ty (n : String) | raw (a : Addr)
  | lst (l : List D) | tup (l : List D)
  | dic (ks : List Key) (l : List D)
  | ins (C : Addr) (ns : List Str) (l : List D)
  | exc (C : Addr) (ns : List Str) (l : List D)
  | dct

abbrev AP := Addr → Prop
/-- an exception object that was caught -/
def excH (a C : Addr) (od : Option Addr) : HO := .ext fun h => ∃ (oe : Obj) (vs : Array Value), h.get? a = some oe ∧ Zc (.ref C) od oe ∧ oe.data = .fields vs

mutual
inductive Is (X : AP) (H : Hp) : V → D → Prop
  | non : Is X H .non .non
  | bl (b : Bool) : Is X H (.bl b) (.bl b)
  | int (i : Int) : Is X H (.int i) (.int i)
  | str (x : Str) : Is X H (.str x) (.str x)
  | ty (n : String) : Is X H (.ty n) (.ty n)
  | raw (a : Addr) : Is X H (.ref a) (.raw a)
  | lst {a : Addr} {xs : List V} {ds : List D} : ¬ X a → H a = some (.lst xs) → IsAll X H xs ds → Is X H (.ref a) (.lst ds)
  | tup {a : Addr} {xs : List V} {ds : List D} : ¬ X a → H a = some (.tup xs) → IsAll X H xs ds → Is X H (.ref a) (.tup ds)
  | dic {a : Addr} {kvs : List (Key × V)} {ks : List Key} {ds : List D} : ¬ X a → H a = some (.dK kvs) → kvs.map (·.1) = ks → IsAll X H (kvs.map (·.2)) ds → Is X H (.ref a) (.dic ks ds)
  | ins {a C dx : Addr} {fs : List (Str × V)} {ns : List Str} {ds : List D} : ¬ X a → H a = some (.ins C dx fs) → fs.map (·.1) = ns → IsAll X H (fs.map (·.2)) ds → Is X H (.ref a) (.ins C ns ds)
  | dct {a : Addr} {kvs : List (List Key × V)} : ¬ X a → H a = some (.dT kvs) → Is X H (.ref a) .dct
  | exc0 {a C : Addr} : ¬ X a → H a = some (excH a C none) → Is X H (.ref a) (.exc C [] [])
  | exc {a C dd : Addr} {fs : List (Str × V)} {ns : List Str} {ds : List D} : ns ≠ [] → ¬ X a → H a = some (excH a C (some dd)) → ¬ X dd → H dd = some (.xd fs) → fs.map (·.1) = ns → IsAll X H (fs.map (·.2)) ds → Is X H (.ref a) (.exc C ns ds)
inductive IsAll (X : AP) (H : Hp) : List V → List D → Prop
  | nil : IsAll X H [] []
  | cons {v : V} {vs : List V} {d : D} {ds : List D} : Is X H v d → IsAll X H vs ds → IsAll X H (v :: vs) (d :: ds)
end

/-- what stands outside X is kept and stays outside -/
def Mv (X : AP) (H : Hp) (X' : AP) (H' : Hp) : Prop := ∀ a o, H a = some o → ¬ X a → H' a = some o ∧ ¬ X' a
theorem Mv.rd {X X' : AP} {H H' : Hp} (k : Mv X H X' H') {a : Addr} {u : HO} (hx : ¬ X a) (r : Rd H a u) : Rd H' a u ∧ ¬ X' a := by
  rcases r with r | ⟨o, r⟩
  · exact ⟨.inl (k _ _ r hx).1, (k _ _ r hx).2⟩
  · exact ⟨.inr ⟨o, (k _ _ r hx).1⟩, (k _ _ r hx).2⟩
mutual
theorem Is.mv {X X' : AP} {H H' : Hp} (k : Mv X H X' H') : ∀ (d : D) {v : V}, Is X H v d → Is X' H' v d
  | .non, _, .non => .non
  | .bl b, _, .bl _ => .bl b
  | .int i, _, .int _ => .int i
  | .str x, _, .str _ => .str x
  | .ty n, _, .ty _ => .ty n
  | .raw a, _, .raw _ => .raw a
  | .lst ds, _, .lst hx hr ha => .lst (k _ _ hr hx).2 (k _ _ hr hx).1 (IsAll.mv k ds ha)
  | .tup ds, _, .tup hx hr ha => .tup (k _ _ hr hx).2 (k _ _ hr hx).1 (IsAll.mv k ds ha)
  | .dic ks ds, _, .dic hx hr hk ha => .dic (k _ _ hr hx).2 (k _ _ hr hx).1 hk (IsAll.mv k ds ha)
  | .ins C ns ds, _, .ins hx hr hk ha => .ins (k _ _ hr hx).2 (k _ _ hr hx).1 hk (IsAll.mv k ds ha)
  | .dct, _, .dct hx hr => .dct (k _ _ hr hx).2 (k _ _ hr hx).1
  | .exc C _ _, _, .exc0 hx hr => .exc0 (k _ _ hr hx).2 (k _ _ hr hx).1
  | .exc C ns ds, _, .exc hne hx hr hy hs hk ha => .exc hne (k _ _ hr hx).2 (k _ _ hr hx).1 (k _ _ hs hy).2 (k _ _ hs hy).1 hk (IsAll.mv k ds ha)
theorem IsAll.mv {X X' : AP} {H H' : Hp} (k : Mv X H X' H') : ∀ (ds : List D) {vs : List V}, IsAll X H vs ds → IsAll X' H' vs ds
  | [], _, .nil => .nil
  | d :: ds, _, .cons h t => .cons (Is.mv k d h) (IsAll.mv k ds t)
end
theorem IsAll.len {X : AP} {H : Hp} : ∀ {vs : List V} {ds : List D}, IsAll X H vs ds → vs.length = ds.length
  | _, _, .nil => rfl
  | _, _, .cons _ t => by rw [List.length_cons, List.length_cons, t.len]
theorem IsAll.get {X : AP} {H : Hp} : ∀ {vs : List V} {ds : List D} {i : Nat} {v : V}, IsAll X H vs ds → vs[i]? = some v → ∃ d, ds[i]? = some d ∧ Is X H v d
  | _, _, _, _, .nil, e => by simp at e
  | _, _, 0, _, .cons h _, e => by simp at e; subst e; exact ⟨_, rfl, h⟩
  | _, _, i + 1, v, .cons _ t, e => by
    obtain ⟨d, h1, h2⟩ := t.get (i := i) (v := v) (by simpa using e)
    exact ⟨d, by simpa using h1, h2⟩
theorem IsAll.got {X : AP} {H : Hp} : ∀ {vs : List V} {ds : List D} {i : Nat} {d : D}, IsAll X H vs ds → ds[i]? = some d → ∃ v, vs[i]? = some v ∧ Is X H v d
  | _, _, _, _, .nil, e => by simp at e
  | _, _, 0, _, .cons h _, e => by simp at e; subst e; exact ⟨_, rfl, h⟩
  | _, _, i + 1, v, .cons _ t, e => by
    obtain ⟨d, h1, h2⟩ := t.got (i := i) (by simpa using e)
    exact ⟨d, by simpa using h1, h2⟩
theorem IsAll.append {X : AP} {H : Hp} : ∀ {vs ws : List V} {ds es : List D}, IsAll X H vs ds → IsAll X H ws es → IsAll X H (vs ++ ws) (ds ++ es)
  | _, _, _, _, .nil, s => s
  | _, _, _, _, .cons h t, s => .cons h (t.append s)
theorem IsAll.take {X : AP} {H : Hp} : ∀ (n : Nat) {vs : List V} {ds : List D}, IsAll X H vs ds → IsAll X H (vs.take n) (ds.take n)
  | 0, _, _, _ => .nil
  | _ + 1, _, _, .nil => .nil
  | n + 1, _, _, .cons h t => .cons h (IsAll.take n t)
theorem IsAll.drop {X : AP} {H : Hp} : ∀ (n : Nat) {vs : List V} {ds : List D}, IsAll X H vs ds → IsAll X H (vs.drop n) (ds.drop n)
  | 0, _, _, h => h
  | _ + 1, _, _, .nil => .nil
  | n + 1, _, _, .cons _ t => IsAll.drop n t
theorem IsAll.set {X : AP} {H : Hp} {v : V} {d : D} (h : Is X H v d) : ∀ (n : Nat) {vs : List V} {ds : List D}, IsAll X H vs ds → IsAll X H (vs.set n v) (ds.set n d)
  | _, _, _, .nil => .nil
  | 0, _, _, .cons _ t => .cons h t
  | n + 1, _, _, .cons q t => .cons q (IsAll.set h n t)
theorem IsAll.snoc {X : AP} {H : Hp} {v : V} {d : D} {vs : List V} {ds : List D} (h : IsAll X H vs ds) (q : Is X H v d) : IsAll X H (vs ++ [v]) (ds ++ [d]) := h.append (.cons q .nil)
theorem IsAll.eraseIdx {X : AP} {H : Hp} : ∀ (n : Nat) {vs : List V} {ds : List D}, IsAll X H vs ds → IsAll X H (vs.eraseIdx n) (ds.eraseIdx n)
  | _, _, _, .nil => .nil
  | 0, _, _, .cons _ t => t
  | n + 1, _, _, .cons q t => .cons q (IsAll.eraseIdx n t)
theorem IsAll.reverse {X : AP} {H : Hp} : ∀ {vs : List V} {ds : List D}, IsAll X H vs ds → IsAll X H vs.reverse ds.reverse
  | _, _, .nil => .nil
  | _, _, .cons h t => by rw [List.reverse_cons, List.reverse_cons]; exact t.reverse.snoc h
/-- the content of a mutable object -/
inductive Ob (X : AP) (H : Hp) : HO → D → Prop
  | lst {xs : List V} {ds : List D} : IsAll X H xs ds → Ob X H (.lst xs) (.lst ds)
  | dic {kvs : List (Key × V)} {ks : List Key} {ds : List D} : kvs.map (·.1) = ks → IsAll X H (kvs.map (·.2)) ds → Ob X H (.dK kvs) (.dic ks ds)
  | ins {C dx : Addr} {fs : List (Str × V)} {ns : List Str} {ds : List D} : fs.map (·.1) = ns → IsAll X H (fs.map (·.2)) ds → Ob X H (.ins C dx fs) (.ins C ns ds)
theorem Ob.mv {X X' : AP} {H H' : Hp} (k : Mv X H X' H') {o : HO} {d : D} : Ob X H o d → Ob X' H' o d
  | .lst h => .lst (h.mv k _)
  | .dic e h => .dic e (h.mv k _)
  | .ins e h => .ins e (h.mv k _)
/-- frozen -/
theorem Ob.is {X X' : AP} {H : Hp} {a : Addr} {o : HO} {d : D} (e : H a = some o) (hx : ¬ X' a) (k : Mv X H X' H) : Ob X H o d → Is X' H (.ref a) d
  | .lst h => .lst hx e (h.mv k _)
  | .dic q h => .dic hx e q (h.mv k _)
  | .ins q h => .ins hx e q (h.mv k _)

/-! ### what is fixed through a def's body -/
/-- how an exception of the class C with its fields is held: od its dict -/
def ExF (X : AP) (H : Hp) (od : Option Addr) (ns : List Str) (l : List D) : Prop := (ns = [] ∧ l = [] ∧ od = none) ∨ ∃ (dd : Addr) (fs : List (Str × V)), ns ≠ [] ∧ od = some dd ∧ ¬ X dd ∧ H dd = some (.xd fs) ∧ fs.map (·.1) = ns ∧ IsAll X H (fs.map (·.2)) l
def Frm (V : AP) (H H' : Hp) : Prop := ∀ a o, H a = some o → ¬ V a → H' a = some o
/-- never changed -/
def KeepO : HO → Prop
  | .lst _ => False
  | .dK _ => False
  | .dT _ => False
  | .set _ _ => False
  | .ins _ _ _ => False
  | _ => True
structure Wd where
  V : AP
  X0 : AP
  G : Nat → Hp → Prop
  H0 : Hp
  E : XK
  EP : Nat → Addr → List Str → List D → Prop
  vx : ∀ a, V a → X0 a
  xd : ∀ a, X0 a → H0 a ≠ none
  vd : ∀ n H, G n H → ∀ a, V a → H a ≠ none
  stab : ∀ n H H', (∀ a o, H a = some o → V a ∨ KeepO o → H' a = some o) → G n H → G n H'
  hE : ∀ n C ns l od H', EP n C ns l → Frm V H0 H' → G n H' → ExF X0 H' od ns l → E (.ref C) od H'

abbrev Rho := List (Option (Bool × D))
abbrev ZL := List (Addr × HO)
abbrev TL := List (V × D)
/-- the slots' own objects -/
def Own (ρ : Rho) (σ : L2.St) (a : Addr) : Prop := ∃ (i : Nat) (d : D), ρ[i]? = some (some (true, d)) ∧ σ[i]? = some (some (.ref a))
def XX (W : Wd) (Z : ZL) (ρ : Rho) (σ : L2.St) (a : Addr) : Prop := W.X0 a ∨ Own ρ σ a ∨ ∃ o, (a, o) ∈ Z
structure Env (W : Wd) (n : Nat) (Z : ZL) (T : TL) (ρ : Rho) (σ : L2.St) (H : Hp) : Prop where
  len : σ.length = ρ.length
  sh : ∀ (i : Nat) (d : D), ρ[i]? = some (some (false, d)) → ∃ v, σ[i]? = some (some v) ∧ Is (XX W Z ρ σ) H v d
  ow : ∀ (i : Nat) (d : D), ρ[i]? = some (some (true, d)) → ∃ (a : Addr) (o : HO), σ[i]? = some (some (.ref a)) ∧ H a = some o ∧ Ob (XX W Z ρ σ) H o d ∧ W.H0 a = none ∧ ¬ ∃ o, (a, o) ∈ Z
  inj : ∀ (i j : Nat) (d e : D) (a : Addr), ρ[i]? = some (some (true, d)) → ρ[j]? = some (some (true, e)) → σ[i]? = some (some (.ref a)) → σ[j]? = some (some (.ref a)) → i = j
  z : ∀ p, p ∈ Z → H p.1 = some p.2 ∧ W.H0 p.1 = none
  zn : (Z.map (·.1)).Nodup
  t : ∀ p, p ∈ T → Is (XX W Z ρ σ) H p.1 p.2
  fr : Frm W.V W.H0 H
  g : W.G n H

theorem Ob.mut {X : AP} {H : Hp} {o : HO} {d : D} : Ob X H o d → ¬ KeepO o
  | .lst _ => fun h => h
  | .dic _ _ => fun h => h
  | .ins _ _ => fun h => h
section
variable {W : Wd} {n n' : Nat} {Z : ZL} {T : TL} {ρ : Rho} {σ : L2.St} {H H' : Hp}
theorem Env.dom0 (e : Env W n Z T ρ σ H) {a : Addr} (h : H a = none) : W.H0 a = none := by
  cases q : W.H0 a with
  | none => rfl
  | some o =>
    by_cases hv : W.V a
    · exact absurd h (W.vd n H e.g a hv)
    · rw [e.fr a o q hv] at h; cases h
theorem Env.nx0 {a : Addr} (h : W.H0 a = none) : ¬ W.X0 a := fun x => W.xd a x h
theorem Env.nv0 {a : Addr} (h : W.H0 a = none) : ¬ W.V a := fun x => W.xd a (W.vx a x) h
theorem XX.nv {a : Addr} (h : ¬ XX W Z ρ σ a) : ¬ W.V a := fun x => h (.inl (W.vx a x))
theorem Env.xdom (e : Env W n Z T ρ σ H) {a : Addr} (h : XX W Z ρ σ a) : H a ≠ none := by
  rcases h with h | ⟨i, d, h1, h2⟩ | ⟨o, h⟩
  · intro q
    exact W.xd a h (e.dom0 q)
  · obtain ⟨b, o, h3, h4, _⟩ := e.ow i d h1
    rw [h2] at h3; cases h3
    rw [h4]; exact fun z => nomatch z
  · rw [(e.z _ h).1]; exact fun z => nomatch z
/-- the heap outside V is kept -/
theorem Env.heap (e : Env W n Z T ρ σ H) (k : Frm W.V H H') (g : W.G n' H') : Env W n' Z T ρ σ H' := by
  have m : Mv (XX W Z ρ σ) H (XX W Z ρ σ) H' := fun a o h hx => ⟨k a o h (XX.nv hx), hx⟩
  refine ⟨e.len, fun i d h => ?_, fun i d h => ?_, e.inj, fun p hp => ?_, e.zn, fun p hp => (e.t p hp).mv m, fun a o h hv => k a o (e.fr a o h hv) hv, g⟩
  · obtain ⟨v, h1, h2⟩ := e.sh i d h
    exact ⟨v, h1, h2.mv m⟩
  · obtain ⟨a, o, h1, h2, h3, h4, h5⟩ := e.ow i d h
    exact ⟨a, o, h1, k a o h2 (Env.nv0 h4), h3.mv m, h4, h5⟩
  · obtain ⟨h1, h2⟩ := e.z p hp
    exact ⟨k _ _ h1 (Env.nv0 h2), h2⟩
/-- what is tracked is kept -/
theorem Env.same (e : Env W n Z T ρ σ H) (k : ∀ a o, H a = some o → H' a = some o) : Env W n Z T ρ σ H' := by
  exact e.heap (fun a o h _ => k a o h) (W.stab n H H' (fun a o q _ => k a o q) e.g)
theorem Env.new (e : Env W n Z T ρ σ H) {p : Addr} {o : HO} (h : H p = none) : Env W n Z T ρ σ (upd H p o) := e.same fun a u q => by
  rw [upd_ne (ne_of_none q h)]; exact q
theorem Env.push (e : Env W n Z T ρ σ H) {v : V} {d : D} (h : Is (XX W Z ρ σ) H v d) : Env W n Z ((v, d) :: T) ρ σ H :=
  ⟨e.len, e.sh, e.ow, e.inj, e.z, e.zn, fun p hp => (List.mem_cons.mp hp).elim (fun q => by rw [q]; exact h) (e.t p), e.fr, e.g⟩
theorem Env.pop {T' : TL} (e : Env W n Z T' ρ σ H) (h : ∀ p, p ∈ T → p ∈ T') : Env W n Z T ρ σ H := ⟨e.len, e.sh, e.ow, e.inj, e.z, e.zn, fun p hp => e.t p (h p hp), e.fr, e.g⟩
theorem Env.pop1 {p : V × D} (e : Env W n Z (p :: T) ρ σ H) : Env W n Z T ρ σ H := e.pop fun _ h => List.mem_cons_of_mem _ h
theorem Env.top {v : V} {d : D} (e : Env W n Z ((v, d) :: T) ρ σ H) : Is (XX W Z ρ σ) H v d := e.t (v, d) List.mem_cons_self
def zipT (vs : List V) (ds : List D) : TL := vs.zip ds
theorem zip_all {X : AP} {H : Hp} : ∀ {vs : List V} {ds : List D}, IsAll X H vs ds → ∀ p, p ∈ zipT vs ds → Is X H p.1 p.2
  | _, _, .nil, p, hp => by simp [zipT] at hp
  | _, _, .cons h t, p, hp => by
    unfold zipT at hp
    rw [List.zip_cons_cons] at hp
    rcases List.mem_cons.mp hp with e | e
    · rw [e]; exact h
    · exact zip_all t p e
theorem all_zip {X : AP} {H : Hp} : ∀ {vs : List V} {ds : List D}, vs.length = ds.length → (∀ p, p ∈ zipT vs ds → Is X H p.1 p.2) → IsAll X H vs ds
  | [], [], _, _ => .nil
  | [], _ :: _, h, _ => by simp at h
  | _ :: _, [], h, _ => by simp at h
  | v :: vs, d :: ds, h, k => by
    have k' : ∀ p, p ∈ (v, d) :: zipT vs ds → Is X H p.1 p.2 := k
    exact .cons (k' (v, d) List.mem_cons_self) (all_zip (by simpa using h) fun p hp => k' p (List.mem_cons_of_mem _ hp))
theorem Env.pushAll (e : Env W n Z T ρ σ H) {vs : List V} {ds : List D} (h : IsAll (XX W Z ρ σ) H vs ds) : Env W n Z (zipT vs ds ++ T) ρ σ H :=
  ⟨e.len, e.sh, e.ow, e.inj, e.z, e.zn, fun p hp => (List.mem_append.mp hp).elim (zip_all h p) (e.t p), e.fr, e.g⟩
theorem Env.topAll {vs : List V} {ds : List D} (e : Env W n Z (zipT vs ds ++ T) ρ σ H) (hl : vs.length = ds.length) : IsAll (XX W Z ρ σ) H vs ds := all_zip hl fun p hp => e.t p (List.mem_append_left _ hp)
theorem Env.popAll {T' : TL} (e : Env W n Z (T' ++ T) ρ σ H) : Env W n Z T ρ σ H := e.pop fun _ h => List.mem_append_right _ h

/-! ### pending objects -/
theorem Env.znew (e : Env W n Z T ρ σ H) {p : Addr} (h : H p = none) : ¬ ∃ o, (p, o) ∈ Z := fun ⟨o, q⟩ => by
  rw [(e.z _ q).1] at h; cases h
/-- a new object is laid, pending -/
theorem Env.lay (e : Env W n Z T ρ σ H) {p : Addr} {o : HO} (h : H p = none) : Env W n ((p, o) :: Z) T ρ σ (upd H p o) := by
  have m : Mv (XX W Z ρ σ) H (XX W ((p, o) :: Z) ρ σ) (upd H p o) := fun a u q hx => by
    have ne : a ≠ p := ne_of_none q h
    refine ⟨by rw [upd_ne ne]; exact q, fun x => hx ?_⟩
    rcases x with x | x | ⟨u', x⟩
    · exact .inl x
    · exact .inr (.inl x)
    · rcases List.mem_cons.mp x with y | y
      · cases y; exact absurd rfl ne
      · exact .inr (.inr ⟨u', y⟩)
  have e' := e.new (o := o) h
  refine ⟨e.len, fun i d q => ?_, fun i d q => ?_, e.inj, fun q hq => ?_, ?_, fun q hq => (e.t q hq).mv m, e'.fr, e'.g⟩
  · obtain ⟨v, h1, h2⟩ := e.sh i d q
    exact ⟨v, h1, h2.mv m⟩
  · obtain ⟨a, u, h1, h2, h3, h4, h5⟩ := e.ow i d q
    have ne : a ≠ p := ne_of_none h2 h
    refine ⟨a, u, h1, by rw [upd_ne ne]; exact h2, h3.mv m, h4, fun ⟨u', x⟩ => ?_⟩
    rcases List.mem_cons.mp x with y | y
    · cases y; exact ne rfl
    · exact h5 ⟨u', y⟩
  · rcases List.mem_cons.mp hq with y | y
    · rw [y]; exact ⟨upd_same, e.dom0 h⟩
    · obtain ⟨h1, h2⟩ := e.z q y
      exact ⟨by rw [upd_ne (ne_of_none h1 h)]; exact h1, h2⟩
  · rw [List.map_cons]
    refine List.nodup_cons.mpr ⟨fun x => ?_, e.zn⟩
    obtain ⟨q, hq, eq⟩ := List.mem_map.mp x
    exact e.znew h ⟨q.2, by have eq' : q.1 = p := eq; rw [← eq']; exact hq⟩
/-- a pending object changes its content -/
theorem Env.zput {p : Addr} {o o' : HO} (hk : ¬ KeepO o) (e : Env W n ((p, o) :: Z) T ρ σ H) : Env W n ((p, o') :: Z) T ρ σ (upd H p o') := by
  have hp := e.z (p, o) List.mem_cons_self
  have hz : ∀ q ∈ Z, q.1 ≠ p := fun q hq x => (List.nodup_cons.mp e.zn).1 (List.mem_map.mpr ⟨q, hq, x⟩)
  have m : Mv (XX W ((p, o) :: Z) ρ σ) H (XX W ((p, o') :: Z) ρ σ) (upd H p o') := fun a u q hx => by
    have ne : a ≠ p := fun z => hx (.inr (.inr ⟨o, by rw [z]; exact List.mem_cons_self⟩))
    refine ⟨by rw [upd_ne ne]; exact q, fun x => hx ?_⟩
    rcases x with x | x | ⟨u', x⟩
    · exact .inl x
    · exact .inr (.inl x)
    · rcases List.mem_cons.mp x with y | y
      · cases y; exact absurd rfl ne
      · exact .inr (.inr ⟨u', List.mem_cons_of_mem _ y⟩)
  have nV : ∀ a, W.V a → a ≠ p := fun a hv z => Env.nv0 hp.2 (by rw [← z]; exact hv)
  refine ⟨e.len, fun i d q => ?_, fun i d q => ?_, e.inj, fun q hq => ?_, e.zn, fun q hq => (e.t q hq).mv m, fun a u h hv => ?_, W.stab n H _ (fun a u q hv => by
    have ne : a ≠ p := fun z => by
      rcases hv with hv | hv
      · exact nV a hv z
      · rw [z, hp.1] at q
        cases q
        exact hk hv
    rw [upd_ne ne]; exact q) e.g⟩
  · obtain ⟨v, h1, h2⟩ := e.sh i d q
    exact ⟨v, h1, h2.mv m⟩
  · obtain ⟨a, u, h1, h2, h3, h4, h5⟩ := e.ow i d q
    have ne : a ≠ p := fun z => h5 ⟨o, by rw [z]; exact List.mem_cons_self⟩
    refine ⟨a, u, h1, by rw [upd_ne ne]; exact h2, h3.mv m, h4, fun ⟨u', x⟩ => ?_⟩
    rcases List.mem_cons.mp x with y | y
    · cases y; exact ne rfl
    · exact h5 ⟨u', List.mem_cons_of_mem _ y⟩
  · rcases List.mem_cons.mp hq with y | y
    · rw [y]; exact ⟨upd_same, hp.2⟩
    · obtain ⟨h1, h2⟩ := e.z q (List.mem_cons_of_mem _ y)
      exact ⟨by rw [upd_ne (hz q y)]; exact h1, h2⟩
  · have ne : a ≠ p := fun z => by rw [z, hp.2] at h; cases h
    rw [upd_ne ne]; exact e.fr a u h hv
theorem Env.zmv {p : Addr} {o : HO} (e : Env W n ((p, o) :: Z) T ρ σ H) : Mv (XX W ((p, o) :: Z) ρ σ) H (XX W Z ρ σ) H ∧ ¬ XX W Z ρ σ p := by
  have hp := e.z (p, o) List.mem_cons_self
  refine ⟨fun a u q hx => ⟨q, fun x => hx ?_⟩, fun x => ?_⟩
  · rcases x with x | x | ⟨u', x⟩
    · exact .inl x
    · exact .inr (.inl x)
    · exact .inr (.inr ⟨u', List.mem_cons_of_mem _ x⟩)
  · rcases x with x | ⟨i, d, h1, h2⟩ | ⟨u', x⟩
    · exact Env.nx0 hp.2 x
    · obtain ⟨a, u, h3, h4, _, _, h5⟩ := e.ow i d h1
      rw [h2] at h3; cases h3
      exact h5 ⟨o, List.mem_cons_self⟩
    · exact (List.nodup_cons.mp e.zn).1 (List.mem_map.mpr ⟨(p, u'), x, rfl⟩)
/-- pending no more -/
theorem Env.zpop {p : Addr} {o : HO} (e : Env W n ((p, o) :: Z) T ρ σ H) : Env W n Z T ρ σ H := by
  obtain ⟨m, _⟩ := e.zmv
  refine ⟨e.len, fun i d q => ?_, fun i d q => ?_, e.inj, fun q hq => e.z q (List.mem_cons_of_mem _ hq), (List.nodup_cons.mp e.zn).2, fun q hq => (e.t q hq).mv m, e.fr, e.g⟩
  · obtain ⟨v, h1, h2⟩ := e.sh i d q
    exact ⟨v, h1, h2.mv m⟩
  · obtain ⟨a, u, h1, h2, h3, h4, h5⟩ := e.ow i d q
    exact ⟨a, u, h1, h2, h3.mv m, h4, fun ⟨u', x⟩ => h5 ⟨u', List.mem_cons_of_mem _ x⟩⟩
theorem Env.zis {p : Addr} {o : HO} {d : D} (e : Env W n ((p, o) :: Z) T ρ σ H) (h : Ob (XX W ((p, o) :: Z) ρ σ) H o d) : Is (XX W Z ρ σ) H (.ref p) d :=
  h.is (e.z (p, o) List.mem_cons_self).1 e.zmv.2 e.zmv.1

/-! ### slots -/
theorem set_get {α : Type} {l : List α} {i j : Nat} {x y : α} (h : (l.set i x)[j]? = some y) : (i = j ∧ y = x ∧ i < l.length) ∨ (i ≠ j ∧ l[j]? = some y) := by
  by_cases e : i = j
  · subst e
    by_cases hl : i < l.length
    · rw [List.getElem?_set_self hl] at h
      exact .inl ⟨rfl, (Option.some.inj h).symm, hl⟩
    · rw [List.getElem?_eq_none (by simpa using hl)] at h; cases h
  · rw [List.getElem?_set_ne e] at h
    exact .inr ⟨e, h⟩
/-- own slots behind a store of something that isn't own -/
theorem Own.back {i : Nat} {s : Option (Bool × D)} {v : Option V} (hs : ∀ d, s ≠ some (true, d)) {a : Addr} (h : Own (ρ.set i s) (σ.set i v) a) : Own ρ σ a := by
  obtain ⟨j, d, h1, h2⟩ := h
  rcases set_get h1 with ⟨_, q, _⟩ | ⟨ne, q⟩
  · exact absurd q.symm (hs d)
  · rw [List.getElem?_set_ne ne] at h2
    exact ⟨j, d, q, h2⟩
theorem Env.drops (e : Env W n Z T ρ σ H) (i : Nat) (s : Option (Bool × D)) (v : Option V) (hs : ∀ d, s ≠ some (true, d)) : Mv (XX W Z ρ σ) H (XX W Z (ρ.set i s) (σ.set i v)) H := fun a u q hx => ⟨q, fun x => hx (by
  rcases x with x | x | x
  · exact .inl x
  · exact .inr (.inl (Own.back hs x))
  · exact .inr (.inr x))⟩
theorem Env.setG (e : Env W n Z T ρ σ H) (i : Nat) (s : Option (Bool × D)) (v : Option V) (hs : ∀ d, s ≠ some (true, d)) (hv : ∀ d, s = some (false, d) → ∃ x, v = some x ∧ Is (XX W Z ρ σ) H x d) : Env W n Z T (ρ.set i s) (σ.set i v) H := by
  have m := e.drops i s v hs
  refine ⟨by rw [List.length_set, List.length_set]; exact e.len, fun j d h => ?_, fun j d h => ?_, fun j k d1 d2 a h1 h2 h3 h4 => ?_, e.z, e.zn, fun p hp => (e.t p hp).mv m, e.fr, e.g⟩
  · rcases set_get h with ⟨ij, q, hl⟩ | ⟨ne, q⟩
    · subst ij
      obtain ⟨x, hx, hi⟩ := hv d q.symm
      refine ⟨x, ?_, hi.mv m⟩
      rw [List.getElem?_set_self (by rw [e.len]; exact hl), hx]
    · obtain ⟨x, h1, h2⟩ := e.sh j d q
      exact ⟨x, by rw [List.getElem?_set_ne ne]; exact h1, h2.mv m⟩
  · rcases set_get h with ⟨ij, q, hl⟩ | ⟨ne, q⟩
    · exact absurd q.symm (hs d)
    · obtain ⟨a, u, h1, h2, h3, h4⟩ := e.ow j d q
      exact ⟨a, u, by rw [List.getElem?_set_ne ne]; exact h1, h2, h3.mv m, h4⟩
  · rcases set_get h1 with ⟨_, q, _⟩ | ⟨ne1, q1⟩
    · exact absurd q.symm (hs d1)
    · rcases set_get h2 with ⟨_, q, _⟩ | ⟨ne2, q2⟩
      · exact absurd q.symm (hs d2)
      · rw [List.getElem?_set_ne ne1] at h3
        rw [List.getElem?_set_ne ne2] at h4
        exact e.inj j k d1 d2 a q1 q2 h3 h4
/-- a value is stored -/
theorem Env.set (e : Env W n Z T ρ σ H) {i : Nat} {v : V} {d : D} (h : Is (XX W Z ρ σ) H v d) : Env W n Z T (ρ.set i (some (false, d))) (σ.set i (some v)) H :=
  e.setG i _ _ (fun d q => by cases q) fun d' q => by cases q; exact ⟨v, rfl, h⟩
/-- a slot's value is forgotten -/
theorem Env.forget (e : Env W n Z T ρ σ H) (i : Nat) : Env W n Z T (ρ.set i none) σ H := by
  have e' := e.setG i none (σ.getD i none) (fun d q => by cases q) (fun d q => by cases q)
  have q : σ.set i (σ.getD i none) = σ := by
    apply List.ext_getElem?
    intro j
    by_cases ij : i = j
    · subst ij
      by_cases hl : i < σ.length
      · rw [List.getElem?_set_self hl, List.getD_eq_getElem?_getD, List.getElem?_eq_getElem hl]; rfl
      · rw [List.getElem?_eq_none (by simpa using hl), List.getElem?_eq_none (by simpa using hl)]
    · rw [List.getElem?_set_ne ij]
  rw [q] at e'
  exact e'
/-- a slot's own object is read only from now on -/
theorem Env.freeze (e : Env W n Z T ρ σ H) {i : Nat} {d : D} (h : ρ[i]? = some (some (true, d))) : Env W n Z T (ρ.set i (some (false, d))) σ H := by
  obtain ⟨a, o, h1, h2, h3, h4, h5⟩ := e.ow i d h
  have hi : i < ρ.length := (List.getElem?_eq_some_iff.mp h).1
  have back : ∀ b, Own (ρ.set i (some (false, d))) σ b → Own ρ σ b ∧ b ≠ a := fun b ⟨j, d', q1, q2⟩ => by
    rcases set_get q1 with ⟨_, q, _⟩ | ⟨ne, q⟩
    · cases q
    · exact ⟨⟨j, d', q, q2⟩, fun z => ne (e.inj i j d d' a h q h1 (by rw [← z]; exact q2))⟩
  have m : Mv (XX W Z ρ σ) H (XX W Z (ρ.set i (some (false, d))) σ) H := fun b u q hx => ⟨q, fun x => hx (by
    rcases x with x | x | x
    · exact .inl x
    · exact .inr (.inl (back b x).1)
    · exact .inr (.inr x))⟩
  have na : ¬ XX W Z (ρ.set i (some (false, d))) σ a := fun x => by
    rcases x with x | x | x
    · exact Env.nx0 h4 x
    · exact (back a x).2 rfl
    · exact h5 x
  refine ⟨by rw [List.length_set]; exact e.len, fun j d' q => ?_, fun j d' q => ?_, fun j k d1 d2 b q1 q2 q3 q4 => ?_, e.z, e.zn, fun p hp => (e.t p hp).mv m, e.fr, e.g⟩
  · rcases set_get q with ⟨ij, q', _⟩ | ⟨ne, q⟩
    · subst ij
      cases q'
      exact ⟨V.ref a, h1, h3.is h2 na m⟩
    · obtain ⟨x, q1, q2⟩ := e.sh j d' q
      exact ⟨x, q1, q2.mv m⟩
  · rcases set_get q with ⟨_, q, _⟩ | ⟨ne, q⟩
    · cases q
    · obtain ⟨b, u, q1, q2, q3, q4⟩ := e.ow j d' q
      exact ⟨b, u, q1, q2, q3.mv m, q4⟩
  · rcases set_get q1 with ⟨_, q, _⟩ | ⟨ne1, q1⟩
    · cases q
    · rcases set_get q2 with ⟨_, q, _⟩ | ⟨ne2, q2⟩
      · cases q
      · exact e.inj j k d1 d2 b q1 q2 q3 q4
/-- a pending object goes to a slot -/
theorem Env.take {p : Addr} {o : HO} {d : D} {i : Nat} (e : Env W n ((p, o) :: Z) T ρ σ H) (h : Ob (XX W ((p, o) :: Z) ρ σ) H o d) : Env W n Z T (ρ.set i (some (true, d))) (σ.set i (some (.ref p))) H := by
  have hp := e.z (p, o) List.mem_cons_self
  have np : ∀ j d, ρ[j]? = some (some (true, d)) → σ[j]? = some (some (V.ref p)) → False := fun j d h1 h2 => by
    obtain ⟨a, u, h3, _, _, _, h5⟩ := e.ow j d h1
    rw [h2] at h3; cases h3
    exact h5 ⟨o, List.mem_cons_self⟩
  have m : Mv (XX W ((p, o) :: Z) ρ σ) H (XX W Z (ρ.set i (some (true, d))) (σ.set i (some (.ref p)))) H := fun a u q hx => ⟨q, fun x => hx (by
    rcases x with x | ⟨j, d', q1, q2⟩ | ⟨u', x⟩
    · exact .inl x
    · rcases set_get q1 with ⟨ij, _, _⟩ | ⟨ne, q1⟩
      · subst ij
        rcases set_get q2 with ⟨_, q, _⟩ | ⟨ne, _⟩
        · cases q
          exact .inr (.inr ⟨o, List.mem_cons_self⟩)
        · exact absurd rfl ne
      · rw [List.getElem?_set_ne ne] at q2
        exact .inr (.inl ⟨j, d', q1, q2⟩)
    · exact .inr (.inr ⟨u', List.mem_cons_of_mem _ x⟩))⟩
  refine ⟨by rw [List.length_set, List.length_set]; exact e.len, fun j d' q => ?_, fun j d' q => ?_, fun j k d1 d2 b q1 q2 q3 q4 => ?_, fun q hq => e.z q (List.mem_cons_of_mem _ hq), (List.nodup_cons.mp e.zn).2, fun q hq => (e.t q hq).mv m, e.fr, e.g⟩
  · rcases set_get q with ⟨_, q, _⟩ | ⟨ne, q⟩
    · cases q
    · obtain ⟨x, q1, q2⟩ := e.sh j d' q
      exact ⟨x, by rw [List.getElem?_set_ne ne]; exact q1, q2.mv m⟩
  · rcases set_get q with ⟨ij, q', hl⟩ | ⟨ne, q⟩
    · subst ij
      cases q'
      refine ⟨p, o, by rw [List.getElem?_set_self (by rw [e.len]; exact hl)], hp.1, h.mv m, hp.2, fun ⟨u, x⟩ => (List.nodup_cons.mp e.zn).1 (List.mem_map.mpr ⟨_, x, rfl⟩)⟩
    · obtain ⟨a, u, h1, h2, h3, h4, h5⟩ := e.ow j d' q
      exact ⟨a, u, by rw [List.getElem?_set_ne ne]; exact h1, h2, h3.mv m, h4, fun ⟨u', x⟩ => h5 ⟨u', List.mem_cons_of_mem _ x⟩⟩
  · rcases set_get q1 with ⟨ij, _, hl⟩ | ⟨ne1, q1⟩
    · subst ij
      rcases set_get q2 with ⟨ik, _, _⟩ | ⟨ne2, q2⟩
      · exact ik
      · rw [List.getElem?_set_self (by rw [e.len]; exact hl)] at q3
        cases q3
        rw [List.getElem?_set_ne ne2] at q4
        exact (np k d2 q2 q4).elim
    · rw [List.getElem?_set_ne ne1] at q3
      rcases set_get q2 with ⟨ik, _, hl⟩ | ⟨ne2, q2⟩
      · subst ik
        rw [List.getElem?_set_self (by rw [e.len]; exact hl)] at q4
        cases q4
        exact (np j d1 q1 q3).elim
      · rw [List.getElem?_set_ne ne2] at q4
        exact e.inj j k d1 d2 b q1 q2 q3 q4
/-- a slot's own object is changed -/
theorem Env.put (e : Env W n Z T ρ σ H) {i : Nat} {a : Addr} {d d' : D} {o' : HO} (h : ρ[i]? = some (some (true, d))) (hs : σ[i]? = some (some (.ref a))) (ho : Ob (XX W Z ρ σ) H o' d') : Env W n Z T (ρ.set i (some (true, d'))) σ (upd H a o') := by
  obtain ⟨a', o, h1, h2, h3, h4, h5⟩ := e.ow i d h
  rw [hs] at h1; cases h1
  have xa : XX W Z ρ σ a := .inr (.inl ⟨i, d, h, hs⟩)
  have own : ∀ b, Own (ρ.set i (some (true, d'))) σ b → Own ρ σ b := fun b ⟨j, d1, q1, q2⟩ => by
    rcases set_get q1 with ⟨ij, _, _⟩ | ⟨ne, q⟩
    · subst ij; exact ⟨i, d, h, q2⟩
    · exact ⟨j, d1, q, q2⟩
  have m : Mv (XX W Z ρ σ) H (XX W Z (ρ.set i (some (true, d'))) σ) (upd H a o') := fun b u q hx => by
    have ne : b ≠ a := fun z => hx (by rw [z]; exact xa)
    refine ⟨by rw [upd_ne ne]; exact q, fun x => hx ?_⟩
    rcases x with x | x | x
    · exact .inl x
    · exact .inr (.inl (own b x))
    · exact .inr (.inr x)
  refine ⟨by rw [List.length_set]; exact e.len, fun j d1 q => ?_, fun j d1 q => ?_, fun j k d1 d2 b q1 q2 q3 q4 => ?_, fun q hq => ?_, e.zn, fun p hp => (e.t p hp).mv m, fun b u q hv => ?_, W.stab n H _ (fun b u q hv => by
    have ne : b ≠ a := fun z => by
      rcases hv with hv | hv
      · exact Env.nv0 h4 (by rw [← z]; exact hv)
      · rw [z, h2] at q
        cases q
        exact h3.mut hv
    rw [upd_ne ne]; exact q) e.g⟩
  · rcases set_get q with ⟨_, q, _⟩ | ⟨ne, q⟩
    · cases q
    · obtain ⟨x, q1, q2⟩ := e.sh j d1 q
      exact ⟨x, q1, q2.mv m⟩
  · rcases set_get q with ⟨ij, q', _⟩ | ⟨ne, q⟩
    · subst ij
      cases q'
      exact ⟨a, o', hs, upd_same, ho.mv m, h4, h5⟩
    · obtain ⟨b, u, q1, q2, q3, q4⟩ := e.ow j d1 q
      have nb : b ≠ a := fun z => ne (e.inj i j d d1 a h q hs (by rw [← z]; exact q1))
      exact ⟨b, u, q1, by rw [upd_ne nb]; exact q2, q3.mv m, q4⟩
  · have back : ∀ j d1, (ρ.set i (some (true, d')))[j]? = some (some (true, d1)) → ∃ d2, ρ[j]? = some (some (true, d2)) := fun j d1 q => by
      rcases set_get q with ⟨ij, _, _⟩ | ⟨ne, q⟩
      · subst ij; exact ⟨d, h⟩
      · exact ⟨d1, q⟩
    obtain ⟨x1, y1⟩ := back j d1 q1
    obtain ⟨x2, y2⟩ := back k d2 q2
    exact e.inj j k x1 x2 b y1 y2 q3 q4
  · obtain ⟨q1, q2⟩ := e.z q hq
    have ne : q.1 ≠ a := fun z => h5 ⟨q.2, by rw [← z]; exact hq⟩
    exact ⟨by rw [upd_ne ne]; exact q1, q2⟩
  · have ne : b ≠ a := fun z => by rw [z, h4] at q; cases q
    rw [upd_ne ne]; exact e.fr b u q hv
end
end HD

namespace HD
open PySem PySem.Spec PyProof.Rows L2

/-! ### what a reading evaluates to -/
/-- data at v, shared or a slot's own -/
def IsW (X : AP) (H : Hp) (v : V) (d : D) : Prop := Is X H v d ∨ ∃ (a : Addr) (o : HO), v = .ref a ∧ H a = some o ∧ Ob X H o d
def RetK (W : Wd) (Z : ZL) (T : TL) (ρ : Rho) (σ : L2.St) (P : Nat → D → Prop) (Q : VK) : Prop := ∀ (n : Nat) (v : V) (d : D) (H' : Hp), P n d → Env W n Z T ρ σ H' → Is (XX W Z ρ σ) H' v d → Q v H'
def RetF (W : Wd) (Z : ZL) (T : TL) (ρ : Rho) (σ : L2.St) (P : Nat → D → Prop) (Q : VK) : Prop := ∀ (n : Nat) (a : Addr) (o : HO) (d : D) (H' : Hp), P n d → Env W n ((a, o) :: Z) T ρ σ H' → Ob (XX W ((a, o) :: Z) ρ σ) H' o d → Q (.ref a) H'
def DE (te : TE) (W : Wd) (n : Nat) (ρ : Rho) (P : Nat → D → Prop) : Prop := ∀ (Z : ZL) (T : TL) (σ : L2.St) (H : Hp), Env W n Z T ρ σ H → ∀ Q : VK, RetK W Z T ρ σ P Q → te σ H Q
def DF (te : TE) (W : Wd) (n : Nat) (ρ : Rho) (P : Nat → D → Prop) : Prop := ∀ (Z : ZL) (T : TL) (σ : L2.St) (H : Hp), Env W n Z T ρ σ H → ∀ Q : VK, RetF W Z T ρ σ P Q → te σ H Q
def DA (ta : TA) (W : Wd) (n : Nat) (ρ : Rho) (P : Nat → List D → Prop) : Prop := ∀ (Z : ZL) (T : TL) (σ : L2.St) (H : Hp), Env W n Z T ρ σ H → ∀ Q : List V → Hp → Prop, (∀ (n : Nat) (vs : List V) (ds : List D) (H' : Hp), P n ds → Env W n Z T ρ σ H' → IsAll (XX W Z ρ σ) H' vs ds → Q vs H') → ta σ H Q
def DT (tt : TT) (W : Wd) (n : Nat) (ρ : Rho) (P : Nat → Bool → Prop) : Prop := ∀ (Z : ZL) (T : TL) (σ : L2.St) (H : Hp), Env W n Z T ρ σ H → ∀ Q : Bool → Hp → Prop, (∀ (n : Nat) (b : Bool) (H' : Hp), P n b → Env W n Z T ρ σ H' → Q b H') → tt σ H Q
def DO (to : TO) (W : Wd) (n : Nat) (ρ : Rho) (P : Nat → Option Int → Prop) : Prop := ∀ (Z : ZL) (T : TL) (σ : L2.St) (H : Hp), Env W n Z T ρ σ H → ∀ Q : Option Int → Hp → Prop, (∀ (n : Nat) (b : Option Int) (H' : Hp), P n b → Env W n Z T ρ σ H' → Q b H') → to σ H Q
/-- operations on values -/
def DR (r : R2) (W : Wd) (n : Nat) (ρ : Rho) (d1 d2 : D) (P : Nat → D → Prop) : Prop := ∀ (Z : ZL) (T : TL) (σ : L2.St) (H : Hp) (v1 v2 : V), Env W n Z T ρ σ H → IsW (XX W Z ρ σ) H v1 d1 → IsW (XX W Z ρ σ) H v2 d2 → ∀ Q : VK, RetK W Z T ρ σ P Q → r v1 v2 H Q
def DRF (r : R2) (W : Wd) (n : Nat) (ρ : Rho) (d1 d2 : D) (P : Nat → D → Prop) : Prop := ∀ (Z : ZL) (T : TL) (σ : L2.St) (H : Hp) (v1 v2 : V), Env W n Z T ρ σ H → IsW (XX W Z ρ σ) H v1 d1 → IsW (XX W Z ρ σ) H v2 d2 → ∀ Q : VK, RetF W Z T ρ σ P Q → r v1 v2 H Q
def DU (r : V → Hp → VK → Prop) (W : Wd) (n : Nat) (ρ : Rho) (d : D) (P : Nat → D → Prop) : Prop := ∀ (Z : ZL) (T : TL) (σ : L2.St) (H : Hp) (v : V), Env W n Z T ρ σ H → IsW (XX W Z ρ σ) H v d → ∀ Q : VK, RetK W Z T ρ σ P Q → r v H Q
def IsWs (X : AP) (H : Hp) (vs : List V) (ds : List D) : Prop := Paired (IsW X H) vs ds
def DC (r : List V → Hp → VK → Prop) (W : Wd) (n : Nat) (ρ : Rho) (ds : List D) (P : Nat → D → Prop) : Prop := ∀ (Z : ZL) (T : TL) (σ : L2.St) (H : Hp) (vs : List V), Env W n Z T ρ σ H → IsWs (XX W Z ρ σ) H vs ds → ∀ Q : VK, RetK W Z T ρ σ P Q → r vs H Q
def DCF (r : List V → Hp → VK → Prop) (W : Wd) (n : Nat) (ρ : Rho) (ds : List D) (P : Nat → D → Prop) : Prop := ∀ (Z : ZL) (T : TL) (σ : L2.St) (H : Hp) (vs : List V), Env W n Z T ρ σ H → IsWs (XX W Z ρ σ) H vs ds → ∀ Q : VK, RetF W Z T ρ σ P Q → r vs H Q
def DSl (r : V → Option Int → Option Int → Hp → VK → Prop) (W : Wd) (n : Nat) (ρ : Rho) (d : D) (lo hi : Option Int) (P : Nat → D → Prop) : Prop := ∀ (Z : ZL) (T : TL) (σ : L2.St) (H : Hp) (v : V), Env W n Z T ρ σ H → IsW (XX W Z ρ σ) H v d → ∀ Q : VK, RetK W Z T ρ σ P Q → r v lo hi H Q

section
variable {W : Wd} {n : Nat} {Z : ZL} {T : TL} {ρ : Rho} {σ : L2.St} {H : Hp} {P P' : Nat → D → Prop} {Q : VK} {te ta tb tc : TE} {tt tu : TT} {r r' : R2} {d d1 d2 : D} {X : AP} {v : V} {K : PySem.W.Frag}

theorem IsAll.ws : ∀ {vs : List V} {ds : List D}, IsAll X H vs ds → IsWs X H vs ds
  | _, _, .nil => .nil
  | _, _, .cons h t => .cons (.inl h) t.ws
theorem RetF.sh (h : RetK W Z T ρ σ P Q) : RetF W Z T ρ σ P Q := fun n a o d H' p e ho => h _ _ d H' p e.zpop (e.zis ho)
theorem DF.de (h : DF te W n ρ P) : DE te W n ρ P := fun Z T σ H e Q k => h Z T σ H e Q (RetF.sh k)
theorem DRF.dr (h : DRF r W n ρ d1 d2 P) : DR r W n ρ d1 d2 P := fun Z T σ H v1 v2 e i1 i2 Q k => h Z T σ H v1 v2 e i1 i2 Q (RetF.sh k)
theorem DCF.dc {r : List V → Hp → VK → Prop} {ds : List D} (h : DCF r W n ρ ds P) : DC r W n ρ ds P := fun Z T σ H vs e i Q k => h Z T σ H vs e i Q (RetF.sh k)
theorem DE.imp (h : DE te W n ρ P) (k : ∀ n d, P n d → P' n d) : DE te W n ρ P' := fun Z T σ H e Q q => h Z T σ H e Q fun n v d H' p => q _ v d H' (k _ d p)
theorem DF.imp (h : DF te W n ρ P) (k : ∀ n d, P n d → P' n d) : DF te W n ρ P' := fun Z T σ H e Q q => h Z T σ H e Q fun n a o d H' p => q _ a o d H' (k _ d p)
theorem DA.imp {ta : TA} {P P' : Nat → List D → Prop} (h : DA ta W n ρ P) (k : ∀ n d, P n d → P' n d) : DA ta W n ρ P' := fun Z T σ H e Q q => h Z T σ H e Q fun n v d H' p => q _ v d H' (k _ d p)
theorem DT.imp {P P' : Nat → Bool → Prop} (h : DT tt W n ρ P) (k : ∀ n d, P n d → P' n d) : DT tt W n ρ P' := fun Z T σ H e Q q => h Z T σ H e Q fun n b H' p => q _ b H' (k _ b p)

/-! inversions -/
theorem isw_non (h : IsW X H v .non) : v = .non := by
  rcases h with h | ⟨a, o, _, _, h⟩
  · cases h; rfl
  · cases h
theorem isw_bl {b : Bool} (h : IsW X H v (.bl b)) : v = .bl b := by
  rcases h with h | ⟨a, o, _, _, h⟩
  · cases h; rfl
  · cases h
theorem isw_int {i : Int} (h : IsW X H v (.int i)) : v = .int i := by
  rcases h with h | ⟨a, o, _, _, h⟩
  · cases h; rfl
  · cases h
theorem isw_str {x : Str} (h : IsW X H v (.str x)) : v = .str x := by
  rcases h with h | ⟨a, o, _, _, h⟩
  · cases h; rfl
  · cases h
theorem isw_ty {c : String} (h : IsW X H v (.ty c)) : v = .ty c := by
  rcases h with h | ⟨a, o, _, _, h⟩
  · cases h; rfl
  · cases h
theorem isw_raw {a : Addr} (h : IsW X H v (.raw a)) : v = .ref a := by
  rcases h with h | ⟨a, o, _, _, h⟩
  · cases h; rfl
  · cases h
theorem isw_lst {ds : List D} (h : IsW X H v (.lst ds)) : ∃ a xs, v = .ref a ∧ H a = some (.lst xs) ∧ IsAll X H xs ds := by
  rcases h with h | ⟨a, o, e, ho, h⟩
  · cases h with
    | lst hx hr ha => exact ⟨_, _, rfl, hr, ha⟩
  · cases h with
    | lst ha => exact ⟨a, _, e, ho, ha⟩
theorem isw_tup {ds : List D} (h : IsW X H v (.tup ds)) : ∃ a xs, v = .ref a ∧ H a = some (.tup xs) ∧ IsAll X H xs ds ∧ ¬ X a := by
  rcases h with h | ⟨a, o, e, ho, h⟩
  · cases h with
    | tup hx hr ha => exact ⟨_, _, rfl, hr, ha, hx⟩
  · cases h
theorem isw_dic {ks : List Key} {ds : List D} (h : IsW X H v (.dic ks ds)) : ∃ a kvs, v = .ref a ∧ H a = some (.dK kvs) ∧ kvs.map (·.1) = ks ∧ IsAll X H (kvs.map (·.2)) ds := by
  rcases h with h | ⟨a, o, e, ho, h⟩
  · cases h with
    | dic hx hr hk ha => exact ⟨_, _, rfl, hr, hk, ha⟩
  · cases h with
    | dic hk ha => exact ⟨a, _, e, ho, hk, ha⟩
theorem isw_ins {C : Addr} {ns : List Str} {ds : List D} (h : IsW X H v (.ins C ns ds)) : ∃ a dx fs, v = .ref a ∧ H a = some (.ins C dx fs) ∧ fs.map (·.1) = ns ∧ IsAll X H (fs.map (·.2)) ds := by
  rcases h with h | ⟨a, o, e, ho, h⟩
  · cases h with
    | ins hx hr hk ha => exact ⟨_, _, _, rfl, hr, hk, ha⟩
  · cases h with
    | ins hk ha => exact ⟨a, _, _, e, ho, hk, ha⟩
theorem all_ints {xs : List V} : ∀ {ns : List Int}, IsAll X H xs (ns.map D.int) → xs = ns.map V.int := by
  intro ns
  induction ns generalizing xs with
  | nil => intro h; cases h; rfl
  | cons n ns ih =>
    intro h
    rw [List.map_cons] at h
    cases h with
    | cons h t => cases h; rw [ih t]; rfl
theorem all_bls {xs : List V} : ∀ {ns : List Bool}, IsAll X H xs (ns.map D.bl) → xs = ns.map V.bl := by
  intro ns
  induction ns generalizing xs with
  | nil => intro h; cases h; rfl
  | cons n ns ih =>
    intro h
    rw [List.map_cons] at h
    cases h with
    | cons h t => cases h; rw [ih t]; rfl
theorem ints_all : ∀ {ns : List Int}, IsAll X H (ns.map V.int) (ns.map D.int)
  | [] => .nil
  | n :: ns => .cons (.int n) ints_all

/-! ### names, constants -/
theorem de_var {i : Nat} (h : ρ[i]? = some (some (false, d))) (p : P n d) : DE (tVar i) W n ρ P := fun Z T σ H e Q k => by
  obtain ⟨v, h1, h2⟩ := e.sh i d h
  exact ⟨v, h1, k _ v d H p e h2⟩
theorem de_non (p : P n .non) : DE (tC .non) W n ρ P := fun Z T σ H e Q k => k _ _ _ H p e .non
theorem de_bl {b : Bool} (p : P n (.bl b)) : DE (tC (.bl b)) W n ρ P := fun Z T σ H e Q k => k _ _ _ H p e (.bl b)
theorem de_int {i : Int} (p : P n (.int i)) : DE (tC (.int i)) W n ρ P := fun Z T σ H e Q k => k _ _ _ H p e (.int i)
theorem de_str {x : Str} (p : P n (.str x)) : DE (tC (.str x)) W n ρ P := fun Z T σ H e Q k => k _ _ _ H p e (.str x)
theorem de_ty {c : String} (p : P n (.ty c)) : DE (tC (.ty c)) W n ρ P := fun Z T σ H e Q k => k _ _ _ H p e (.ty c)
theorem de_raw {a : Addr} (p : P n (.raw a)) : DE (tC (.ref a)) W n ρ P := fun Z T σ H e Q k => k _ _ _ H p e (.raw a)

/-! ### operators -/
theorem de_op (h : DE ta W n ρ fun n d1 => DE tb W n ρ fun n d2 => DR r W n ρ d1 d2 P) : DE (tOp r ta tb) W n ρ P := fun Z T σ H e Q k =>
  h Z T σ H e _ fun n v1 d1 H1 p1 e1 i1 => p1 Z ((v1, d1) :: T) σ H1 (e1.push i1) _ fun n v2 d2 H2 p2 e2 i2 => p2 Z T σ H2 v1 v2 e2.pop1 (.inl e2.top) (.inl i2) Q k
theorem df_op (h : DE ta W n ρ fun n d1 => DE tb W n ρ fun n d2 => DRF r W n ρ d1 d2 P) : DF (tOp r ta tb) W n ρ P := fun Z T σ H e Q k =>
  h Z T σ H e _ fun n v1 d1 H1 p1 e1 i1 => p1 Z ((v1, d1) :: T) σ H1 (e1.push i1) _ fun n v2 d2 H2 p2 e2 i2 => p2 Z T σ H2 v1 v2 e2.pop1 (.inl e2.top) (.inl i2) Q k
/-- the first operand a slot's own object -/
theorem Env.own_w {i : Nat} (e : Env W n Z T ρ σ H) (h : ρ[i]? = some (some (true, d))) : ∃ v, σ[i]? = some (some v) ∧ IsW (XX W Z ρ σ) H v d := by
  obtain ⟨a, o, h1, h2, h3, _⟩ := e.ow i d h
  exact ⟨.ref a, h1, .inr ⟨a, o, rfl, h2, h3⟩⟩
theorem de_op_o {i : Nat} (h1 : ρ[i]? = some (some (true, d1))) (h : DE tb W n ρ fun n d2 => DR r W n ρ d1 d2 P) : DE (tOp r (tVar i) tb) W n ρ P := fun Z T σ H e Q k => by
  obtain ⟨v, q, _⟩ := e.own_w h1
  refine ⟨v, q, h Z T σ H e _ fun n v2 d2 H2 p2 e2 i2 => ?_⟩
  obtain ⟨v', q', w'⟩ := e2.own_w h1
  rw [q] at q'; cases q'
  exact p2 Z T σ H2 v v2 e2 w' (.inl i2) Q k
theorem df_op_o {i : Nat} (h1 : ρ[i]? = some (some (true, d1))) (h : DE tb W n ρ fun n d2 => DRF r W n ρ d1 d2 P) : DF (tOp r (tVar i) tb) W n ρ P := fun Z T σ H e Q k => by
  obtain ⟨v, q, _⟩ := e.own_w h1
  refine ⟨v, q, h Z T σ H e _ fun n v2 d2 H2 p2 e2 i2 => ?_⟩
  obtain ⟨v', q', w'⟩ := e2.own_w h1
  rw [q] at q'; cases q'
  exact p2 Z T σ H2 v v2 e2 w' (.inl i2) Q k
theorem de_op_2o {i : Nat} (h1 : ρ[i]? = some (some (true, d2))) (h : DE ta W n ρ fun n d1 => DR r W n ρ d1 d2 P) : DE (tOp r ta (tVar i)) W n ρ P := fun Z T σ H e Q k =>
  h Z T σ H e _ fun n v1 d1 H1 p1 e1 i1 => by
    obtain ⟨v, q, w'⟩ := e1.own_w h1
    exact ⟨v, q, p1 Z T σ H1 v1 v e1 (.inl i1) w' Q k⟩
theorem de_un {r : V → Hp → VK → Prop} (h : DE ta W n ρ fun n d1 => DU r W n ρ d1 P) : DE (tUn r ta) W n ρ P := fun Z T σ H e Q k =>
  h Z T σ H e _ fun n v1 d1 H1 p1 e1 i1 => p1 Z T σ H1 v1 e1 (.inl i1) Q k
theorem dr_orl (h : DR r W n ρ d1 d2 P) : DR (fun x y H Q => r x y H Q ∨ r' x y H Q) W n ρ d1 d2 P := fun Z T σ H v1 v2 e i1 i2 Q k => .inl (h Z T σ H v1 v2 e i1 i2 Q k)
theorem dr_orr (h : DR r' W n ρ d1 d2 P) : DR (fun x y H Q => r x y H Q ∨ r' x y H Q) W n ρ d1 d2 P := fun Z T σ H v1 v2 e i1 i2 Q k => .inr (h Z T σ H v1 v2 e i1 i2 Q k)
theorem drf_orl (h : DRF r W n ρ d1 d2 P) : DRF (fun x y H Q => r x y H Q ∨ r' x y H Q) W n ρ d1 d2 P := fun Z T σ H v1 v2 e i1 i2 Q k => .inl (h Z T σ H v1 v2 e i1 i2 Q k)
theorem drf_orr (h : DRF r' W n ρ d1 d2 P) : DRF (fun x y H Q => r x y H Q ∨ r' x y H Q) W n ρ d1 d2 P := fun Z T σ H v1 v2 e i1 i2 Q k => .inr (h Z T σ H v1 v2 e i1 i2 Q k)
theorem dr_I0i {g : Int → Int → Int} {i j : Int} (p : P n (.int (g i j))) : DR (rI0 fun i j => .int (g i j)) W n ρ (.int i) (.int j) P := fun Z T σ H v1 v2 e i1 i2 Q k => by
  cases isw_int i1; cases isw_int i2
  exact ⟨i, j, rfl, rfl, k _ _ _ H p e (.int _)⟩
theorem dr_I0b {g : Int → Int → Bool} {i j : Int} (p : P n (.bl (g i j))) : DR (rI0 fun i j => .bl (g i j)) W n ρ (.int i) (.int j) P := fun Z T σ H v1 v2 e i1 i2 Q k => by
  cases isw_int i1; cases isw_int i2
  exact ⟨i, j, rfl, rfl, k _ _ _ H p e (.bl _)⟩
theorem dr_Ii {C : Int → Int → Prop} {g : Int → Int → Int} {i j : Int} (c : C i j) (p : P n (.int (g i j))) : DR (rI C fun i j => .int (g i j)) W n ρ (.int i) (.int j) P := fun Z T σ H v1 v2 e i1 i2 Q k => by
  cases isw_int i1; cases isw_int i2
  exact ⟨i, j, rfl, rfl, c, k _ _ _ H p e (.int _)⟩
theorem du_neg {i : Int} (p : P n (.int (-i))) : DU (rU fun i => .int (-i)) W n ρ (.int i) P := fun Z T σ H v e i1 Q k => by
  cases isw_int i1
  exact ⟨i, rfl, k _ _ _ H p e (.int _)⟩

/-! ### equality -/
mutual
/-- as the model's data -/
def D.toP : D → Option PyData
  | .non => some .none
  | .bl b => some (.bool b)
  | .int i => some (.int i)
  | .str x => some (.str x)
  | .lst l => match toPs l with
    | some ps => some (.list ps)
    | none => none
  | .tup l => match toPs l with
    | some ps => some (.tuple ps)
    | none => none
  | _ => none
def toPs : List D → Option (List PyData)
  | [] => some []
  | d :: ds => match d.toP, toPs ds with
    | some p, some ps => some (p :: ps)
    | _, _ => none
end
mutual
theorem Is.dp : ∀ (d : D) {v : V} {p : PyData}, Is X H v d → d.toP = some p → Dp K H v p
  | .non, _, _, .non, e => by cases e; exact .non
  | .bl b, _, _, .bl _, e => by cases e; exact .bl b
  | .int i, _, _, .int _, e => by cases e; exact .int i
  | .str x, _, _, .str _, e => by cases e; exact .str x
  | .ty _, _, _, _, e => by cases e
  | .raw _, _, _, _, e => by cases e
  | .lst ds, _, p, .lst hx hr ha, e => by
    unfold D.toP at e
    cases q : toPs ds with
    | none => rw [q] at e; cases e
    | some ps => rw [q] at e; cases e; exact .lst (.of hr) (IsAll.dp ds ha q)
  | .tup ds, _, p, .tup hx hr ha, e => by
    unfold D.toP at e
    cases q : toPs ds with
    | none => rw [q] at e; cases e
    | some ps => rw [q] at e; cases e; exact .tup (.of hr) (IsAll.dp ds ha q)
  | .dic _ _, _, _, _, e => by cases e
  | .ins _ _ _, _, _, _, e => by cases e
  | .exc _ _ _, _, _, _, e => by cases e
  | .dct, _, _, _, e => by cases e
theorem IsAll.dp : ∀ (ds : List D) {vs : List V} {ps : List PyData}, IsAll X H vs ds → toPs ds = some ps → DpAll K H vs ps
  | [], _, _, .nil, e => by cases e; exact .nil
  | d :: ds, _, _, .cons h t, e => by
    unfold toPs at e
    cases q : d.toP with
    | none => rw [q] at e; cases e
    | some p =>
      cases q2 : toPs ds with
      | none => rw [q, q2] at e; cases e
      | some ps => rw [q, q2] at e; cases e; exact .cons (Is.dp d h q) (IsAll.dp ds t q2)
end
theorem IsW.dp {p : PyData} (h : IsW X H v d) (e : d.toP = some p) : Dp K H v p := by
  rcases h with h | ⟨a, o, rfl, ho, h⟩
  · exact h.dp d e
  · cases h with
    | lst ha =>
      unfold D.toP at e
      rename_i xs ds
      cases q : toPs ds with
      | none => rw [q] at e; cases e
      | some ps => rw [q] at e; cases e; exact .lst (.of ho) (ha.dp ds q)
    | dic _ _ => cases e
    | ins _ _ => cases e
theorem dr_eq {p1 p2 : PyData} (e1 : d1.toP = some p1) (e2 : d2.toP = some p2) (s1 : SeqAt.shaped p1 = true) (s2 : SeqAt.shaped p2 = true) (p : P n (.bl (PyData.eqv p1 p2))) : DR (rEqD K) W n ρ d1 d2 P := fun Z T σ H v1 v2 e i1 i2 Q k =>
  ⟨p1, p2, i1.dp e1, i2.dp e2, s1, s2, k _ _ _ H p e (.bl _)⟩
theorem dr_ne {p1 p2 : PyData} (e1 : d1.toP = some p1) (e2 : d2.toP = some p2) (s1 : SeqAt.shaped p1 = true) (s2 : SeqAt.shaped p2 = true) (p : P n (.bl (!PyData.eqv p1 p2))) : DR (rNeD K) W n ρ d1 d2 P := fun Z T σ H v1 v2 e i1 i2 Q k =>
  ⟨p1, p2, i1.dp e1, i2.dp e2, s1, s2, k _ _ _ H p e (.bl _)⟩
/-- in, not in a list -/
theorem dr_inD {p1 : PyData} {ps : List PyData} (e1 : d1.toP = some p1) (e2 : d2.toP = some (.list ps)) (s1 : SeqAt.shaped p1 = true) (s2 : SeqAt.shaped (.list ps) = true) (p : P n (.bl (ps.any fun z => PyData.eqv z p1))) : DR (rInD K) W n ρ d1 d2 P := fun Z T σ H v1 v2 e i1 i2 Q k =>
  ⟨p1, ps, i1.dp e1, i2.dp e2, s1, s2, k _ _ _ H p e (.bl _)⟩
theorem dr_notInD {p1 : PyData} {ps : List PyData} (e1 : d1.toP = some p1) (e2 : d2.toP = some (.list ps)) (s1 : SeqAt.shaped p1 = true) (s2 : SeqAt.shaped (.list ps) = true) (p : P n (.bl (!ps.any fun z => PyData.eqv z p1))) : DR (rNotInD K) W n ρ d1 d2 P := fun Z T σ H v1 v2 e i1 i2 Q k =>
  ⟨p1, ps, i1.dp e1, i2.dp e2, s1, s2, k _ _ _ H p e (.bl _)⟩
/-- is None -/
def D.isNon : D → Bool
  | .non => true
  | _ => false
theorem isw_isNon (h : IsW X H v d) : decide (v = .non) = d.isNon := by
  rcases h with h | ⟨a, o, rfl, ho, h⟩
  · cases h <;> rfl
  · cases h <;> rfl
theorem dr_isN (p : P n (.bl d1.isNon)) : DR (fun x y H Q => y = .non ∧ Q (.bl (decide (x = .non))) H) W n ρ d1 .non P := fun Z T σ H v1 v2 e i1 i2 Q k => by
  cases isw_non i2
  exact ⟨rfl, by rw [isw_isNon i1]; exact k _ _ _ H p e (.bl _)⟩
theorem dr_notN (p : P n (.bl (!d1.isNon))) : DR (fun x y H Q => y = .non ∧ Q (.bl (!decide (x = .non))) H) W n ρ d1 .non P := fun Z T σ H v1 v2 e i1 i2 Q k => by
  cases isw_non i2
  exact ⟨rfl, by rw [isw_isNon i1]; exact k _ _ _ H p e (.bl _)⟩
theorem dr_isB {a b : Bool} (p : P n (.bl (decide (a = b)))) : DR (fun x y H Q => ∃ a b, x = .bl a ∧ y = .bl b ∧ Q (.bl (decide (a = b))) H) W n ρ (.bl a) (.bl b) P := fun Z T σ H v1 v2 e i1 i2 Q k => by
  cases isw_bl i1; cases isw_bl i2
  exact ⟨a, b, rfl, rfl, k _ _ _ H p e (.bl _)⟩
theorem dr_isnotB {a b : Bool} (p : P n (.bl (!decide (a = b)))) : DR (fun x y H Q => ∃ a b, x = .bl a ∧ y = .bl b ∧ Q (.bl (!decide (a = b))) H) W n ρ (.bl a) (.bl b) P := fun Z T σ H v1 v2 e i1 i2 Q k => by
  cases isw_bl i1; cases isw_bl i2
  exact ⟨a, b, rfl, rfl, k _ _ _ H p e (.bl _)⟩

/-! ### tests -/
theorem dt_test {P : Nat → Bool → Prop} (h : DE te W n ρ fun n d => ∃ b, d = .bl b ∧ P n b) : DT (tTest te) W n ρ P := fun Z T σ H e Q k =>
  h Z T σ H e _ fun n v d H' ⟨b, hb, p⟩ e' i => by subst hb; cases i; exact ⟨b, rfl, k _ b H' p e'⟩
theorem dt_B {P : Nat → Bool → Prop} (h : DE te W n ρ fun n d => ∃ b, d = .bl b ∧ P n b) : DT (tB te) W n ρ P := fun Z T σ H e Q k =>
  h Z T σ H e _ fun n v d H' ⟨b, hb, p⟩ e' i => by subst hb; cases i; exact ⟨b, rfl, k _ b H' p e'⟩
theorem dt_and {P : Nat → Bool → Prop} (h : DT tt W n ρ fun n b => (b = true → DT tu W n ρ P) ∧ (b = false → P n false)) : DT (tAnd tt tu) W n ρ P := fun Z T σ H e Q k =>
  h Z T σ H e _ fun n b H' p e' => by
    cases b with
    | true => exact p.1 rfl Z T σ H' e' Q k
    | false => exact k _ false H' (p.2 rfl) e'
theorem dt_or {P : Nat → Bool → Prop} (h : DT tt W n ρ fun n b => (b = true → P n true) ∧ (b = false → DT tu W n ρ P)) : DT (tOr tt tu) W n ρ P := fun Z T σ H e Q k =>
  h Z T σ H e _ fun n b H' p e' => by
    cases b with
    | true => exact k _ true H' (p.1 rfl) e'
    | false => exact p.2 rfl Z T σ H' e' Q k
theorem dt_not {P : Nat → Bool → Prop} (h : DT tt W n ρ fun n b => P n (!b)) : DT (tNot tt) W n ρ P := fun Z T σ H e Q k => h Z T σ H e _ fun n b H' p e' => k _ (!b) H' p e'
theorem dt_yes {P : Nat → Bool → Prop} (h : P n true) : DT tYes W n ρ P := fun Z T σ H e Q k => k _ true H h e
theorem de_andV (h : DE ta W n ρ fun n d => ∃ b, d = .bl b ∧ (b = true → DE tb W n ρ P) ∧ (b = false → P n (.bl false))) : DE (tAndV ta tb) W n ρ P := fun Z T σ H e Q k =>
  h Z T σ H e _ fun n v d H' ⟨b, hb, p⟩ e' i => by
    subst hb; cases i
    refine ⟨b, rfl, ?_⟩
    cases b with
    | true => exact p.1 rfl Z T σ H' e' Q k
    | false => exact k _ _ _ H' (p.2 rfl) e' (.bl false)
theorem de_orV (h : DE ta W n ρ fun n d => ∃ b, d = .bl b ∧ (b = true → P n (.bl true)) ∧ (b = false → DE tb W n ρ P)) : DE (tOrV ta tb) W n ρ P := fun Z T σ H e Q k =>
  h Z T σ H e _ fun n v d H' ⟨b, hb, p⟩ e' i => by
    subst hb; cases i
    refine ⟨b, rfl, ?_⟩
    cases b with
    | true => exact k _ _ _ H' (p.1 rfl) e' (.bl true)
    | false => exact p.2 rfl Z T σ H' e' Q k
theorem de_notV (h : DE ta W n ρ fun n d => ∃ b, d = .bl b ∧ P n (.bl (!b))) : DE (tNotV ta) W n ρ P := fun Z T σ H e Q k =>
  h Z T σ H e _ fun n v d H' ⟨b, hb, p⟩ e' i => by subst hb; cases i; exact ⟨b, rfl, k _ _ _ H' p e' (.bl _)⟩
theorem de_if (h : DT tt W n ρ fun n b => (b = true → DE ta W n ρ P) ∧ (b = false → DE tb W n ρ P)) : DE (tIf tt ta tb) W n ρ P := fun Z T σ H e Q k =>
  h Z T σ H e _ fun n b H' p e' => by
    cases b with
    | true => exact p.1 rfl Z T σ H' e' Q k
    | false => exact p.2 rfl Z T σ H' e' Q k
theorem df_if (h : DT tt W n ρ fun n b => (b = true → DF ta W n ρ P) ∧ (b = false → DF tb W n ρ P)) : DF (tIf tt ta tb) W n ρ P := fun Z T σ H e Q k =>
  h Z T σ H e _ fun n b H' p e' => by
    cases b with
    | true => exact p.1 rfl Z T σ H' e' Q k
    | false => exact p.2 rfl Z T σ H' e' Q k
theorem de_chain (h : DE ta W n ρ fun n d1 => DE tb W n ρ fun n d2 => DR r W n ρ d1 d2 fun n z => ∃ b, z = .bl b ∧ (b = true → DE tc W n ρ fun n d3 => DR r' W n ρ d2 d3 P) ∧ (b = false → P n (.bl false))) : DE (tChain r r' ta tb tc) W n ρ P := fun Z T σ H e Q k =>
  h Z T σ H e _ fun n v1 d1 H1 p1 e1 i1 => p1 Z ((v1, d1) :: T) σ H1 (e1.push i1) _ fun n v2 d2 H2 p2 e2 i2 => p2 Z ((v2, d2) :: T) σ H2 v1 v2 (e2.pop1.push i2) (.inl e2.top) (.inl i2) _ fun n v3 d3 H3 ⟨b, hb, p⟩ e3 i3 => by
    subst hb; cases i3
    refine ⟨b, rfl, ?_⟩
    cases b with
    | true => exact p.1 rfl Z ((v2, d2) :: T) σ H3 e3 _ fun n v4 d4 H4 p4 e4 i4 => p4 Z T σ H4 v2 v4 e4.pop1 (.inl e4.top) (.inl i4) Q k
    | false => exact k _ _ _ H3 (p.2 rfl) e3.pop1 (.bl false)

/-! ### arguments, displays -/
theorem da_nil {P : Nat → List D → Prop} (p : P n []) : DA tNil W n ρ P := fun Z T σ H e Q k => k _ [] [] H p e .nil
theorem da_cons {tr : TA} {P : Nat → List D → Prop} (h : DE ta W n ρ fun n d => DA tr W n ρ fun n ds => P n (d :: ds)) : DA (tCons ta tr) W n ρ P := fun Z T σ H e Q k =>
  h Z T σ H e _ fun n v d H1 p1 e1 i1 => p1 Z ((v, d) :: T) σ H1 (e1.push i1) _ fun n vs ds H2 p2 e2 i2 => k _ (v :: vs) (d :: ds) H2 p2 e2.pop1 (.cons e2.top i2)
theorem de_tup {ta : TA} (h : DA ta W n ρ fun n ds => ds.length ≤ sizeLine ∧ P n (.tup ds)) : DE (tTup ta) W n ρ P := fun Z T σ H e Q k =>
  h Z T σ H e _ fun n vs ds H1 p1 e1 i1 => ⟨by rw [i1.len]; exact p1.1, fun p hp => by
    have e2 := e1.lay (o := .tup vs) hp
    refine k _ _ _ _ p1.2 e2.zpop (.tup e2.zmv.2 upd_same (i1.mv (fun a u q hx => ⟨by rw [upd_ne (ne_of_none q hp)]; exact q, hx⟩) _))⟩
theorem lay_mv {p : Addr} {o : HO} (e : Env W n Z T ρ σ H) (hp : H p = none) : Mv (XX W Z ρ σ) H (XX W ((p, o) :: Z) ρ σ) (upd H p o) := fun a u q hx => by
  have ne : a ≠ p := ne_of_none q hp
  refine ⟨by rw [upd_ne ne]; exact q, fun x => hx ?_⟩
  rcases x with x | x | ⟨u', x⟩
  · exact .inl x
  · exact .inr (.inl x)
  · rcases List.mem_cons.mp x with y | y
    · cases y; exact absurd rfl ne
    · exact .inr (.inr ⟨u', y⟩)
theorem df_lst {ta : TA} (h : DA ta W n ρ fun n ds => ds.length ≤ sizeLine ∧ P n (.lst ds)) : DF (tLst ta) W n ρ P := fun Z T σ H e Q k =>
  h Z T σ H e _ fun n vs ds H1 p1 e1 i1 => ⟨by rw [i1.len]; exact p1.1, fun p hp => k _ p _ _ _ p1.2 (e1.lay hp) (.lst (i1.mv (lay_mv e1 hp) _))⟩
theorem df_dnew (p : P n (.dic [] [])) : DF tDNewK W n ρ P := fun Z T σ H e Q k => fun a ha => k _ a _ _ _ p (e.lay ha) (.dic rfl .nil)

/-! ### calls by values -/
theorem de_cb {ta : TA} {r : List V → Hp → VK → Prop} (h : DA ta W n ρ fun n ds => DC r W n ρ ds P) : DE (tCB r ta) W n ρ P := fun Z T σ H e Q k =>
  h Z T σ H e _ fun n vs ds H1 p1 e1 i1 => p1 Z T σ H1 vs e1 i1.ws Q k
theorem df_cb {ta : TA} {r : List V → Hp → VK → Prop} (h : DA ta W n ρ fun n ds => DCF r W n ρ ds P) : DF (tCB r ta) W n ρ P := fun Z T σ H e Q k =>
  h Z T σ H e _ fun n vs ds H1 p1 e1 i1 => p1 Z T σ H1 vs e1 i1.ws Q k
/-- of a slot's own object -/
theorem de_cb_o {i : Nat} {r : List V → Hp → VK → Prop} (h1 : ρ[i]? = some (some (true, d))) (h : DC r W n ρ [d] P) : DE (tCB r (tCons (tVar i) tNil)) W n ρ P := fun Z T σ H e Q k => by
  obtain ⟨v, q, w'⟩ := e.own_w h1
  exact ⟨v, q, h Z T σ H [v] e (.cons w' .nil) Q k⟩
theorem df_cb_o {i : Nat} {r : List V → Hp → VK → Prop} (h1 : ρ[i]? = some (some (true, d))) (h : DCF r W n ρ [d] P) : DF (tCB r (tCons (tVar i) tNil)) W n ρ P := fun Z T σ H e Q k => by
  obtain ⟨v, q, w'⟩ := e.own_w h1
  exact ⟨v, q, h Z T σ H [v] e (.cons w' .nil) Q k⟩
/-! ### slices -/
theorem do_none {P : Nat → Option Int → Prop} (p : P n none) : DO tNoPart W n ρ P := fun Z T σ H e Q k => k _ none H p e
theorem do_some {P : Nat → Option Int → Prop} (h : DE te W n ρ fun n d => ∃ i, d = .int i ∧ P n (some i)) : DO (tPart te) W n ρ P := fun Z T σ H e Q k =>
  h Z T σ H e _ fun n v d H' ⟨b, hb, p⟩ e' i => by subst hb; cases i; exact ⟨b, rfl, k _ _ H' p e'⟩
theorem de_sl {tl th : TO} {r : V → Option Int → Option Int → Hp → VK → Prop} (h : DE ta W n ρ fun n d1 => DO tl W n ρ fun n lo => DO th W n ρ fun n hi => DSl r W n ρ d1 lo hi P) : DE (tSl r ta tl th) W n ρ P := fun Z T σ H e Q k =>
  h Z T σ H e _ fun n v1 d1 H1 p1 e1 i1 => p1 Z ((v1, d1) :: T) σ H1 (e1.push i1) _ fun n lo H2 p2 e2 => p2 Z ((v1, d1) :: T) σ H2 e2 _ fun n hi H3 p3 e3 => p3 Z T σ H3 v1 e3.pop1 (.inl e3.top) Q k
end
end HD

namespace HD
open PySem PySem.Spec PyProof.Rows L2

/-! ### statements -/
structure Fin (W : Wd) (Z : ZL) (T : TL) (De : Ends) (N : Nat → Rho → Prop) (R : Nat → Bool → D → Prop) (B C : Nat → Rho → Prop) : Prop where
  nx : ∀ n ρ σ H, N n ρ → Env W n Z T ρ σ H → De.nx σ H
  rt : ∀ n v d H, R n false d → Frm W.V W.H0 H → W.G n H → Is W.X0 H v d → De.rt v H
  rf : ∀ n a o d H, R n true d → Frm W.V W.H0 H → W.G n H → W.H0 a = none → H a = some o → Ob (fun b => W.X0 b ∨ b = a) H o d → De.rt (.ref a) H
  bk : ∀ n ρ σ H, B n ρ → Env W n Z T ρ σ H → De.bk σ H
  ct : ∀ n ρ σ H, C n ρ → Env W n Z T ρ σ H → De.ct σ H
def DS (t : TS) (W : Wd) (n : Nat) (ρ : Rho) (N : Nat → Rho → Prop) (R : Nat → Bool → D → Prop) (B C : Nat → Rho → Prop) : Prop :=
  ∀ (Z : ZL) (T : TL) (σ : L2.St) (H : Hp), Env W n Z T ρ σ H → ∀ De : Ends, Fin W Z T De N R B C → t De σ H

section
variable {W : Wd} {n : Nat} {Z : ZL} {T : TL} {ρ : Rho} {σ : L2.St} {H : Hp} {N N' : Nat → Rho → Prop} {R : Nat → Bool → D → Prop} {B C : Nat → Rho → Prop} {t u : TS} {te ta tb : TE} {tt : TT} {d : D} {K : PySem.W.Frag}
theorem Env.x0 (e : Env W n Z T ρ σ H) : Mv (XX W Z ρ σ) H W.X0 H := fun a o q hx => ⟨q, fun x => hx (.inl x)⟩
theorem DS.imp (h : DS t W n ρ N R B C) (k : ∀ n ρ, N n ρ → N' n ρ) : DS t W n ρ N' R B C := fun Z T σ H e De f => h Z T σ H e De ⟨fun n ρ σ H q => f.nx n ρ σ H (k n ρ q), f.rt, f.rf, f.bk, f.ct⟩
theorem ds_next (q : N n ρ) : DS tNext W n ρ N R B C := fun Z T σ H e De f => f.nx n ρ σ H q e
theorem ds_break (q : B n ρ) : DS tBreak W n ρ N R B C := fun Z T σ H e De f => f.bk n ρ σ H q e
theorem ds_cont (q : C n ρ) : DS tCont W n ρ N R B C := fun Z T σ H e De f => f.ct n ρ σ H q e
theorem ds_seq (h : DS t W n ρ (fun n ρ' => DS u W n ρ' N R B C) R B C) : DS (tSeq t u) W n ρ N R B C := fun Z T σ H e De f =>
  h Z T σ H e _ ⟨fun n ρ' σ' H' q e' => q Z T σ' H' e' De f, f.rt, f.rf, f.bk, f.ct⟩
/-- behind t the state is told by M -/
theorem ds_cut (M : Nat → Rho → Prop) (h : DS t W n ρ M R B C) (k : ∀ n ρ', M n ρ' → DS u W n ρ' N R B C) : DS (tSeq t u) W n ρ N R B C := ds_seq (h.imp k)
theorem ds_drop (h : DE te W n ρ fun n _ => N n ρ) : DS (tDrop te) W n ρ N R B C := fun Z T σ H e De f => h Z T σ H e _ fun n v d H' p e' _ => f.nx n ρ σ H' p e'
theorem ds_ret (h : DE te W n ρ fun n d => R n false d) : DS (tRet te) W n ρ N R B C := fun Z T σ H e De f => h Z T σ H e _ fun n v d H' p e' i => f.rt n v d H' p e'.fr e'.g (i.mv e'.x0 _)
theorem ds_retF (h : DF te W n ρ fun n d => R n true d) : DS (tRet te) W n ρ N R B C := fun Z T σ H e De f => h Z T σ H e _ fun n a o d H' p e' i => by
  have z := e'.z (a, o) List.mem_cons_self
  refine f.rf n a o d H' p e'.fr e'.g z.2 z.1 (i.mv fun b u q hx => ⟨q, fun x => hx ?_⟩)
  rcases x with x | x
  · exact .inl x
  · exact .inr (.inr ⟨o, by rw [x]; exact List.mem_cons_self⟩)
theorem ds_ret_own {i : Nat} (h : ρ[i]? = some (some (true, d))) (r : R n true d) : DS (tRet (tVar i)) W n ρ N R B C := fun Z T σ H e De f => by
  obtain ⟨a, o, h1, h2, h3, h4, h5⟩ := e.ow i d h
  refine ⟨.ref a, h1, f.rf n a o d H r e.fr e.g h4 h2 (h3.mv fun b u q hx => ⟨q, fun x => hx ?_⟩)⟩
  rcases x with x | x
  · exact .inl x
  · exact .inr (.inl ⟨i, d, h, by rw [x]; exact h1⟩)
theorem ds_retN (r : R n false .non) : DS tRetN W n ρ N R B C := fun Z T σ H e De f => f.rt n .non .non H r e.fr e.g .non
theorem ds_if (h : DT tt W n ρ fun n b => (b = true → DS t W n ρ N R B C) ∧ (b = false → DS u W n ρ N R B C)) : DS (tIfS tt t u) W n ρ N R B C := fun Z T σ H e De f =>
  h Z T σ H e _ fun n b H' p e' => by
    cases b with
    | true => exact p.1 rfl Z T σ H' e' De f
    | false => exact p.2 rfl Z T σ H' e' De f
/-- an own object is read only from now on; a slot forgotten -/
theorem ds_freeze {i : Nat} (h : ρ[i]? = some (some (true, d))) (k : DS t W n (ρ.set i (some (false, d))) N R B C) : DS t W n ρ N R B C := fun Z T σ H e De f => k Z T σ H (e.freeze h) De f
theorem ds_forget (i : Nat) (k : DS t W n (ρ.set i none) N R B C) : DS t W n ρ N R B C := fun Z T σ H e De f => k Z T σ H (e.forget i) De f

/-! ### targets -/
def Agree (S : List Nat) (ρ ρ' : Rho) (σ σ' : L2.St) : Prop := σ'.length = σ.length ∧ ρ'.length = ρ.length ∧ (∀ i, i ∉ S → σ'[i]? = σ[i]? ∧ ρ'[i]? = ρ[i]?) ∧ ∀ (i : Nat) (d : D), i ∈ S → ρ'[i]? ≠ some (some (true, d))
def DG (g : TG) (S : List Nat) (d : D) (W : Wd) (ρ : Rho) (P : Rho → Prop) : Prop := ∀ (n : Nat) (Z : ZL) (T : TL) (σ : L2.St) (H : Hp) (v : V), Env W n Z T ρ σ H → Is (XX W Z ρ σ) H v d → ∀ Q : L2.St → Hp → Prop, (∀ (ρ' : Rho) (σ' : L2.St), P ρ' → Env W n Z T ρ' σ' H → Agree S ρ ρ' σ σ' → Q σ' H) → g v σ H Q
def DGs (g : TGs) (S : List Nat) (ds : List D) (W : Wd) (ρ : Rho) (P : Rho → Prop) : Prop := ∀ (n : Nat) (Z : ZL) (T : TL) (σ : L2.St) (H : Hp) (vs : List V), Env W n Z T ρ σ H → IsAll (XX W Z ρ σ) H vs ds → ∀ Q : L2.St → Hp → Prop, (∀ (ρ' : Rho) (σ' : L2.St), P ρ' → Env W n Z T ρ' σ' H → Agree S ρ ρ' σ σ' → Q σ' H) → g vs σ H Q
theorem dg_name {i : Nat} {P : Rho → Prop} (p : P (ρ.set i (some (false, d)))) : DG (gName i) [i] d W ρ P := fun n Z T σ H v e iv Q k =>
  k _ _ p (e.set iv) ⟨List.length_set, List.length_set, fun j hj => by
    have ne : i ≠ j := fun z => hj (by rw [z]; exact List.mem_cons_self)
    exact ⟨List.getElem?_set_ne ne, List.getElem?_set_ne ne⟩, fun j d' hj q => by
    have e1 : j = i := by simpa using hj
    subst e1
    rcases set_get q with ⟨_, z, _⟩ | ⟨ne, _⟩
    · cases z
    · exact ne rfl⟩
theorem dgs_nil {P : Rho → Prop} (p : P ρ) : DGs gNil [] [] W ρ P := fun n Z T σ H vs e i Q k => by
  cases i
  exact ⟨rfl, k ρ σ p e ⟨rfl, rfl, fun _ _ => ⟨rfl, rfl⟩, fun _ _ h => nomatch h⟩⟩
theorem dgs_cons {g : TG} {gs : TGs} {S S' : List Nat} {ds : List D} {P : Rho → Prop} (h : DG g S d W ρ fun ρ' => DGs gs S' ds W ρ' P) : DGs (gCons g gs) (S ++ S') (d :: ds) W ρ P := fun n Z T σ H vs e i Q k => by
  cases i with
  | @cons v vr _ _ hd tl =>
    have hl : vr.length = ds.length := tl.len
    refine ⟨v, vr, rfl, h n Z (zipT vr ds ++ T) σ H v (e.pushAll tl) hd _ fun ρ' σ' p e' a => ?_⟩
    refine p n Z T σ' H vr e'.popAll (e'.topAll hl) Q fun ρ2 σ2 p2 e2 a2 => k ρ2 σ2 p2 e2 ⟨a2.1.trans a.1, a2.2.1.trans a.2.1, fun j hj => ?_, fun j d' hj => ?_⟩
    · have h1 : j ∉ S := fun z => hj (List.mem_append_left _ z)
      have h2 : j ∉ S' := fun z => hj (List.mem_append_right _ z)
      exact ⟨(a2.2.2.1 j h2).1.trans (a.2.2.1 j h1).1, (a2.2.2.1 j h2).2.trans (a.2.2.1 j h1).2⟩
    · by_cases h2 : j ∈ S'
      · exact a2.2.2.2 j d' h2
      · rw [(a2.2.2.1 j h2).2]
        rcases List.mem_append.mp hj with h1 | h1
        · exact a.2.2.2 j d' h1
        · exact absurd h1 h2
theorem dg_tup {m : Nat} {gs : TGs} {S : List Nat} {ds : List D} {P : Rho → Prop} (hn : ds.length = m) (h : DGs gs S ds W ρ P) : DG (gTup K m gs) S (.tup ds) W ρ P := fun n Z T σ H v e i Q k => by
  cases i with
  | tup hx hr ha => exact ⟨_, _, rfl, .of hr, by rw [ha.len]; exact hn, h n Z T σ H _ e ha Q k⟩
theorem ds_asg {g : TG} {S : List Nat} (h : DE te W n ρ fun n d => DG g S d W ρ (N n)) : DS (tAsg te g) W n ρ N R B C := fun Z T σ H e De f =>
  h Z T σ H e _ fun n v d H' p e' i => p n Z T σ H' v e' i _ fun ρ' σ' q e2 _ => f.nx n ρ' σ' H' q e2
/-- x = e, plain -/
theorem ds_set {i : Nat} (h : DE te W n ρ fun n d => N n (ρ.set i (some (false, d)))) : DS (tAsg te (gName i)) W n ρ N R B C := ds_asg (h.imp fun n d p => dg_name p)
/-- x = a new object of its own -/
theorem ds_own {i : Nat} (h : DF te W n ρ fun n d => N n (ρ.set i (some (true, d)))) : DS (tAsg te (gName i)) W n ρ N R B C := fun Z T σ H e De f =>
  h Z T σ H e _ fun n a o d H' p e' ho => f.nx _ _ _ H' p (e'.take ho)
theorem ds_par {i j : Nat} {tas : TA} (h : DA tas W n ρ fun n ds => ∃ d1 d2, ds = [d1, d2] ∧ N n ((ρ.set i (some (false, d1))).set j (some (false, d2)))) : DS (tPar i j tas) W n ρ N R B C := fun Z T σ H e De f =>
  h Z T σ H e _ fun n vs ds H' ⟨d1, d2, e1, p⟩ e' ia => by
    subst e1
    cases ia with
    | cons h1 t =>
      cases t with
      | cons h2 t =>
        cases t
        rename_i v1 v2
        have e2 : Env W n Z ((v2, d2) :: T) _ _ H' := (e'.push h2).set h1 (i := i)
        have e3 := e2.set (i := j) e2.top
        exact ⟨v1, v2, rfl, f.nx _ _ _ H' p e3.pop1⟩

/-! ### loops -/
/-- what an iterator gives: the data ds one by one; T0 is what it leans on -/
def ItOk (W : Wd) (T0 : TL) (J : It) (ds : List D) : Prop := ∀ (n : Nat) (Z : ZL) (T : TL) (ρ : Rho) (σ : L2.St) (H : Hp), (∀ p, p ∈ T0 → p ∈ T) → Env W n Z T ρ σ H → ∀ i : Nat,
  (i < ds.length → J.go i H ∧ ∀ x H', J.yld i H x H' → ∃ d, ds[i]? = some d ∧ Env W n Z ((x, d) :: T) ρ σ H') ∧ (ds.length ≤ i → J.stop i H)
def DI (wi : TI) (W : Wd) (n : Nat) (ρ : Rho) (P : Nat → List D → Prop) : Prop := ∀ (Z : ZL) (T : TL) (σ : L2.St) (H : Hp), Env W n Z T ρ σ H → ∀ Q : It → Hp → Prop, (∀ (n : Nat) (J : It) (ds : List D) (T0 : TL) (H' : Hp), P n ds → Env W n Z (T0 ++ T) ρ σ H' → ItOk W T0 J ds → Q J H') → wi σ H Q
theorem ds_for {wi : TI} {g : TG} {S : List Nat} (h : DI wi W n ρ fun n ds => ∃ Inv : Nat → Nat → Rho → Prop, Inv 0 n ρ ∧ (∀ i n d ρ', ds[i]? = some d → Inv i n ρ' → DG g S d W ρ' fun ρ2 => DS t W n ρ2 (Inv (i + 1)) R N (Inv (i + 1))) ∧ ∀ n ρ', Inv ds.length n ρ' → N n ρ') :
    DS (tFor wi g t) W n ρ N R B C := fun Z T σ H e De f =>
  h Z T σ H e _ fun n J ds T0 H' ⟨Iv, h0, hs, hd⟩ e' ok => by
    refine ⟨fun i m σ H => m = ds.length - i ∧ i ≤ ds.length ∧ ∃ n ρ', Iv i n ρ' ∧ Env W n Z (T0 ++ T) ρ' σ H, ⟨_, rfl, Nat.zero_le _, n, ρ, h0, e'⟩, ?_⟩
    rintro i m σ' H2 ⟨rfl, hi, n, ρ', hI, e2⟩
    have o := ok n Z (T0 ++ T) ρ' σ' H2 (fun p hp => List.mem_append_left _ hp) e2 i
    by_cases hlt : i < ds.length
    · refine .inr ⟨(o.1 hlt).1, fun σ3 H3 => ∃ n ρ3, Iv (i + 1) n ρ3 ∧ Env W n Z (T0 ++ T) ρ3 σ3 H3, fun σ3 H3 ⟨n, ρ3, h3, e3⟩ => ⟨ds.length - (i + 1), by omega, rfl, hlt, n, ρ3, h3, e3⟩, fun x H3 y => ?_⟩
      obtain ⟨d, hd', e3⟩ := (o.1 hlt).2 x H3 y
      refine hs i n d ρ' hd' hI n Z (T0 ++ T) σ' H3 x e3.pop1 e3.top _ fun ρ4 σ4 p4 e4 _ => ?_
      exact p4 Z (T0 ++ T) σ4 H3 e4 _ ⟨fun n ρ5 σ5 H5 n5 e5 => ⟨n, ρ5, n5, e5⟩, f.rt, f.rf, fun n ρ5 σ5 H5 n5 e5 => f.nx n ρ5 σ5 H5 n5 e5.popAll, fun n ρ5 σ5 H5 n5 e5 => ⟨n, ρ5, n5, e5⟩⟩
    · have e1 : i = ds.length := by omega
      subst e1
      exact .inl ⟨o.2 (Nat.le_refl _), f.nx n ρ' σ' H2 (hd n ρ' hI) e2.popAll⟩
theorem ds_while (Inv : Nat → Nat → Rho → Prop) (m0 : Nat) (h0 : Inv m0 n ρ) (hs : ∀ m n ρ', Inv m n ρ' → DT tt W n ρ' fun n b => (b = true → DS t W n ρ' (fun n r => ∃ m', m' < m ∧ Inv m' n r) R N (fun n r => ∃ m', m' < m ∧ Inv m' n r)) ∧ (b = false → N n ρ')) :
    DS (tWhile tt t) W n ρ N R B C := fun Z T σ H e De f => by
  refine ⟨fun m σ H => ∃ n ρ', Inv m n ρ' ∧ Env W n Z T ρ' σ H, ⟨m0, n, ρ, h0, e⟩, ?_⟩
  rintro m σ' H' ⟨n, ρ', hI, e'⟩
  refine hs m n ρ' hI Z T σ' H' e' _ fun n b H2 p e2 => ?_
  cases b with
  | false => exact f.nx n ρ' σ' H2 (p.2 rfl) e2
  | true =>
    refine ⟨fun σ3 H3 => ∃ m', m' < m ∧ ∃ n ρ3, Inv m' n ρ3 ∧ Env W n Z T ρ3 σ3 H3, fun σ3 H3 ⟨m', hm, q⟩ => ⟨m', hm, q⟩, ?_⟩
    exact p.1 rfl Z T σ' H2 e2 _ ⟨fun n ρ5 σ5 H5 ⟨m', hm, n5⟩ e5 => ⟨m', hm, n, ρ5, n5, e5⟩, f.rt, f.rf, f.nx, fun n ρ5 σ5 H5 ⟨m', hm, n5⟩ e5 => ⟨m', hm, n, ρ5, n5, e5⟩⟩

/-! ### what is walked -/
theorem di_list {tl : TE} {P : Nat → List D → Prop} (h : DE tl W n ρ fun n d => ∃ ds, d = .lst ds ∧ P n ds) : DI (iList K tl) W n ρ P := fun Z T σ H e Q k =>
  h Z T σ H e _ fun n v d H' ⟨ds, hd, p⟩ e' i => by
    subst hd
    have e1 : Env W n Z ([(v, .lst ds)] ++ T) ρ σ H' := e'.push i
    cases i with
    | @lst a xs _ hx hr ha =>
      refine ⟨a, rfl, ⟨xs, .of hr⟩, k _ _ ds [(.ref a, .lst ds)] H' p e1 fun n Z T ρ σ H hT e i => ?_⟩
      have q := e.t (.ref a, .lst ds) (hT _ List.mem_cons_self)
      cases q with
      | @lst _ ys _ hx2 hr2 ha2 =>
        have hl := ha2.len
        refine ⟨fun hi => ⟨⟨ys, ys[i]'(by omega), .of hr2, by simp [hl, hi]⟩, fun x H' ⟨eh, y⟩ => ?_⟩, fun hi => ⟨ys, .of hr2, by omega⟩⟩
        subst eh
        obtain ⟨d, h1, h2⟩ := ha2.get (y ys (.of hr2))
        exact ⟨d, h1, e.push h2⟩
theorem di_tup {tl : TE} {P : Nat → List D → Prop} (h : DE tl W n ρ fun n d => ∃ ds, d = .tup ds ∧ P n ds) : DI (iTup K tl) W n ρ P := fun Z T σ H e Q k =>
  h Z T σ H e _ fun n v d H' ⟨ds, hd, p⟩ e' i => by
    subst hd
    have e1 : Env W n Z ([(v, .tup ds)] ++ T) ρ σ H' := e'.push i
    cases i with
    | @tup a xs _ hx hr ha =>
      refine ⟨a, rfl, ⟨xs, .of hr⟩, k _ _ ds [(.ref a, .tup ds)] H' p e1 fun n Z T ρ σ H hT e i => ?_⟩
      have q := e.t (.ref a, .tup ds) (hT _ List.mem_cons_self)
      cases q with
      | @tup _ ys _ hx2 hr2 ha2 =>
        have hl := ha2.len
        refine ⟨fun hi => ⟨⟨ys, ys[i]'(by omega), .of hr2, by simp [hl, hi]⟩, fun x H' ⟨eh, y⟩ => ?_⟩, fun hi => ⟨ys, .of hr2, by omega⟩⟩
        subst eh
        obtain ⟨d, h1, h2⟩ := ha2.get (y ys (.of hr2))
        exact ⟨d, h1, e.push h2⟩
/-- lo, lo + 1, .. -/
def upTo (lo : Int) (n : Nat) : List D := (List.range n).map fun (i : Nat) => D.int (lo + (i : Int))
theorem upTo_get {lo : Int} {n i : Nat} (h : i < n) : (upTo lo n)[i]? = some (.int (lo + i)) := by
  unfold upTo
  rw [List.getElem?_map, List.getElem?_range h]; rfl
theorem upTo_len {lo : Int} {n : Nat} : (upTo lo n).length = n := by unfold upTo; rw [List.length_map, List.length_range]
theorem it_range {lo : Int} {n : Nat} : ItOk W [] (Itr lo n) (upTo lo n) := fun n Z T ρ σ H hT e i => by
  rw [upTo_len]
  exact ⟨fun hi => ⟨hi, fun x H' ⟨eh, y⟩ => by subst eh; subst y; exact ⟨_, upTo_get hi, e.push (.int _)⟩⟩, fun hi => hi⟩
theorem di_range1 {tas : TA} {P : Nat → List D → Prop} (h : DA tas W n ρ fun n ds => ∃ j : Int, ds = [.int j] ∧ -(2 ^ 62) ≤ j ∧ j < 2 ^ 62 ∧ P n (upTo 0 j.toNat)) : DI (iRng1 tas) W n ρ P := fun Z T σ H e Q k =>
  h Z T σ H e _ fun n vs ds H' ⟨j, hd, h1, h2, p⟩ e' i => by
    subst hd
    cases i with
    | cons hi t => cases t; cases hi; exact ⟨j, rfl, h1, h2, k _ _ _ [] H' p e' it_range⟩
theorem di_range2 {tas : TA} {P : Nat → List D → Prop} (h : DA tas W n ρ fun n ds => ∃ i j : Int, ds = [.int i, .int j] ∧ (-(2 ^ 62) ≤ i ∧ i < 2 ^ 62 ∧ -(2 ^ 62) ≤ j ∧ j < 2 ^ 62) ∧ P n (upTo i (j - i).toNat)) : DI (iRng2 tas) W n ρ P := fun Z T σ H e Q k =>
  h Z T σ H e _ fun n vs ds H' ⟨i, j, hd, h1, p⟩ e' ia => by
    subst hd
    cases ia with
    | cons hi t => cases t with
      | cons hj t => cases t; cases hi; cases hj; exact ⟨i, j, rfl, h1, k _ _ _ [] H' p e' it_range⟩
/-- pairs with their places -/
def numb (ds : List D) : List D := (List.range ds.length).map fun (i : Nat) => D.tup [.int (i : Nat), ds.getD i .non]
theorem numb_len {ds : List D} : (numb ds).length = ds.length := by unfold numb; rw [List.length_map, List.length_range]
theorem numb_get {ds : List D} {i : Nat} {d : D} (h : ds[i]? = some d) : (numb ds)[i]? = some (.tup [.int (i : Nat), d]) := by
  have hi : i < ds.length := (List.getElem?_eq_some_iff.mp h).1
  unfold numb
  rw [List.getElem?_map, List.getElem?_range hi]
  show some (D.tup [.int (i : Nat), ds.getD i .non]) = _
  rw [List.getD_eq_getElem?_getD, h]; rfl
theorem di_enum {tas : TA} {P : Nat → List D → Prop} (h : DA tas W n ρ fun n ds => ∃ es, ds = [.lst es] ∧ P n (numb es)) : DI (iEnum K tas) W n ρ P := fun Z T σ H e Q k =>
  h Z T σ H e _ fun n vs ds H' ⟨es, hd, p⟩ e' ia => by
    subst hd
    cases ia with
    | @cons v _ _ _ hi t =>
      cases t
      have e1 : Env W n Z ([(v, .lst es)] ++ T) ρ σ H' := e'.push hi
      cases hi with
      | @lst a xs _ hx hr ha =>
        refine ⟨a, xs, rfl, .of hr, k _ _ _ [(.ref a, .lst es)] H' p e1 fun n Z T ρ σ H hT e i => ?_⟩
        have q := e.t (.ref a, .lst es) (hT _ List.mem_cons_self)
        cases q with
        | @lst _ ys _ hx2 hr2 ha2 =>
          have hl := ha2.len
          rw [numb_len]
          refine ⟨fun hi => ⟨⟨ys, ys[i]'(by omega), .of hr2, by simp [hl, hi]⟩, fun x H' ⟨Tt, x', ev, hn, eh, y⟩ => ?_⟩, fun hi => ⟨ys, .of hr2, by omega⟩⟩
          subst eh ev
          obtain ⟨d, h1, h2⟩ := ha2.get (y ys (.of hr2))
          have e2 := e.lay (o := .tup [.int (i : Nat), x']) hn
          have h3 := h2.mv (lay_mv (o := .tup [.int (i : Nat), x']) e hn)
          exact ⟨_, numb_get h1, e2.zpop.push (.tup e2.zmv.2 upd_same (.cons (.int _) (.cons (h3.mv e2.zmv.1) .nil)))⟩
theorem zip_get {es fs : List D} {i : Nat} {d f : D} (h1 : es[i]? = some d) (h2 : fs[i]? = some f) : (List.zipWith (fun a b => D.tup [a, b]) es fs)[i]? = some (.tup [d, f]) := by
  rw [List.getElem?_zipWith, h1, h2]
theorem di_zip {tas : TA} {P : Nat → List D → Prop} (h : DA tas W n ρ fun n ds => ∃ es fs, ds = [.lst es, .lst fs] ∧ P n (List.zipWith (fun a b => D.tup [a, b]) es fs)) : DI (iZip K tas) W n ρ P := fun Z T σ H e Q k =>
  h Z T σ H e _ fun n vs ds H' ⟨es, fs, hd, p⟩ e' ia => by
    subst hd
    cases ia with
    | @cons v _ _ _ hi t =>
      cases t with
      | @cons w _ _ _ hj t =>
        cases t
        have e1 : Env W n Z ([(v, .lst es), (w, .lst fs)] ++ T) ρ σ H' := (e'.push hj).push hi
        cases hi with
        | @lst a xs _ hx hr ha =>
          cases hj with
          | @lst b zs _ hx' hr' ha' =>
            refine ⟨a, b, xs, zs, rfl, .of hr, .of hr', k _ _ _ [(.ref a, .lst es), (.ref b, .lst fs)] H' p e1 fun n Z T ρ σ H hT e i => ?_⟩
            have q := e.t (.ref a, .lst es) (hT _ List.mem_cons_self)
            have q' := e.t (.ref b, .lst fs) (hT _ (List.mem_cons_of_mem _ List.mem_cons_self))
            cases q with
            | @lst _ ys _ hx2 hr2 ha2 =>
              cases q' with
              | @lst _ ws _ hx3 hr3 ha3 =>
                have hl := ha2.len
                have hl' := ha3.len
                rw [List.length_zipWith]
                refine ⟨fun hi => ⟨⟨ys, ws, ys[i]'(by omega), ws[i]'(by omega), .of hr2, .of hr3, by simp, by simp⟩, fun x H' ⟨Tt, x', y', ev, hn, eh, y, z⟩ => ?_⟩, fun hi => ⟨ys, ws, .of hr2, .of hr3, by omega⟩⟩
                subst eh ev
                obtain ⟨d, h1, h2⟩ := ha2.get (y ys (.of hr2))
                obtain ⟨d', h1', h2'⟩ := ha3.get (z ws (.of hr3))
                have e2 := e.lay (o := .tup [x', y']) hn
                have h3 := h2.mv (lay_mv (o := .tup [x', y']) e hn)
                have h3' := h2'.mv (lay_mv (o := .tup [x', y']) e hn)
                exact ⟨_, zip_get h1 h1', e2.zpop.push (.tup e2.zmv.2 upd_same (.cons (h3.mv e2.zmv.1) (.cons (h3'.mv e2.zmv.1) .nil)))⟩

/-! ### comprehensions -/
def wipeR (ρ : Rho) : List Nat → Rho
  | [] => ρ
  | v :: vs => (wipeR ρ vs).set v none
def NoOwn (ρ : Rho) (vs : List Nat) : Prop := ∀ (i : Nat) (d : D), i ∈ vs → ρ[i]? ≠ some (some (true, d))
theorem own_back1 {i : Nat} (hn : ∀ d, ρ[i]? ≠ some (some (true, d))) {a : Addr} (h : Own ρ σ a) : Own (ρ.set i none) (σ.set i none) a := by
  obtain ⟨j, d, h1, h2⟩ := h
  have ne : i ≠ j := fun z => hn d (by rw [z]; exact h1)
  exact ⟨j, d, by rw [List.getElem?_set_ne ne]; exact h1, by rw [List.getElem?_set_ne ne]; exact h2⟩
theorem xx_set1 {i : Nat} (hn : ∀ d, ρ[i]? ≠ some (some (true, d))) {a : Addr} : XX W Z (ρ.set i none) (σ.set i none) a ↔ XX W Z ρ σ a :=
  ⟨fun x => x.elim .inl fun x => x.elim (fun x => .inr (.inl (Own.back (fun d z => by cases z) x))) fun x => .inr (.inr x),
   fun x => x.elim .inl fun x => x.elim (fun x => .inr (.inl (own_back1 hn x))) fun x => .inr (.inr x)⟩
/-- one slot wiped, and given back -/
theorem Env.wipe1 (e : Env W n Z T ρ σ H) (i : Nat) (hn : ∀ d, ρ[i]? ≠ some (some (true, d))) : ∃ T1 : TL, Env W n Z (T1 ++ T) (ρ.set i none) (σ.set i none) H ∧ ∀ n H' Z' T', Env W n Z' (T1 ++ T') (ρ.set i none) (σ.set i none) H' → Env W n Z' T' ρ σ H' := by
  have e0 : Env W n Z T (ρ.set i none) (σ.set i none) H := e.setG i none none (fun d q => by cases q) (fun d q => by cases q)
  have give : ∀ (T1 : TL) n H' Z' T', Env W n Z' (T1 ++ T') (ρ.set i none) (σ.set i none) H' → (∀ d, ρ[i]? = some (some (false, d)) → ∃ v, σ[i]? = some (some v) ∧ (v, d) ∈ T1) → Env W n Z' T' ρ σ H' := fun T1 n H' Z' T' e' hd => by
    have m : Mv (XX W Z' (ρ.set i none) (σ.set i none)) H' (XX W Z' ρ σ) H' := fun a o q hx => ⟨q, fun x => hx ((xx_set1 hn).mpr x)⟩
    have m' : ∀ a, ¬ XX W Z' (ρ.set i none) (σ.set i none) a → ¬ XX W Z' ρ σ a := fun a h x => h ((xx_set1 hn).mpr x)
    refine ⟨e.len, fun j d q => ?_, fun j d q => ?_, fun j k d1 d2 a q1 q2 q3 q4 => ?_, e'.z, e'.zn, fun p hp => (e'.t p (List.mem_append_right _ hp)).mv m, e'.fr, e'.g⟩
    · by_cases ij : i = j
      · subst ij
        obtain ⟨v, h1, h2⟩ := hd d q
        exact ⟨v, h1, (e'.t (v, d) (List.mem_append_left _ h2)).mv m⟩
      · obtain ⟨v, h1, h2⟩ := e'.sh j d (by rw [List.getElem?_set_ne ij]; exact q)
        rw [List.getElem?_set_ne ij] at h1
        exact ⟨v, h1, h2.mv m⟩
    · have ij : i ≠ j := fun z => hn d (by rw [z]; exact q)
      obtain ⟨a, o, h1, h2, h3, h4⟩ := e'.ow j d (by rw [List.getElem?_set_ne ij]; exact q)
      rw [List.getElem?_set_ne ij] at h1
      exact ⟨a, o, h1, h2, h3.mv m, h4⟩
    · exact e.inj j k d1 d2 a q1 q2 q3 q4
  cases q : ρ[i]? with
  | none => exact ⟨[], e0, fun n H' Z' T' e' => give [] n H' Z' T' e' fun d z => by rw [q] at z; cases z⟩
  | some s =>
    cases s with
    | none => exact ⟨[], e0, fun n H' Z' T' e' => give [] n H' Z' T' e' fun d z => by rw [q] at z; cases z⟩
    | some bd =>
      obtain ⟨b, d⟩ := bd
      cases b with
      | true => exact absurd q (hn d)
      | false =>
        obtain ⟨v, h1, h2⟩ := e.sh i d q
        refine ⟨[(v, d)], e0.push (h2.mv fun a o q hx => ⟨q, fun x => hx ((xx_set1 hn).mp x)⟩), fun n H' Z' T' e' => give [(v, d)] n H' Z' T' e' fun d' z => ?_⟩
        rw [q] at z
        cases z
        exact ⟨v, h1, List.mem_cons_self⟩
theorem wipeR_none : ∀ (vs : List Nat) (i : Nat), i ∈ vs → ∀ b, (wipeR ρ vs)[i]? ≠ some (some b)
  | [], i, h, _ => nomatch h
  | v :: vs, i, h, b => fun q => by
    unfold wipeR at q
    rcases set_get q with ⟨_, z, _⟩ | ⟨ne, z⟩
    · cases z
    · rcases List.mem_cons.mp h with y | y
      · exact ne y.symm
      · exact wipeR_none vs i y b z
theorem wipeR_own : ∀ (vs : List Nat) (i : Nat) (d : D), (wipeR ρ vs)[i]? = some (some (true, d)) → ρ[i]? = some (some (true, d))
  | [], i, d, h => h
  | v :: vs, i, d, h => by
    unfold wipeR at h
    rcases set_get h with ⟨_, z, _⟩ | ⟨_, z⟩
    · cases z
    · exact wipeR_own vs i d z
theorem Env.wipes (e : Env W n Z T ρ σ H) : ∀ (vs : List Nat), NoOwn ρ vs → ∃ T1 : TL, Env W n Z (T1 ++ T) (wipeR ρ vs) (wipe σ vs) H ∧ ∀ n H' Z' T', Env W n Z' (T1 ++ T') (wipeR ρ vs) (wipe σ vs) H' → Env W n Z' T' ρ σ H'
  | [], _ => ⟨[], e, fun _ _ _ _ e' => e'⟩
  | v :: vs, hn => by
    obtain ⟨T1, e1, b1⟩ := e.wipes vs fun i d hi => hn i d (List.mem_cons_of_mem _ hi)
    obtain ⟨T2, e2, b2⟩ := e1.wipe1 v fun d q => hn v d List.mem_cons_self (wipeR_own vs v d q)
    refine ⟨T2 ++ T1, ?_, fun n H' Z' T' e' => b1 n H' Z' T' (b2 n H' Z' (T1 ++ T') ?_)⟩
    · rw [List.append_assoc]; exact e2
    · rw [List.append_assoc] at e'; exact e'
/-- the slots S of the turn forgotten again -/
theorem Env.unset {S : List Nat} {ρ' : Rho} {σ' : L2.St} (e : Env W n Z T ρ' σ' H) (a : Agree S ρ ρ' σ σ') (hl : σ.length = ρ.length) (hn : ∀ (i : Nat) (b : Bool × D), i ∈ S → ρ[i]? ≠ some (some b)) : Env W n Z T ρ σ H := by
  obtain ⟨l1, l2, ag, no⟩ := a
  have own : ∀ b, Own ρ σ b ↔ Own ρ' σ' b := fun b => ⟨fun ⟨i, d, h1, h2⟩ => by
      have hi : i ∉ S := fun z => hn i _ z h1
      exact ⟨i, d, by rw [(ag i hi).2]; exact h1, by rw [(ag i hi).1]; exact h2⟩,
    fun ⟨i, d, h1, h2⟩ => by
      have hi : i ∉ S := fun z => no i d z h1
      exact ⟨i, d, by rw [← (ag i hi).2]; exact h1, by rw [← (ag i hi).1]; exact h2⟩⟩
  have m : Mv (XX W Z ρ' σ') H (XX W Z ρ σ) H := fun b o q hx => ⟨q, fun x => hx (x.elim .inl fun x => x.elim (fun x => .inr (.inl ((own b).mp x))) fun x => .inr (.inr x))⟩
  refine ⟨hl, fun i d q => ?_, fun i d q => ?_, fun i j d1 d2 b q1 q2 q3 q4 => ?_, e.z, e.zn, fun p hp => (e.t p hp).mv m, e.fr, e.g⟩
  · have hi : i ∉ S := fun z => hn i _ z q
    obtain ⟨v, h1, h2⟩ := e.sh i d (by rw [(ag i hi).2]; exact q)
    exact ⟨v, by rw [← (ag i hi).1]; exact h1, h2.mv m⟩
  · have hi : i ∉ S := fun z => hn i _ z q
    obtain ⟨b, o, h1, h2, h3, h4⟩ := e.ow i d (by rw [(ag i hi).2]; exact q)
    exact ⟨b, o, by rw [← (ag i hi).1]; exact h1, h2, h3.mv m, h4⟩
  · have hi : i ∉ S := fun z => hn i _ z q1
    have hj : j ∉ S := fun z => hn j _ z q2
    exact e.inj i j d1 d2 b (by rw [(ag i hi).2]; exact q1) (by rw [(ag j hj).2]; exact q2) (by rw [(ag i hi).1]; exact q3) (by rw [(ag j hj).1]; exact q4)
theorem wipe_agree {S : List Nat} {ρ' : Rho} {σ' : L2.St} : ∀ {vs : List Nat}, (∀ i, i ∈ S → i ∈ vs) → Agree S ρ ρ' (wipe σ vs) σ' → wipe σ' vs = wipe σ vs := by
  intro vs hS a
  have len : ∀ (τ : L2.St) (vs : List Nat), (wipe τ vs).length = τ.length := fun τ vs => wipe_length τ vs
  have get : ∀ (τ : L2.St) (vs : List Nat) (i : Nat), (wipe τ vs)[i]? = if i ∈ vs ∧ i < τ.length then some none else τ[i]? := by
    intro τ vs i
    induction vs with
    | nil => unfold wipe; rw [if_neg (fun h => nomatch h.1)]
    | cons v vs ih =>
      unfold wipe
      by_cases hv : v = i
      · subst hv
        by_cases hl : v < τ.length
        · rw [List.getElem?_set_self (by rw [len]; exact hl), if_pos ⟨List.mem_cons_self, hl⟩]
        · rw [List.getElem?_eq_none (by rw [List.length_set, len]; omega), if_neg (fun h => hl h.2), List.getElem?_eq_none (by omega)]
      · rw [List.getElem?_set_ne hv, ih]
        by_cases hi : i ∈ vs ∧ i < τ.length
        · rw [if_pos hi, if_pos ⟨List.mem_cons_of_mem _ hi.1, hi.2⟩]
        · rw [if_neg hi, if_neg (fun h => hi ⟨(List.mem_cons.mp h.1).resolve_left fun z => hv z.symm, h.2⟩)]
  apply List.ext_getElem?
  intro i
  have hl : σ'.length = σ.length := by rw [a.1, len]
  rw [get, get, hl]
  by_cases hi : i ∈ vs ∧ i < σ.length
  · rw [if_pos hi, if_pos hi]
  · rw [if_neg hi, if_neg hi]
    by_cases hv : i ∈ vs
    · have : σ.length ≤ i := Nat.le_of_not_lt fun h => hi ⟨hv, h⟩
      rw [List.getElem?_eq_none (by omega), List.getElem?_eq_none (by omega)]
    · rw [(a.2.2.1 i fun z => hv (hS i z)).1, get, if_neg (fun h => hv h.1)]
theorem wipeR_len : ∀ vs : List Nat, (wipeR ρ vs).length = ρ.length
  | [] => rfl
  | v :: vs => by unfold wipeR; rw [List.length_set, wipeR_len vs]
theorem df_lc {wi : TI} {g : TG} {S vs : List Nat} {P : Nat → D → Prop} (hno : NoOwn ρ vs) (hS : ∀ i, i ∈ S → i ∈ vs)
    (h : DI wi W n ρ fun n ds => ∃ Inv : Nat → Nat → List D → Prop, Inv 0 n [] ∧ (∀ i n d acc, ds[i]? = some d → Inv i n acc → DG g S d W (wipeR ρ vs) fun ρ2 => DT tt W n ρ2 fun n b => (b = true → DE te W n ρ2 fun n y => acc.length < sizeLine ∧ Inv (i + 1) n (acc ++ [y])) ∧ (b = false → Inv (i + 1) n acc)) ∧ ∀ n acc, Inv ds.length n acc → P n (.lst acc)) :
    DF (tLc wi g tt te vs) W n ρ P := fun Z T σ H e Q k =>
  h Z T σ H e _ fun n J ds T0 H1 ⟨Iv, h0, hs, hd⟩ e1 ok => by
    intro D0 hD
    -- the state between two turns: the list so far at D0, pending; its data told
    refine ⟨fun i m H => m = ds.length - i ∧ i ≤ ds.length ∧ ∃ n xs acc, Iv i n acc ∧ xs.length = acc.length ∧ Env W n ((D0, .lst xs) :: Z) (zipT xs acc ++ (T0 ++ T)) ρ σ H, ⟨_, rfl, Nat.zero_le _, n, [], [], h0, rfl, e1.lay hD⟩, ?_⟩
    rintro i m H2 ⟨rfl, hi, n, xs, acc, hI, hl, e2⟩
    have o := ok n _ _ ρ σ H2 (fun p hp => List.mem_append_right _ (List.mem_append_left _ hp)) e2 i
    by_cases hlt : i < ds.length
    · refine .inr ⟨(o.1 hlt).1, fun H3 => ∃ n xs acc, Iv (i + 1) n acc ∧ xs.length = acc.length ∧ Env W n ((D0, .lst xs) :: Z) (zipT xs acc ++ (T0 ++ T)) ρ σ H3, fun H3 ⟨n, xs, acc, h3, l3, e3⟩ => ⟨ds.length - (i + 1), by omega, rfl, hlt, n, xs, acc, h3, l3, e3⟩, fun x H3 y => ?_⟩
      obtain ⟨d, hd', e3⟩ := (o.1 hlt).2 x H3 y
      obtain ⟨T1, e4, back⟩ := e3.wipes vs hno
      have ix : Is (XX W ((D0, .lst xs) :: Z) (wipeR ρ vs) (wipe σ vs)) H3 x d := e4.t (x, d) (List.mem_append_right _ List.mem_cons_self)
      refine hs i n d acc hd' hI n _ _ (wipe σ vs) H3 x e4 ix _ fun ρ2 σ2 p2 e5 ag => ⟨wipe_agree hS ag, ?_⟩
      have hlen : (wipe σ vs).length = (wipeR ρ vs).length := by rw [wipe_length, wipeR_len]; exact e.len
      have home : ∀ (n : Nat) (H' : Hp) (Z' : ZL) (T' : TL), Env W n Z' (T1 ++ T') ρ2 σ2 H' → Env W n Z' T' ρ σ H' := fun n H' Z' T' e' => back n H' Z' T' (e'.unset ag hlen fun i b hi => wipeR_none vs i (hS i hi) b)
      refine p2 _ _ σ2 H3 e5 _ fun n b H4 q e6 => ?_
      cases b with
      | false =>
        show ∃ n xs acc, _
        exact ⟨_, xs, acc, q.2 rfl, hl, (home _ H4 _ _ e6).pop1⟩
      | true =>
        refine q.1 rfl _ _ σ2 H4 e6 _ fun n v y H5 ⟨hsz, hI'⟩ e7 iv => ?_
        have e8 : Env W n ((D0, .lst xs) :: Z) ((v, y) :: (zipT xs acc ++ (T0 ++ T))) ρ σ H5 := by
          refine home _ H5 _ _ ((e7.push iv).pop fun p hp => ?_)
          rcases List.mem_append.mp hp with z | z
          · exact List.mem_cons_of_mem _ (List.mem_append_left _ z)
          · rcases List.mem_cons.mp z with z | z
            · rw [z]; exact List.mem_cons_self
            · exact List.mem_cons_of_mem _ (List.mem_append_right _ (List.mem_cons_of_mem _ z))
        refine ⟨xs, (e8.z (D0, .lst xs) List.mem_cons_self).1, by rw [hl]; exact hsz, _, xs ++ [v], acc ++ [y], hI', by rw [List.length_append, List.length_append, hl]; rfl, ?_⟩
        refine (e8.zput (o := .lst xs) (fun h => h)).pop fun p hp => ?_
        unfold zipT at hp
        rw [List.zip_append hl, List.append_assoc] at hp
        rcases List.mem_append.mp hp with z | z
        · exact List.mem_cons_of_mem _ (List.mem_append_left _ z)
        · rcases List.mem_append.mp z with z | z
          · have : p = (v, y) := by simpa using z
            rw [this]; exact List.mem_cons_self
          · exact List.mem_cons_of_mem _ (List.mem_append_right _ z)
    · have e0 : i = ds.length := by omega
      subst e0
      refine .inl ⟨o.2 (Nat.le_refl _), k _ D0 (.lst xs) (.lst acc) H2 (hd _ acc hI) e2.popAll.popAll (.lst (e2.topAll hl))⟩
end
end HD

namespace HD
open PySem PySem.Spec PyProof.Rows L2

/-! ### promises -/
inductive Out where
  | ret (fresh : Bool) (d : D)
  | exc (C : Addr) (ns : List Str) (l : List D)
/-- a def of n parameters: the objects at V may change so that G stays; pre of the arguments; post of what comes out -/
def Prm (m : Nat) (V : AP) (G : Nat → Hp → Prop) (pre : Nat → List D → Prop) (post : Nat → List D → Nat → Out → Prop) : Sp := fun vs H Q E => ∃ (X : AP) (ds : List D) (n : Nat),
  (∀ a, V a → X a) ∧ (∀ a, X a → H a ≠ none) ∧ G n H ∧ IsAll X H vs ds ∧ ds.length = m ∧ pre n ds ∧
  (∀ n' v d H', post n ds n' (.ret false d) → Frm V H H' → G n' H' → Is X H' v d → Q v H') ∧
  (∀ n' a o d H', post n ds n' (.ret true d) → Frm V H H' → G n' H' → H a = none → H' a = some o → Ob (fun b => X b ∨ b = a) H' o d → Q (.ref a) H') ∧
  (∀ n' C ns l od H', post n ds n' (.exc C ns l) → Frm V H H' → G n' H' → ExF X H' od ns l → E (.ref C) od H')
theorem prm_len {m : Nat} {V : AP} {G : Nat → Hp → Prop} {pre : Nat → List D → Prop} {post : Nat → List D → Nat → Out → Prop} {vs : List L2.V} {H : Hp} {Q : VK} {E : XK} (h : Prm m V G pre post vs H Q E) : vs.length = m := by
  obtain ⟨X, ds, _, _, _, _, i, hl, _⟩ := h
  rw [i.len]; exact hl
def startR (N : List Str) (ds : List D) : Rho := ds.map (fun d => some (false, d)) ++ List.replicate (N.length - ds.length) none
structure Stab (V : AP) (G : Nat → Hp → Prop) : Prop where
  vd : ∀ n H, G n H → ∀ a, V a → H a ≠ none
  stab : ∀ n H H', (∀ a o, H a = some o → V a ∨ KeepO o → H' a = some o) → G n H → G n H'
abbrev V0 : AP := fun _ => False
abbrev G0 : Nat → Hp → Prop := fun _ _ => True
theorem stab0 : Stab V0 G0 := ⟨fun _ _ _ _ h => h.elim, fun _ _ _ _ _ => True.intro⟩

theorem start_get {N : List Str} {vs : List L2.V} {i : Nat} : (L2.start N vs)[i]? = if i < vs.length then vs[i]?.map some else if i < vs.length + (N.length - vs.length) then some none else none := by
  unfold L2.start
  rw [List.getElem?_append, List.length_map, List.getElem?_map]
  by_cases h : i < vs.length
  · rw [if_pos h, if_pos h]
  · rw [if_neg h, if_neg h, List.getElem?_replicate]
    by_cases h2 : i < vs.length + (N.length - vs.length)
    · rw [if_pos h2, if_pos (by omega)]
    · rw [if_neg h2, if_neg (by omega)]
/-- a def's body keeps its promise -/
theorem prm_body {m : Nat} {V : AP} {G : Nat → Hp → Prop} {pre : Nat → List D → Prop} {post : Nat → List D → Nat → Out → Prop} {N : List Str} {vs : List L2.V} {H : Hp} {Q : VK} {E : XK} {t : TS} (S : Stab V G) (h : Prm m V G pre post vs H Q E)
    (k : ∀ (W : Wd) (n : Nat) (ds : List D), W.V = V → W.G = G → W.E = E → W.EP = (fun n' C ns l => post n ds n' (.exc C ns l)) → ds.length = m → pre n ds →
      DS t W n (startR N ds) (fun n' _ => post n ds n' (.ret false .non)) (fun n' b d => post n ds n' (.ret b d)) (fun _ _ => False) (fun _ _ => False)) :
    t { nx := fun _ H' => Q .non H', rt := Q } (L2.start N vs) H := by
  obtain ⟨X, ds, n, hVX, hX, hG, hi, hl, hp, k1, k2, k3⟩ := h
  have W0 : ∃ W : Wd, W.V = V ∧ W.X0 = X ∧ W.G = G ∧ W.H0 = H ∧ W.E = E ∧ W.EP = (fun n' C ns l => post n ds n' (.exc C ns l)) := ⟨{ V := V, X0 := X, G := G, H0 := H, E := E, EP := fun n' C ns l => post n ds n' (.exc C ns l), vx := hVX, xd := hX, vd := S.vd, stab := S.stab, hE := fun n' C ns l od H' p f g x => k3 n' C ns l od H' p f g x }, rfl, rfl, rfl, rfl, rfl, rfl⟩
  obtain ⟨W, w1, w2, w3, w4, w5, w6⟩ := W0
  have hlen := hi.len
  have gR : ∀ (i : Nat) (b : Bool) (d : D), (startR N ds)[i]? = some (some (b, d)) → b = false ∧ ds[i]? = some d := fun i b d q => by
    unfold startR at q
    rw [List.getElem?_append, List.length_map, List.getElem?_map] at q
    by_cases h : i < ds.length
    · rw [if_pos h] at q
      cases r : ds[i]? with
      | none => rw [r] at q; cases q
      | some d' => rw [r] at q; cases q; exact ⟨rfl, rfl⟩
    · rw [if_neg h, List.getElem?_replicate] at q
      split at q <;> cases q
  have no : ∀ a, ¬ Own (startR N ds) (L2.start N vs) a := fun a ⟨i, d, q, _⟩ => by
    have := (gR i true d q).1
    cases this
  have m : Mv X H (XX W [] (startR N ds) (L2.start N vs)) H := fun a o q hx => ⟨q, fun x => by
    rcases x with x | x | ⟨o, x⟩
    · rw [w2] at x; exact hx x
    · exact no a x
    · cases x⟩
  have e : Env W n [] [] (startR N ds) (L2.start N vs) H := by
    refine ⟨?_, fun i d q => ?_, fun i d q => ?_, fun i j d1 d2 a q1 => ?_, fun p hp => (nomatch hp), List.nodup_nil, fun p hp => (nomatch hp), fun a o h1 h2 => ?_, by rw [w3]; exact hG⟩
    · unfold L2.start startR
      simp [hlen]
    · obtain ⟨_, q⟩ := gR i false d q
      obtain ⟨v, h1, h2⟩ := hi.got q
      refine ⟨v, ?_, h2.mv m⟩
      have hlt : i < vs.length := (List.getElem?_eq_some_iff.mp h1).1
      rw [start_get, if_pos hlt, h1]; rfl
    · have := (gR i true d q).1
      cases this
    · have := (gR i true d1 q1).1
      cases this
    · rw [w4] at h1; exact h1
  refine k W n ds w1 w3 w5 w6 hl hp [] [] (L2.start N vs) H e _ ⟨fun n' ρ σ H' p e' => ?_, fun n' v d H' p f g i => ?_, fun n' a o d H' p f g h0 ha ho => ?_, fun _ _ _ _ h => h.elim, fun _ _ _ _ h => h.elim⟩
  · have f := e'.fr
    have g := e'.g
    rw [w1, w4] at f
    rw [w3] at g
    exact k1 n' .non .non H' p f g .non
  · rw [w1, w4] at f
    rw [w3] at g
    rw [w2] at i
    exact k1 n' v d H' p f g i
  · rw [w1, w4] at f
    rw [w3] at g
    rw [w4] at h0
    rw [w2] at ho
    exact k2 n' a o d H' p f g h0 ha ho

/-! ### calls of defs -/
/-- a callee that may change V so that G stays, called in W -/
structure Fit (V : AP) (G : Nat → Hp → Prop) (κ : Nat → Nat → Nat) (W : Wd) : Prop where
  sub : ∀ a, V a → W.V a
  g : ∀ n H, W.G n H → G n H
  back : ∀ n n' H H', W.G n H → Frm V H H' → G n' H' → W.G (κ n n') H'
theorem fit0 {W : Wd} : Fit V0 G0 (fun n _ => n) W := ⟨fun _ h => h.elim, fun _ _ _ => True.intro, fun n n' H H' g f _ => W.stab n H H' (fun a o q _ => f a o q fun z => z) g⟩
theorem fitW {V : AP} {G : Nat → Hp → Prop} {W : Wd} (h1 : W.V = V) (h2 : W.G = G) : Fit V G (fun _ n' => n') W := by
  subst h1 h2
  exact ⟨fun _ h => h, fun _ _ h => h, fun _ _ _ _ _ _ g => g⟩
section
variable {W : Wd} {n : Nat} {Z : ZL} {T : TL} {ρ : Rho} {σ : L2.St} {H : Hp} {N N' : Nat → Rho → Prop} {R : Nat → Bool → D → Prop} {B C : Nat → Rho → Prop} {t u : TS} {te ta tb : TE} {tt : TT} {d : D} {K : PySem.W.Frag}
  {m : Nat} {V : AP} {G : Nat → Hp → Prop} {κ : Nat → Nat → Nat} {pre : Nat → List D → Prop} {post : Nat → List D → Nat → Out → Prop} {E : XK} {P : Nat → D → Prop} {tas : TA}
theorem Fit.frm (F : Fit V G κ W) {H H' : Hp} (f : Frm V H H') : Frm W.V H H' := fun a o h hv => f a o h fun z => hv (F.sub a z)
theorem zero_mv (e : Env W n Z T ρ σ H) {a : Addr} {o : HO} {H' : Hp} (f : Frm V H H') (F : Fit V G κ W) : Mv (XX W Z ρ σ) H (XX W Z ρ σ) H' := fun b u q hx => ⟨f b u q fun z => XX.nv hx (F.sub b z), hx⟩
/-- the call, with what is raised at E; hx: what may be raised is let out -/
theorem call_prm (F : Fit V G κ W) (e : Env W n Z T ρ σ H) {vs : List L2.V} {ds : List D} (i : IsAll (XX W Z ρ σ) H vs ds) (hl : ds.length = m) (hp : pre n ds) {Q : VK}
    (q0 : ∀ n' d, post n ds n' (.ret false d) → P (κ n n') d) (q1 : ∀ n' d, post n ds n' (.ret true d) → P (κ n n') d) (k : RetK W Z T ρ σ P Q) (hx : ∀ n' C ns l od H', post n ds n' (.exc C ns l) → Frm V H H' → G n' H' → ExF (XX W Z ρ σ) H' od ns l → E (.ref C) od H') : Prm m V G pre post vs H Q E := by
  refine ⟨XX W Z ρ σ, ds, n, fun a hv => .inl (W.vx a (F.sub a hv)), fun a hx => e.xdom hx, F.g n H e.g, i, hl, hp, fun n' v d H' p f g iv => ?_, fun n' a o d H' p f g ha ho hb => ?_, hx⟩
  · exact k _ v d H' (q0 n' d p) (e.heap (F.frm f) (F.back n n' H H' e.g f g)) iv
  · have e' := e.heap (F.frm f) (F.back n n' H H' e.g f g)
    have na : ¬ XX W Z ρ σ a := fun x => e.xdom x ha
    exact k _ _ d H' (q1 n' d p) e' (hb.is ho na fun b u q hx => ⟨q, fun x => hx (.inl x)⟩)
/-- a fresh object comes out, pending -/
theorem fresh_env {n' : Nat} (e : Env W n Z T ρ σ H) (F : Fit V G κ W) {H' : Hp} {a : Addr} {o : HO} {d : D} (f : Frm V H H') (g : G n' H') (ha : H a = none) (ho : H' a = some o) (hb : Ob (fun b => XX W Z ρ σ b ∨ b = a) H' o d) :
    Env W (κ n n') ((a, o) :: Z) T ρ σ H' ∧ Ob (XX W ((a, o) :: Z) ρ σ) H' o d := by
  have e' := e.heap (F.frm f) (F.back n n' H H' e.g f g)
  have hx : ∀ b, XX W ((a, o) :: Z) ρ σ b → XX W Z ρ σ b ∨ b = a := fun b x => by
    rcases x with x | x | ⟨u, x⟩
    · exact .inl (.inl x)
    · exact .inl (.inr (.inl x))
    · rcases List.mem_cons.mp x with y | y
      · cases y; exact .inr rfl
      · exact .inl (.inr (.inr ⟨u, y⟩))
  -- all that the environment tells stands apart from a, as it did before the call
  have m : ∀ b u, H b = some u → ¬ XX W Z ρ σ b → ¬ XX W ((a, o) :: Z) ρ σ b := fun b u q nx x => (hx b x).elim nx fun z => by rw [z, ha] at q; cases q
  have mv : Mv (XX W Z ρ σ) H (XX W ((a, o) :: Z) ρ σ) H' := fun b u q nx => ⟨f b u q fun z => XX.nv nx (F.sub b z), m b u q nx⟩
  refine ⟨⟨e'.len, fun i d q => ?_, fun i d q => ?_, e'.inj, fun p hp => ?_, ?_, fun p hp => (e.t p hp).mv mv, e'.fr, e'.g⟩, hb.mv fun b u q nx => ⟨q, fun x => nx (hx b x)⟩⟩
  · obtain ⟨v, h1, h2⟩ := e.sh i d q
    exact ⟨v, h1, h2.mv mv⟩
  · obtain ⟨b, u, h1, h2, h3, h4, h5⟩ := e.ow i d q
    have ne : b ≠ a := fun z => by rw [z, ha] at h2; cases h2
    refine ⟨b, u, h1, f b u h2 fun z => Env.nv0 h4 (F.sub b z), h3.mv mv, h4, fun ⟨u', x⟩ => ?_⟩
    rcases List.mem_cons.mp x with y | y
    · cases y; exact ne rfl
    · exact h5 ⟨u', y⟩
  · rcases List.mem_cons.mp hp with y | y
    · rw [y]; exact ⟨ho, e.dom0 ha⟩
    · exact e'.z p y
  · rw [List.map_cons]
    refine List.nodup_cons.mpr ⟨fun x => ?_, e.zn⟩
    obtain ⟨q, hq, eq⟩ := List.mem_map.mp x
    have eq' : q.1 = a := eq
    exact e.znew ha ⟨q.2, by rw [← eq']; exact hq⟩
theorem call_prmF (F : Fit V G κ W) (e : Env W n Z T ρ σ H) {vs : List L2.V} {ds : List D} (i : IsAll (XX W Z ρ σ) H vs ds) (hl : ds.length = m) (hp : pre n ds) {Q : VK}
    (q0 : ∀ n' d, ¬ post n ds n' (.ret false d)) (q1 : ∀ n' d, post n ds n' (.ret true d) → P (κ n n') d) (k : RetF W Z T ρ σ P Q) (hx : ∀ n' C ns l od H', post n ds n' (.exc C ns l) → Frm V H H' → G n' H' → ExF (XX W Z ρ σ) H' od ns l → E (.ref C) od H') : Prm m V G pre post vs H Q E := by
  refine ⟨XX W Z ρ σ, ds, n, fun a hv => .inl (W.vx a (F.sub a hv)), fun a hx => e.xdom hx, F.g n H e.g, i, hl, hp, fun n' v d H' p => absurd p (q0 n' d), fun n' a o d H' p f g ha ho hb => ?_, hx⟩
  obtain ⟨e', hb'⟩ := fresh_env e F f g ha ho hb
  exact k _ a o d H' (q1 n' d p) e' hb'
theorem exf_x0 {od : Option Addr} {ns : List Str} {l : List D} {X' : AP} (h : ExF (XX W Z ρ σ) H od ns l) (hX : ∀ a, X' a → XX W Z ρ σ a) : ExF X' H od ns l := by
  rcases h with h | ⟨dd, fs, h0, h1, h2, h3, h4, h5⟩
  · exact .inl h
  · exact .inr ⟨dd, fs, h0, h1, fun z => h2 (hX dd z), h3, h4, h5.mv (fun a o q hx => ⟨q, fun x => hx (hX a x)⟩) _⟩
/-- what the callee raises leaves the caller -/
theorem exc_out (F : Fit V G κ W) (hE : W.E = E) (e : Env W n Z T ρ σ H) {ds : List D} (hx : ∀ n' C ns l, post n ds n' (.exc C ns l) → W.EP (κ n n') C ns l) : ∀ n' C ns l od H', post n ds n' (.exc C ns l) → Frm V H H' → G n' H' → ExF (XX W Z ρ σ) H' od ns l → E (.ref C) od H' := fun n' C ns l od H' p f g x => by
  rw [← hE]
  have e' := e.heap (F.frm f) (F.back n n' H H' e.g f g)
  exact W.hE _ C ns l od H' (hx n' C ns l p) e'.fr e'.g (exf_x0 x fun a h => .inl h)
/-- a call of which nothing is raised -/
theorem de_call (F : Fit V G κ W) (h : DA tas W n ρ fun n ds => ds.length = m ∧ pre n ds ∧ (∀ n' C ns l, ¬ post n ds n' (.exc C ns l)) ∧ ∀ n' b d, post n ds n' (.ret b d) → P (κ n n') d) : DE (tCall (Prm m V G pre post) [] E tas) W n ρ P := fun Z T σ H e Q k =>
  h Z T σ H e _ fun n vs ds H' ⟨hl, hp, hx, hq⟩ e' i => by
    show Prm m V G pre post (vs ++ []) H' Q E
    rw [List.append_nil]
    exact call_prm F e' i hl hp (fun n' => hq n' false) (fun n' => hq n' true) k fun n' C ns l _ _ p => absurd p (hx n' C ns l)
theorem df_call (F : Fit V G κ W) (h : DA tas W n ρ fun n ds => ds.length = m ∧ pre n ds ∧ (∀ n' C ns l, ¬ post n ds n' (.exc C ns l)) ∧ (∀ n' d, ¬ post n ds n' (.ret false d)) ∧ ∀ n' d, post n ds n' (.ret true d) → P (κ n n') d) : DF (tCall (Prm m V G pre post) [] E tas) W n ρ P := fun Z T σ H e Q k =>
  h Z T σ H e _ fun n vs ds H' ⟨hl, hp, hx, hq0, hq⟩ e' i => by
    show Prm m V G pre post (vs ++ []) H' Q E
    rw [List.append_nil]
    exact call_prmF F e' i hl hp hq0 hq k fun n' C ns l _ _ p => absurd p (hx n' C ns l)
/-- a call that may raise what the caller may raise -/
theorem de_callE (F : Fit V G κ W) (hE : W.E = E) (h : DA tas W n ρ fun n ds => ds.length = m ∧ pre n ds ∧ (∀ n' C ns l, post n ds n' (.exc C ns l) → W.EP (κ n n') C ns l) ∧ ∀ n' b d, post n ds n' (.ret b d) → P (κ n n') d) : DE (tCall (Prm m V G pre post) [] E tas) W n ρ P := fun Z T σ H e Q k =>
  h Z T σ H e _ fun n vs ds H' ⟨hl, hp, hx, hq⟩ e' i => by
    show Prm m V G pre post (vs ++ []) H' Q E
    rw [List.append_nil]
    exact call_prm F e' i hl hp (fun n' => hq n' false) (fun n' => hq n' true) k (exc_out F hE e' hx)
theorem df_callE (F : Fit V G κ W) (hE : W.E = E) (h : DA tas W n ρ fun n ds => ds.length = m ∧ pre n ds ∧ (∀ n' C ns l, post n ds n' (.exc C ns l) → W.EP (κ n n') C ns l) ∧ (∀ n' d, ¬ post n ds n' (.ret false d)) ∧ ∀ n' d, post n ds n' (.ret true d) → P (κ n n') d) : DF (tCall (Prm m V G pre post) [] E tas) W n ρ P := fun Z T σ H e Q k =>
  h Z T σ H e _ fun n vs ds H' ⟨hl, hp, hx, hq0, hq⟩ e' i => by
    show Prm m V G pre post (vs ++ []) H' Q E
    rw [List.append_nil]
    exact call_prmF F e' i hl hp hq0 hq k (exc_out F hE e' hx)
/-- with keywords: gV puts the values in the def's order -/
theorem de_callK {gV : List L2.V → List L2.V → List L2.V} {gD : List D → List D → List D} {tks : TA} (F : Fit V G κ W) (hE : W.E = E) (hg : ∀ (X : AP) (H : Hp) vs zs ds es, IsAll X H vs ds → IsAll X H zs es → IsAll X H (gV vs zs) (gD ds es))
    (h : DA tas W n ρ fun n ds => DA tks W n ρ fun n es => (gD ds es).length = m ∧ pre n (gD ds es) ∧ (∀ n' C ns l, post n (gD ds es) n' (.exc C ns l) → W.EP (κ n n') C ns l) ∧ ∀ n' b d, post n (gD ds es) n' (.ret b d) → P (κ n n') d) : DE (tCallK (Prm m V G pre post) gV E tas tks) W n ρ P := fun Z T σ H e Q k =>
  h Z T σ H e _ fun n vs ds H1 p e1 i1 => p Z (zipT vs ds ++ T) σ H1 (e1.pushAll i1) _ fun n zs es H2 ⟨hl, hp, hx, hq⟩ e2 i2 => by
    exact call_prm F e2.popAll (hg _ _ _ _ _ _ (e2.topAll i1.len) i2) hl hp (fun n' => hq n' false) (fun n' => hq n' true) k (exc_out F hE e2.popAll hx)
/-! ### raise -/
theorem ds_raise {cls : Addr} (h : W.EP n cls [] []) (hE : W.E = E) : DS (fun _ σ H => (fun (_ : L2.St) H Q => Q (.ref cls) none H) σ H fun cls d H' => (fun cls d (_ : L2.St) H => E cls d H) cls d σ H') W n ρ N R B C := fun Z T σ H e De f => by
  show E (.ref cls) none H
  rw [← hE]
  exact W.hE n cls [] [] none H h e.fr e.g (.inl ⟨rfl, rfl, rfl⟩)
theorem ds_never {t : TS} (h : False) : DS t W n ρ N R B C := h.elim
end
end HD

namespace HD
open PySem PySem.Spec PyProof.Rows L2

/-! ### operators of any kind -/
def rAddI : R2 := rI0 fun i j => .int (i + j)
def rAddZ : R2 := fun x y H Q => ∃ i j, x = .str i ∧ y = .str j ∧ i.length + j.length ≤ sizeLine ∧ Q (.str (i ++ j)) H
def rAddU (K : PySem.W.Frag) : R2 := fun x y H Q => rAddI x y H Q ∨ (fun x y H Q => rCatA K x y H Q ∨ (fun x y H Q => rCat x y H Q ∨ rAddZ x y H Q) x y H Q) x y H Q
def rMulI : R2 := rI (fun i j => CMul i j ∨ CMulW i j) fun i j => .int (i * j)
def rMulU (K : PySem.W.Frag) : R2 := fun x y H Q => rMulI x y H Q ∨ (fun x y H Q => rRep x y H Q ∨ rRepT K x y H Q) x y H Q
def rFdiv : R2 := rI (fun i j => CDivN i j ∨ CDivW i j) fun i j => .int (i.fdiv j)
def rInDic : R2 := fun y x H Q => ∃ a o, x = .ref a ∧ DGet H a y o ∧ Q (.bl o.isSome) H
def rNotInDic : R2 := fun y x H Q => ∃ a o, x = .ref a ∧ DGet H a y o ∧ Q (.bl (!o.isSome)) H
def rInU (K : PySem.W.Frag) : R2 := fun x y H Q => rInD K x y H Q ∨ (fun x y H Q => rIn K false x y H Q ∨ rInDic x y H Q) x y H Q
def rNotInU (K : PySem.W.Frag) : R2 := fun x y H Q => rNotInD K x y H Q ∨ (fun x y H Q => rIn K true x y H Q ∨ rNotInDic x y H Q) x y H Q
def rIsNon : R2 := fun x y H Q => y = .non ∧ Q (.bl (decide (x = .non))) H
def rIsBl : R2 := fun x y H Q => ∃ a b, x = .bl a ∧ y = .bl b ∧ Q (.bl (decide (a = b))) H
def rIsnNon : R2 := fun x y H Q => y = .non ∧ Q (.bl (!decide (x = .non))) H
def rIsnBl : R2 := fun x y H Q => ∃ a b, x = .bl a ∧ y = .bl b ∧ Q (.bl (!decide (a = b))) H
def rIsU : R2 := fun x y H Q => rIsNon x y H Q ∨ rIsBl x y H Q
def rIsnU : R2 := fun x y H Q => rIsnNon x y H Q ∨ rIsnBl x y H Q
def rSub' : R2 := rI0 fun i j => .int (i - j)
def rMod : R2 := rI (fun _ j => j ≠ 0) fun i j => .int (i.fmod j)
def rPow : R2 := rI CPow fun i j => .int (i ^ j.toNat)
def rLt : R2 := rI0 fun i j => .bl (decide (i < j))
def rLe : R2 := rI0 fun i j => .bl (decide (i ≤ j))
def rGt' : R2 := rI0 fun i j => .bl (decide (j < i))
def rGe' : R2 := rI0 fun i j => .bl (decide (j ≤ i))
section
variable {X : Cx}
theorem op_addU : OpR X (binaryOp .Add) (rAddU X.K) := op_add.or (op_catA.or (op_cat.or op_add_str))
theorem op_mulI : OpR X (binaryOp .Mult) rMulI := by
  intro pins s σ H x y v u Q I rx ry h
  obtain ⟨i, j, rfl, rfl, c, q⟩ := h
  rcases c with c | c
  · exact op_mul pins s σ H _ _ v u Q I rx ry ⟨i, j, rfl, rfl, c, q⟩
  · exact op_mulW pins s σ H _ _ v u Q I rx ry ⟨i, j, rfl, rfl, c, q⟩
theorem op_mulU : OpR X (binaryOp .Mult) (rMulU X.K) := op_mulI.or (op_rep.or op_repT)
theorem op_fdivU : OpR X (binaryOp .FloorDiv) rFdiv := by
  intro pins s σ H x y v u Q I rx ry h
  obtain ⟨i, j, rfl, rfl, c, q⟩ := h
  rcases c with c | c
  · exact op_fdivN pins s σ H _ _ v u Q I rx ry ⟨i, j, rfl, rfl, c, q⟩
  · refine op_fdivW pins s σ H _ _ v u Q I rx ry ⟨i, j, rfl, rfl, c, ?_⟩
    have q : Q (.int (i.fdiv j)) H := q
    rw [Int.fdiv_eq_ediv_of_nonneg _ (Int.le_of_lt c.1)] at q
    exact q
theorem op_inDic (hu : X.A.units + 1 < cLine) : OpR X (compareOp .In) rInDic := by
  intro pins s σ H x y v u Q I rx ry h
  obtain ⟨a, o, rfl, g, q⟩ := h
  obtain rfl : u = Value.ref a := ry
  exact d_in hu I g rx fun s3 I3 => ⟨.bl o.isSome, H, I3, rfl, q⟩
theorem op_notInDic (hu : X.A.units + 1 < cLine) : OpR X (compareOp .NotIn) rNotInDic := by
  intro pins s σ H x y v u Q I rx ry h
  obtain ⟨a, o, rfl, g, q⟩ := h
  obtain rfl : u = Value.ref a := ry
  exact d_notIn hu I g rx fun s3 I3 => ⟨.bl (!o.isSome), H, I3, rfl, q⟩
/-- x[y]: of a list, a tuple, a text by a place, of a dict by a key -/
def rIxDic : R2 := fun x y H Q => ∃ a z, x = .ref a ∧ DGet H a y (some z) ∧ Q z H
def rIxU (K : PySem.W.Frag) : R2 := fun x y H Q => rIx K x y H Q ∨ rIxDic x y H Q
theorem ix_dic (hu : X.A.units + 1 < cLine) : IxR X rIxDic := by
  intro value slice pins s σ H x y v u Q I rx ry h hs
  obtain ⟨a, z, rfl, g, q⟩ := h
  cases (show v = Value.ref a from rx)
  have got : wpAny (model X.prog X.w) X.A (subscripted slice false (.ref a) u) (fun r s3 => wpAny (model X.prog X.w) X.A (letTemporaryGo value (.ref a) r >>= fun _ => pure r) (L2.EP X pins σ Q) X.xe s3) X.xe s := by
    rw [hs]
    refine wpAny_operating (d_getItem hu I g ry fun w' s' J r => ?_)
    have fin : L2.EP X pins σ Q w' s' := ⟨z, H, J, r, q⟩
    exact wpAny_bind (wpAny_letTemporaryGo (wpAny_pure fin))
  unfold subscriptTail
  have hT := dict_typeIs I g
  refine wpAny_bind ?_
  rw [getitemInPython_of_ne hT.not_modules]
  refine wpAny_bind (wpAny_specialOf hT PySem.F.slot_dict_getitem.lookup ?_)
  first | exact wpAny_bind got | exact wpAny_pure (wpAny_bind got) | exact wpAny_bind (wpAny_pure (wpAny_bind got))
theorem ix_U (hu : X.A.units + 1 < cLine) : IxR X (rIxU X.K) := ix_seq.or (ix_dic hu)
theorem u65 {k : Nat} {A : Around} (hr : Room k A) : A.units + 65 < cLine := by have h := hr.un; omega
theorem u1 {k : Nat} {A : Around} (hr : Room k A) : A.units + 1 < cLine := by have h := hr.un; omega
theorem u64 {k : Nat} {A : Around} (hr : Room k A) : A.units + 64 < cLine := by have h := hr.un; omega
theorem op_inU {k : Nat} (hr : Room k X.A) : OpR X (compareOp .In) (rInU X.K) := (op_inD (u65 hr)).or (op_in_seq.or (op_inDic (u1 hr)))
theorem op_notInU {k : Nat} (hr : Room k X.A) : OpR X (compareOp .NotIn) (rNotInU X.K) := (op_notInD (u65 hr)).or (op_notIn_seq.or (op_notInDic (u1 hr)))
theorem op_isU : OpR X (compareOp .Is) rIsU := op_isN.or op_is_bl
theorem op_isnU : OpR X (compareOp .IsNot) rIsnU := op_notN.or op_isnot_bl
theorem op_eqU {k : Nat} (hr : Room k X.A) : OpR X (compareOp .Eq) (rEqD X.K) := op_eqD (u64 hr)
theorem op_neU {k : Nat} (hr : Room k X.A) : OpR X (compareOp .NotEq) (rNeD X.K) := op_neD (u64 hr)
theorem op_subU : OpR X (binaryOp .Sub) rSub' := op_sub
theorem op_modU : OpR X (binaryOp .Mod) rMod := op_modN
theorem op_powU : OpR X (binaryOp .Pow) rPow := op_pow
theorem op_ltU : OpR X (compareOp .Lt) rLt := op_lt
theorem op_leU : OpR X (compareOp .LtE) rLe := op_le
theorem op_gtU : OpR X (compareOp .Gt) rGt' := op_gt
theorem op_geU : OpR X (compareOp .GtE) rGe' := op_ge
end

section
variable {W : Wd} {n : Nat} {Z : ZL} {T : TL} {ρ : Rho} {σ : L2.St} {H : Hp} {P : Nat → D → Prop} {K : PySem.W.Frag} {X : AP} {d d1 d2 : D} {v : L2.V}
/-! on ints -/
theorem r_add {i j : Int} (p : P n (.int (i + j))) : DR (rAddU K) W n ρ (.int i) (.int j) P := dr_orl (dr_I0i p)
theorem r_sub {i j : Int} (p : P n (.int (i - j))) : DR rSub' W n ρ (.int i) (.int j) P := dr_I0i p
theorem r_mul {i j : Int} (c : CMul i j ∨ CMulW i j) (p : P n (.int (i * j))) : DR (rMulU K) W n ρ (.int i) (.int j) P := dr_orl (dr_Ii (C := fun i j => CMul i j ∨ CMulW i j) (g := fun i j => i * j) c p)
theorem r_fdiv {i j : Int} (c : CDivN i j ∨ CDivW i j) (p : P n (.int (i.fdiv j))) : DR rFdiv W n ρ (.int i) (.int j) P := dr_Ii (C := fun i j => CDivN i j ∨ CDivW i j) (g := fun i j => i.fdiv j) c p
theorem r_mod {i j : Int} (c : j ≠ 0) (p : P n (.int (i.fmod j))) : DR rMod W n ρ (.int i) (.int j) P := dr_Ii (C := fun _ j => j ≠ 0) (g := fun i j => i.fmod j) c p
theorem r_pow {i j : Int} (c : CPow i j) (p : P n (.int (i ^ j.toNat))) : DR rPow W n ρ (.int i) (.int j) P := dr_Ii (C := CPow) (g := fun i j => i ^ j.toNat) c p
theorem r_lt {i j : Int} (p : P n (.bl (decide (i < j)))) : DR rLt W n ρ (.int i) (.int j) P := dr_I0b (g := fun i j => decide (i < j)) p
theorem r_le {i j : Int} (p : P n (.bl (decide (i ≤ j)))) : DR rLe W n ρ (.int i) (.int j) P := dr_I0b (g := fun i j => decide (i ≤ j)) p
theorem r_gt {i j : Int} (p : P n (.bl (decide (j < i)))) : DR rGt' W n ρ (.int i) (.int j) P := dr_I0b (g := fun i j => decide (j < i)) p
theorem r_ge {i j : Int} (p : P n (.bl (decide (j ≤ i)))) : DR rGe' W n ρ (.int i) (.int j) P := dr_I0b (g := fun i j => decide (j ≤ i)) p
/-! is -/
theorem r_isN (p : P n (.bl d1.isNon)) : DR rIsU W n ρ d1 .non P := dr_orl (dr_isN p)
theorem r_isnN (p : P n (.bl (!d1.isNon))) : DR rIsnU W n ρ d1 .non P := dr_orl (dr_notN p)
theorem r_isB {a b : Bool} (p : P n (.bl (decide (a = b)))) : DR rIsU W n ρ (.bl a) (.bl b) P := dr_orr (dr_isB p)
theorem r_isnB {a b : Bool} (p : P n (.bl (!decide (a = b)))) : DR rIsnU W n ρ (.bl a) (.bl b) P := dr_orr (dr_isnotB p)
/-! tuples, lists together -/
theorem new_tup (e : Env W n Z T ρ σ H) {xs : List L2.V} {ds : List D} (h : IsAll (XX W Z ρ σ) H xs ds) {p : Addr} (hp : H p = none) : Env W n Z T ρ σ (upd H p (.tup xs)) ∧ Is (XX W Z ρ σ) (upd H p (.tup xs)) (.ref p) (.tup ds) := by
  have e2 := e.lay (o := .tup xs) hp
  exact ⟨e2.zpop, .tup e2.zmv.2 upd_same (h.mv (fun a u q hx => ⟨by rw [upd_ne (ne_of_none q hp)]; exact q, hx⟩) _)⟩
theorem IsW.tup_is {ds : List D} (h : IsW X H v (.tup ds)) : Is X H v (.tup ds) := by
  rcases h with h | ⟨a, o, _, _, h⟩
  · exact h
  · cases h
theorem r_addT {ds es : List D} (hl : ds.length + es.length ≤ sizeLine) (p : P n (.tup (ds ++ es))) : DR (rAddU K) W n ρ (.tup ds) (.tup es) P := dr_orr (dr_orl fun Z T σ H v1 v2 e i1 i2 Q k => by
  have j1 := i1.tup_is
  have j2 := i2.tup_is
  obtain ⟨a, xs, rfl, ha, h1, _⟩ := isw_tup i1
  obtain ⟨b, ys, rfl, hb, h2, _⟩ := isw_tup i2
  refine ⟨a, b, xs, ys, rfl, rfl, .of ha, .of hb, by rw [h1.len, h2.len]; exact hl, fun q => ?_, fun _ q => ?_, fun _ _ t ht => ?_⟩
  · subst q
    cases h1
    exact k _ _ _ H p e j2
  · subst q
    cases h2
    rw [List.append_nil] at p
    exact k _ _ _ H p e j1
  · obtain ⟨e', i'⟩ := new_tup e (h1.append h2) ht
    exact k _ _ _ _ p e' i')
theorem new_lst (e : Env W n Z T ρ σ H) {xs : List L2.V} {ds : List D} (h : IsAll (XX W Z ρ σ) H xs ds) {p : Addr} (hp : H p = none) : Env W n ((p, .lst xs) :: Z) T ρ σ (upd H p (.lst xs)) ∧ Ob (XX W ((p, .lst xs) :: Z) ρ σ) (upd H p (.lst xs)) (.lst xs) (.lst ds) := ⟨e.lay hp, .lst (h.mv (lay_mv e hp) _)⟩
theorem r_addL {ds es : List D} (hl : ds.length + es.length ≤ sizeLine) (p : P n (.lst (ds ++ es))) : DRF (rAddU K) W n ρ (.lst ds) (.lst es) P := drf_orr (drf_orr (drf_orl fun Z T σ H v1 v2 e i1 i2 Q k => by
  obtain ⟨a, xs, rfl, ha, h1⟩ := isw_lst i1
  obtain ⟨b, ys, rfl, hb, h2⟩ := isw_lst i2
  refine ⟨a, b, xs, ys, rfl, rfl, ha, hb, by rw [h1.len, h2.len]; exact hl, fun t ht => ?_⟩
  obtain ⟨e', i'⟩ := new_lst e (h1.append h2) ht
  exact k _ _ _ _ _ p e' i'))
theorem IsAll.rep {xs : List L2.V} {ds : List D} (h : IsAll X H xs ds) : ∀ n : Nat, IsAll X H (List.replicate n xs).flatten (List.replicate n ds).flatten
  | 0 => .nil
  | n + 1 => by
    rw [List.replicate_succ, List.replicate_succ, List.flatten_cons, List.flatten_cons]
    exact h.append (h.rep n)
theorem r_repL {ds : List D} {c : Int} (h1 : -(2 ^ 63) ≤ c) (h2 : c < 2 ^ 63) (hl : ds.length * c.toNat ≤ sizeLine) (p : P n (.lst (List.replicate c.toNat ds).flatten)) : DRF (rMulU K) W n ρ (.lst ds) (.int c) P := drf_orr (drf_orl fun Z T σ H v1 v2 e i1 i2 Q k => by
  obtain ⟨a, xs, rfl, ha, i⟩ := isw_lst i1
  cases isw_int i2
  refine ⟨a, c, xs, rfl, rfl, ha, h1, h2, by rw [i.len]; exact hl, fun t ht => ?_⟩
  obtain ⟨e', i'⟩ := new_lst e (i.rep c.toNat) ht
  exact k _ _ _ _ _ p e' i')
theorem r_repT {ds : List D} {c : Int} (h0 : ds ≠ []) (h1 : 2 ≤ c) (h2 : c ≤ 1000) (hl : ds.length ≤ 1000) (p : P n (.tup (List.replicate c.toNat ds).flatten)) : DR (rMulU K) W n ρ (.tup ds) (.int c) P := dr_orr (dr_orr fun Z T σ H v1 v2 e i1 i2 Q k => by
  obtain ⟨a, xs, rfl, ha, i, _⟩ := isw_tup i1
  cases isw_int i2
  refine ⟨a, c, xs, rfl, rfl, .of ha, fun q => h0 ?_, h1, h2, by rw [i.len]; exact hl, fun t ht => ?_⟩
  · subst q
    cases i
    rfl
  · obtain ⟨e', i'⟩ := new_tup e (i.rep c.toNat) ht
    exact k _ _ _ _ p e' i')
/-! items -/
theorem atI_all {xs : List L2.V} {ds : List D} (h : IsAll X H xs ds) {i : Int} {d : D} (hd : atI ds i = some d) : ∃ v, atI xs i = some v ∧ Is X H v d := by
  unfold atI at hd ⊢
  rw [h.len]
  cases q : ixN ds.length i with
  | none => rw [q] at hd; cases hd
  | some j =>
    rw [q] at hd
    exact h.got hd
theorem r_ix {ds : List D} {i : Int} (h : d1 = .lst ds ∨ d1 = .tup ds) (hd : atI ds i = some d) (p : P n d) : DR (rIx K) W n ρ d1 (.int i) P := fun Z T σ H v1 v2 e i1 i2 Q k => by
  cases isw_int i2
  rcases h with rfl | rfl
  · obtain ⟨a, xs, rfl, ha, h1⟩ := isw_lst i1
    obtain ⟨v, h2, h3⟩ := atI_all h1 hd
    exact .inl ⟨a, xs, i, v, rfl, rfl, .of ha, h2, k _ v d H p e h3⟩
  · obtain ⟨a, xs, rfl, ha, h1, _⟩ := isw_tup i1
    obtain ⟨v, h2, h3⟩ := atI_all h1 hd
    exact .inr (.inl ⟨a, xs, i, v, rfl, rfl, .of ha, h2, k _ v d H p e h3⟩)
theorem r_ixL {ds : List D} {i : Int} (hd : atI ds i = some d) (p : P n d) : DR (rIxU K) W n ρ (.lst ds) (.int i) P := dr_orl (r_ix (.inl rfl) hd p)
theorem r_ixT {ds : List D} {i : Int} (hd : atI ds i = some d) (p : P n d) : DR (rIxU K) W n ρ (.tup ds) (.int i) P := dr_orl (r_ix (.inr rfl) hd p)
/-- a key as a datum -/
def kD : Key → D
  | .inl i => .int i
  | .inr x => .str x
theorem isw_kD {k : Key} (h : IsW X H v (kD k)) : v = kV k := by
  cases k with
  | inl i => exact isw_int h
  | inr x => exact isw_str h
def dGet (ks : List Key) (l : List D) (k : Key) : Option D := ((ks.zip l).find? fun p => decide (p.1 = k)).map (·.2)
theorem val_get : ∀ {kvs : List (Key × L2.V)} {l : List D} {k : Key} {d : D}, IsAll X H (kvs.map (·.2)) l → dGet (kvs.map (·.1)) l k = some d → ∃ v, valV kvs k = some v ∧ Is X H v d
  | [], l, k, d, h, e => by cases h; cases e
  | (k', v) :: kvs, _, k, d, .cons h t, e => by
    by_cases q : k' = k
    · subst q
      unfold dGet at e
      simp at e
      subst e
      exact ⟨v, valV_pos rfl, h⟩
    · unfold dGet at e
      rw [List.map_cons, List.zip_cons_cons, List.find?_cons_of_neg (by simpa using q)] at e
      obtain ⟨w, h1, h2⟩ := val_get t e
      exact ⟨w, by rw [valV_neg q]; exact h1, h2⟩
theorem r_ixD {ks : List Key} {ds : List D} {k : Key} (h2 : d2 = kD k) (hd : dGet ks ds k = some d) (p : P n d) : DR (rIxU K) W n ρ (.dic ks ds) d2 P := dr_orr fun Z T σ H v1 v2 e i1 i2 Q q => by
  subst h2
  obtain ⟨a, kvs, rfl, ha, hk, h1⟩ := isw_dic i1
  subst hk
  obtain ⟨v, g1, g2⟩ := val_get h1 hd
  exact ⟨a, v, rfl, .inl ⟨kvs, k, .inl ha, isw_kD i2, g1.symm⟩, q _ v d H p e g2⟩
/-! slices -/
def cutD (ds : List D) (lo hi : Option Int) : List D := (ds.drop (HT.sIx ds.length 0 lo)).take (HT.sIx ds.length ds.length hi - HT.sIx ds.length 0 lo)
theorem IsAll.cut {xs : List L2.V} {ds : List D} (h : IsAll X H xs ds) (lo hi : Option Int) : IsAll X H (cutV xs lo hi) (cutD ds lo hi) := by
  unfold cutV cutD
  rw [h.len]
  exact (h.drop _).take _
def rSlU (K : PySem.W.Frag) : L2.V → Option Int → Option Int → Hp → VK → Prop := fun x lo hi H Q => rSlA K x lo hi H Q ∨ rSlL K x lo hi H Q
theorem sl_U {X : Cx} : SlR X (rSlU X.K) := sl_tupA.or sl_list
theorem r_slT {ds : List D} {lo hi : Option Int} (p : P n (.tup (cutD ds lo hi))) : DSl (rSlU K) W n ρ (.tup ds) lo hi P := fun Z T σ H v e i Q k => by
  have j := i.tup_is
  obtain ⟨a, xs, rfl, ha, h1, _⟩ := isw_tup i
  refine .inl ⟨a, xs, rfl, .of ha, fun q => ?_, fun _ t ht => ?_⟩
  · have : cutD ds lo hi = ds := by
      unfold cutD
      rw [h1.len] at q
      rw [q.1, q.2, List.drop_zero, Nat.sub_zero, List.take_length]
    rw [this] at p
    exact k _ _ _ H p e j
  · obtain ⟨e', i'⟩ := new_tup e (h1.cut lo hi) ht
    exact k _ _ _ _ p e' i'
def DSlF (r : L2.V → Option Int → Option Int → Hp → VK → Prop) (W : Wd) (n : Nat) (ρ : Rho) (d : D) (lo hi : Option Int) (P : Nat → D → Prop) : Prop := ∀ (Z : ZL) (T : TL) (σ : L2.St) (H : Hp) (v : L2.V), Env W n Z T ρ σ H → IsW (XX W Z ρ σ) H v d → ∀ Q : VK, RetF W Z T ρ σ P Q → r v lo hi H Q
theorem r_slL {ds : List D} {lo hi : Option Int} (p : P n (.lst (cutD ds lo hi))) : DSlF (rSlU K) W n ρ (.lst ds) lo hi P := fun Z T σ H v e i Q k => by
  obtain ⟨a, xs, rfl, ha, h1⟩ := isw_lst i
  refine .inr ⟨a, xs, rfl, .of ha, fun t ht => ?_⟩
  obtain ⟨e', i'⟩ := new_lst e (h1.cut lo hi) ht
  exact k _ _ _ _ _ p e' i'
theorem DSlF.sl {r : L2.V → Option Int → Option Int → Hp → VK → Prop} {lo hi : Option Int} (h : DSlF r W n ρ d lo hi P) : DSl r W n ρ d lo hi P := fun Z T σ H v e i Q k => h Z T σ H v e i Q (RetF.sh k)

/-! ### built-ins -/
theorem ws1 {vs : List L2.V} (h : IsWs X H vs [d]) : ∃ v, vs = [v] ∧ IsW X H v d := by
  cases h with
  | cons h t => cases t; exact ⟨_, rfl, h⟩
theorem ws2 {vs : List L2.V} (h : IsWs X H vs [d1, d2]) : ∃ v1 v2, vs = [v1, v2] ∧ IsW X H v1 d1 ∧ IsW X H v2 d2 := by
  cases h with
  | cons h t =>
    cases t with
    | cons h2 t => cases t; exact ⟨_, _, rfl, h, h2⟩
def rLenU (K : PySem.W.Frag) : List L2.V → Hp → VK → Prop := fun xs H Q => (fun xs H Q => ∃ p ys, xs = [L2.V.ref p] ∧ (SqL K H p ys ∨ SqT K H p ys) ∧ Q (.int ys.length) H) xs H Q ∨ (fun xs H Q => (∃ z, xs = [L2.V.str z] ∧ z.length ≤ sizeLine ∧ Q (.int z.length) H) ∨ ∃ a kvs, xs = [L2.V.ref a] ∧ H a = some (.dK kvs) ∧ Q (.int kvs.length) H) xs H Q
theorem call_lenU {X : Cx} : CallR X (.builtin "len") (rLenU X.K) := call_len_seq.or (call_len_str.or call_lenD)
theorem b_lenL {ds : List D} (p : P n (.int (ds.length : Int))) : DC (rLenU K) W n ρ [.lst ds] P := fun Z T σ H vs e i Q k => by
  obtain ⟨v, rfl, i1⟩ := ws1 i
  obtain ⟨a, xs, rfl, ha, h1⟩ := isw_lst i1
  exact .inl ⟨a, xs, rfl, .inl (.of ha), by rw [h1.len]; exact k _ _ _ H p e (.int _)⟩
theorem b_lenT {ds : List D} (p : P n (.int (ds.length : Int))) : DC (rLenU K) W n ρ [.tup ds] P := fun Z T σ H vs e i Q k => by
  obtain ⟨v, rfl, i1⟩ := ws1 i
  obtain ⟨a, xs, rfl, ha, h1, _⟩ := isw_tup i1
  exact .inl ⟨a, xs, rfl, .inr (.of ha), by rw [h1.len]; exact k _ _ _ H p e (.int _)⟩
theorem b_lenS {z : Str} (hz : z.length ≤ sizeLine) (p : P n (.int (z.length : Int))) : DC (rLenU K) W n ρ [.str z] P := fun Z T σ H vs e i Q k => by
  obtain ⟨v, rfl, i1⟩ := ws1 i
  cases isw_str i1
  exact .inr (.inl ⟨z, rfl, hz, k _ _ _ H p e (.int _)⟩)
theorem b_lenD {ks : List Key} {ds : List D} (p : P n (.int (ds.length : Int))) : DC (rLenU K) W n ρ [.dic ks ds] P := fun Z T σ H vs e i Q k => by
  obtain ⟨v, rfl, i1⟩ := ws1 i
  obtain ⟨a, kvs, rfl, ha, hk, h1⟩ := isw_dic i1
  have hl := h1.len
  rw [List.length_map] at hl
  exact .inr (.inr ⟨a, kvs, rfl, ha, by rw [hl]; exact k _ _ _ H p e (.int _)⟩)
/-- a read-only list that is no datum (the script) -/
theorem b_lenR {a : Addr} {xs : List L2.V} (hs : ∀ n H, W.G n H → SqL K H a xs) (p : P n (.int (xs.length : Int))) : DC (rLenU K) W n ρ [.raw a] P := fun Z T σ H vs e i Q k => by
  obtain ⟨v, rfl, i1⟩ := ws1 i
  cases isw_raw i1
  exact .inl ⟨a, xs, rfl, .inl (hs n H e.g), k _ _ _ H p e (.int _)⟩
def rAbs : List L2.V → Hp → VK → Prop := fun xs H Q => ∃ i, xs = [L2.V.int i] ∧ Q (.int (if i < 0 then -i else i)) H
theorem call_absU {X : Cx} : CallR X (.builtin "abs") rAbs := call_abs
theorem b_abs {i : Int} (p : P n (.int (if i < 0 then -i else i))) : DC rAbs W n ρ [.int i] P := fun Z T σ H vs e ia Q k => by
  obtain ⟨v, rfl, i1⟩ := ws1 ia
  cases isw_int i1
  exact ⟨i, rfl, k _ _ _ H p e (.int _)⟩
def rMin2 : List L2.V → Hp → VK → Prop := fun xs H Q => ∃ i j, xs = [L2.V.int i, L2.V.int j] ∧ Q (.int (if j < i then j else i)) H
def rMax2 : List L2.V → Hp → VK → Prop := fun xs H Q => ∃ i j, xs = [L2.V.int i, L2.V.int j] ∧ Q (.int (if j > i then j else i)) H
theorem call_min2U {X : Cx} (hc : X.calm = true) : CallR X (.builtin "min") rMin2 := call_min2 hc
theorem call_max2U {X : Cx} (hc : X.calm = true) : CallR X (.builtin "max") rMax2 := call_max2 hc
theorem b_min2 {i j : Int} (p : P n (.int (if j < i then j else i))) : DC rMin2 W n ρ [.int i, .int j] P := fun Z T σ H vs e ia Q k => by
  obtain ⟨v1, v2, rfl, i1, i2⟩ := ws2 ia
  cases isw_int i1; cases isw_int i2
  exact ⟨i, j, rfl, k _ _ _ H p e (.int _)⟩
theorem b_max2 {i j : Int} (p : P n (.int (if j > i then j else i))) : DC rMax2 W n ρ [.int i, .int j] P := fun Z T σ H vs e ia Q k => by
  obtain ⟨v1, v2, rfl, i1, i2⟩ := ws2 ia
  cases isw_int i1; cases isw_int i2
  exact ⟨i, j, rfl, k _ _ _ H p e (.int _)⟩
def rInt1 : List L2.V → Hp → VK → Prop := fun xs H Q => (∃ i, xs = [L2.V.int i] ∧ Q (.int i) H) ∨ ∃ k, xs = [L2.V.bl k] ∧ Q (.int (if k then 1 else 0)) H
theorem call_intU {X : Cx} : CallR X (.type "int") rInt1 := call_int1
theorem b_int {i : Int} (p : P n (.int i)) : DC rInt1 W n ρ [.int i] P := fun Z T σ H vs e ia Q k => by
  obtain ⟨v, rfl, i1⟩ := ws1 ia
  cases isw_int i1
  exact .inl ⟨i, rfl, k _ _ _ H p e (.int _)⟩
def rList (K : PySem.W.Frag) : List L2.V → Hp → VK → Prop := fun xs H Q => ∃ p ys, xs = [L2.V.ref p] ∧ (SqL K H p ys ∨ SqT K H p ys) ∧ ∀ l, H l = none → Q (.ref l) (upd H l (.lst ys))
theorem call_listU {X : Cx} : CallR X (.type "list") (rList X.K) := call_list_of
theorem b_list {ds : List D} (h : d = .lst ds ∨ d = .tup ds) (p : P n (.lst ds)) : DCF (rList K) W n ρ [d] P := fun Z T σ H vs e ia Q k => by
  obtain ⟨v, rfl, i1⟩ := ws1 ia
  rcases h with rfl | rfl
  · obtain ⟨a, xs, rfl, ha, h1⟩ := isw_lst i1
    refine ⟨a, xs, rfl, .inl (.of ha), fun t ht => ?_⟩
    obtain ⟨e', i'⟩ := new_lst e h1 ht
    exact k _ _ _ _ _ p e' i'
  · obtain ⟨a, xs, rfl, ha, h1, _⟩ := isw_tup i1
    refine ⟨a, xs, rfl, .inr (.of ha), fun t ht => ?_⟩
    obtain ⟨e', i'⟩ := new_lst e h1 ht
    exact k _ _ _ _ _ p e' i'
def rTuple (K : PySem.W.Frag) : List L2.V → Hp → VK → Prop := fun xs H Q => ∃ p ys, xs = [L2.V.ref p] ∧ ((SqL K H p ys ∧ ∀ l, H l = none → Q (.ref l) (upd H l (.tup ys))) ∨ (SqT K H p ys ∧ Q (.ref p) H))
theorem call_tupleU {X : Cx} : CallR X (.type "tuple") (rTuple X.K) := call_tuple_of
theorem b_tuple {ds : List D} (h : d = .lst ds ∨ d = .tup ds) (p : P n (.tup ds)) : DC (rTuple K) W n ρ [d] P := fun Z T σ H vs e ia Q k => by
  obtain ⟨v, rfl, i1⟩ := ws1 ia
  rcases h with rfl | rfl
  · obtain ⟨a, xs, rfl, ha, h1⟩ := isw_lst i1
    refine ⟨a, xs, rfl, .inl ⟨.of ha, fun t ht => ?_⟩⟩
    obtain ⟨e', i'⟩ := new_tup e h1 ht
    exact k _ _ _ _ p e' i'
  · have j := i1.tup_is
    obtain ⟨a, xs, rfl, ha, h1, _⟩ := isw_tup i1
    exact ⟨a, xs, rfl, .inr ⟨.of ha, k _ _ _ _ p e j⟩⟩
theorem b_all {bs : List Bool} (p : P n (.bl (bs.all id))) : DC (rAll K) W n ρ [.lst (bs.map D.bl)] P := fun Z T σ H vs e ia Q k => by
  obtain ⟨v, rfl, i1⟩ := ws1 ia
  obtain ⟨a, xs, rfl, ha, h1⟩ := isw_lst i1
  rw [all_bls h1] at ha
  exact ⟨a, bs, rfl, .of ha, k _ _ _ H p e (.bl _)⟩
theorem b_any {bs : List Bool} (p : P n (.bl (bs.any id))) : DC (rAny K) W n ρ [.lst (bs.map D.bl)] P := fun Z T σ H vs e ia Q k => by
  obtain ⟨v, rfl, i1⟩ := ws1 ia
  obtain ⟨a, xs, rfl, ha, h1⟩ := isw_lst i1
  rw [all_bls h1] at ha
  exact ⟨a, bs, rfl, .of ha, k _ _ _ H p e (.bl _)⟩
theorem b_sum {ns : List Int} (p : P n (.int ns.sum)) : DC (rSum K) W n ρ [.lst (ns.map D.int)] P := fun Z T σ H vs e ia Q k => by
  obtain ⟨v, rfl, i1⟩ := ws1 ia
  obtain ⟨a, xs, rfl, ha, h1⟩ := isw_lst i1
  rw [all_ints h1] at ha
  exact ⟨a, ns, rfl, .of ha, k _ _ _ H p e (.int _)⟩
theorem b_gcd {i j : Int} (p : P n (.int ((Nat.gcd i.natAbs j.natAbs : Nat) : Int))) : DC rGcd W n ρ [.int i, .int j] P := fun Z T σ H vs e ia Q k => by
  obtain ⟨v1, v2, rfl, i1, i2⟩ := ws2 ia
  cases isw_int i1; cases isw_int i2
  exact ⟨i, j, rfl, k _ _ _ H p e (.int _)⟩

/-! ### isinstance -/
/-- the built-in class of a datum -/
def D.tn : D → Option String
  | .non => some "NoneType"
  | .bl _ => some "bool"
  | .int _ => some "int"
  | .str _ => some "str"
  | .lst _ => some "list"
  | .tup _ => some "tuple"
  | .dic _ _ => some "dict"
  | .dct => some "dict"
  | _ => none
theorem tyx_of {n : String} (h : IsW X H v d) (e : d.tn = some n) : TyX K H v (.type n) := by
  cases d with
  | non => cases isw_non h; cases e; exact .base .non
  | bl b => cases isw_bl h; cases e; exact .base (.bl b)
  | int i => cases isw_int h; cases e; exact .base (.int i)
  | str x => cases isw_str h; cases e; exact .base (.str x)
  | lst ds => obtain ⟨a, xs, rfl, ha, _⟩ := isw_lst h; cases e; exact .base (.lst ha)
  | tup ds => obtain ⟨a, xs, rfl, ha, _⟩ := isw_tup h; cases e; exact .base (.tup ha)
  | dic ks ds => obtain ⟨a, kvs, rfl, ha, _⟩ := isw_dic h; cases e; exact .base (.dK ha)
  | dct =>
    cases e
    rcases h with h | ⟨a, o, _, _, h⟩
    · cases h with
      | dct hx ha => exact .base (.dT ha)
    · cases h
  | _ => cases e
theorem b_isi {m c : String} {b : Bool} (e : d.tn = some m) (hb : kitB m c = some b) (p : P n (.bl b)) : DC (rIsi K) W n ρ [d, .ty c] P := fun Z T σ H vs ev ia Q k => by
  obtain ⟨v1, v2, rfl, i1, i2⟩ := ws2 ia
  cases isw_ty i2
  exact ⟨v1, .ty c, _, _, b, rfl, .ty c, tyx_of i1 e, kit_ty hb, k _ _ _ H p ev (.bl _)⟩
/-- an own class -/
theorem b_isiC {m : String} {C : Addr} {b : Bool} (e : d.tn = some m) (hb : PySem.W.kitOne K (.type m) (.ref C) = some b) (p : P n (.bl b)) : DC (rIsi K) W n ρ [d, .raw C] P := fun Z T σ H vs ev ia Q k => by
  obtain ⟨v1, v2, rfl, i1, i2⟩ := ws2 ia
  cases isw_raw i2
  exact ⟨v1, .ref C, _, _, b, rfl, .own C, tyx_of i1 e, hb, k _ _ _ H p ev (.bl _)⟩
/-- what isinstance asks of an own class of instances -/
structure InsK (K : PySem.W.Frag) (C : Addr) : Prop where
  cl : Cls K C
  ha : PySem.W.findIn K (.ref C) "__class__" = some (some (.builtin "object.__class__"))
  hn : PySem.W.specialIn K (.builtin "object.__class__") "__get__" = some (some (.builtin "getset_descriptor.__get__"))
  htk : PySem.W.takesIn K (.builtin "object.__class__") = some true
  hm : PySem.W.mroIn K C (.type "object") = some true
theorem InsK.ty {C : Addr} (T : InsK K C) {ns : List Str} {l : List D} (h : IsW X H v (.ins C ns l)) : TyX K H v (.ref C) := by
  obtain ⟨a, dx, fs, rfl, ha, _⟩ := isw_ins h
  exact .base (.ins ha T.cl T.ha T.hn T.htk T.hm)
theorem b_isiI {C : Addr} {ns : List Str} {l : List D} {c : D} {cv : Value} {b : Bool} (I : InsK K C) (hc : (∃ m, c = .ty m ∧ cv = .type m) ∨ ∃ D, c = .raw D ∧ cv = .ref D) (hb : PySem.W.kitOne K (.ref C) cv = some b) (p : P n (.bl b)) : DC (rIsi K) W n ρ [.ins C ns l, c] P := fun Z T σ H vs ev ia Q k => by
  obtain ⟨v1, v2, rfl, i1, i2⟩ := ws2 ia
  rcases hc with ⟨n, rfl, rfl⟩ | ⟨D, rfl, rfl⟩
  · cases isw_ty i2
    exact ⟨v1, .ty n, _, _, b, rfl, .ty n, I.ty i1, hb, k _ _ _ H p ev (.bl _)⟩
  · cases isw_raw i2
    exact ⟨v1, .ref D, _, _, b, rfl, .own D, I.ty i1, hb, k _ _ _ H p ev (.bl _)⟩
theorem b_isiT2 {m c1 c2 : String} {b1 b2 : Bool} (e : d.tn = some m) (h1 : kitB m c1 = some b1) (h2 : kitB m c2 = some b2) (p : P n (.bl (b1 || b2))) : DC (rIsiT K) W n ρ [d, .tup [.ty c1, .ty c2]] P := fun Z T σ H vs ev ia Q k => by
  obtain ⟨v1, v2, rfl, i1, i2⟩ := ws2 ia
  obtain ⟨a, xs, rfl, ha, h, _⟩ := isw_tup i2
  cases h with
  | cons q1 t =>
    cases t with
    | cons q2 t =>
      cases t
      cases q1; cases q2
      refine ⟨v1, a, [.ty c1, .ty c2], _, [.type c1, .type c2], b1 || b2, rfl, ha, .cons (.ty c1) (.cons (.ty c2) .nil), tyx_of i1 e, kitAny_cons (kit_ty h1) (fun z => ?_) (fun z => by rw [z]; rfl), k _ _ _ H p ev (.bl _)⟩
      rw [z, Bool.false_or]
      exact kitAny_cons (kit_ty h2) (fun z => by rw [z]; exact kitAny_nil) (fun z => z)

/-! ### fields of instances -/
theorem lookup_get : ∀ {fs : List (Str × L2.V)} {ns : List Str} {ds : List D} {f : Str} {d : D}, fs.map (·.1) = ns → IsAll X H (fs.map (·.2)) ds → (ns.zip ds).lookup f = some d → ∃ v, fs.lookup f = some v ∧ Is X H v d
  | [], ns, ds, f, d, h1, h2, h3 => by
    subst h1
    simp at h3
  | (n, v) :: fs, ns, ds, f, d, h1, h2, h3 => by
    subst h1
    cases h2 with
    | @cons _ _ d0 ds' hd tl =>
      rw [List.map_cons, List.zip_cons_cons, List.lookup_cons] at h3
      rw [List.lookup_cons]
      cases q : f == n with
      | true =>
        rw [q] at h3
        cases h3
        exact ⟨v, rfl, hd⟩
      | false =>
        rw [q] at h3
        exact lookup_get rfl tl h3
theorem de_fld {ta : TE} {f : Str} (h : DE ta W n ρ fun n d => ∃ C ns l e, d = .ins C ns l ∧ Cls K C ∧ NoAttr K C f ∧ (ns.zip l).lookup f = some e ∧ P n e) : DE (tFld K ta f) W n ρ P := fun Z T σ H e Q k =>
  h Z T σ H e _ fun n v d H' ⟨C, ns, l, x, hd, hc, hn, hl, p⟩ e' i => by
    subst hd
    obtain ⟨a, dx, fs, rfl, ha, h1, h2⟩ := isw_ins (.inl i)
    obtain ⟨u, q1, q2⟩ := lookup_get h1 h2 hl
    exact ⟨a, C, dx, fs, u, rfl, ha, hc, hn, q1, k _ u x H' p e' q2⟩

/-! ### methods of a slot's own list -/
theorem own_lst {i : Nat} {ds : List D} (e : Env W n Z T ρ σ H) (h : ρ[i]? = some (some (true, .lst ds))) : ∃ a xs, σ[i]? = some (some (.ref a)) ∧ H a = some (.lst xs) ∧ IsAll (XX W Z ρ σ) H xs ds := by
  obtain ⟨a, o, h1, h2, h3, _⟩ := e.ow i _ h
  cases h3 with
  | lst q => exact ⟨a, _, h1, h2, q⟩
theorem tyL {a : Addr} {xs : List L2.V} (h : H a = some (.lst xs)) : tyV K "list" (.ref a) H := .inl ⟨rfl, xs, .of h⟩
variable {N : Nat → Rho → Prop} {R : Nat → Bool → D → Prop} {B C : Nat → Rho → Prop} {te ta : TE}
theorem own_same {i n' : Nat} {ds : List D} (e : Env W n Z T ρ σ H) {H' : Hp} (e' : Env W n' Z T ρ σ H') (h : ρ[i]? = some (some (true, .lst ds))) {a : Addr} (hs : σ[i]? = some (some (.ref a))) : ∃ xs, H' a = some (.lst xs) ∧ IsAll (XX W Z ρ σ) H' xs ds := by
  obtain ⟨b, xs, h1, h2, h3⟩ := own_lst e' h
  rw [hs] at h1; cases h1
  exact ⟨xs, h2, h3⟩
/-- x.append(e) -/
theorem ds_append {i : Nat} {ds : List D} (h : ρ[i]? = some (some (true, .lst ds))) (k : DE te W n ρ fun n d => ds.length < sizeLine ∧ N n (ρ.set i (some (true, .lst (ds ++ [d]))))) : DS (tDrop (tBM K "list" rAppend (tVar i) (tCons te tNil))) W n ρ N R B C := fun Z T σ H e De f => by
  obtain ⟨a, xs, h1, h2, h3⟩ := own_lst e h
  refine ⟨.ref a, h1, tyL h2, k Z T σ H e _ fun n v d H' ⟨hl, q⟩ e' iv => ?_⟩
  obtain ⟨ys, q1, q2⟩ := own_same e e' h h1
  exact ⟨a, ys, v, rfl, rfl, q1, by rw [q2.len]; exact hl, f.nx _ _ _ _ q (e'.put h h1 (.lst (q2.snoc iv)))⟩
/-- y = x.pop() -/
theorem ds_pop {i j : Nat} {ds : List D} {d : D} (h : ρ[i]? = some (some (true, .lst (ds ++ [d])))) (q : N n ((ρ.set i (some (true, .lst ds))).set j (some (false, d)))) : DS (tAsg (tBM0 K "list" rPop (tVar i)) (gName j)) W n ρ N R B C := fun Z T σ H e De f => by
  obtain ⟨a, xs, h1, h2, h3⟩ := own_lst e h
  have hl := h3.len
  rw [List.length_append] at hl
  have hl : xs.length = ds.length + 1 := hl
  obtain ⟨v, q1, q2⟩ := h3.got (i := ds.length) (d := d) (by rw [List.getElem?_append_right (Nat.le_refl _), Nat.sub_self]; rfl)
  have h4 : IsAll (XX W Z ρ σ) H xs.dropLast ds := by
    have := h3.take ds.length
    rw [List.take_left' rfl] at this
    rw [List.dropLast_eq_take, hl]
    exact this
  have e1 : Env W n Z ((v, d) :: T) (ρ.set i (some (true, .lst ds))) σ (upd H a (.lst xs.dropLast)) := (e.push q2).put h h1 (.lst h4)
  exact ⟨.ref a, h1, tyL h2, a, xs, v, rfl, rfl, h2, by rw [hl]; exact q1, f.nx _ _ _ _ q (e1.pop1.set e1.top)⟩
end
end HD

namespace HD
open PySem PySem.Spec PyProof.Rows L2

/-! ### defs of the text -/
/-- the def x stands in the module, its body is st's -/
structure Def (K : PySem.W.Frag) (mg : Str → Option Value) (x : Str) (st : Stmt) (ps : List Str) : Prop where
  ex : ∃ (f : Addr) (fd : FuncData), Fun K x x st f fd ∧ mg x = some (.ref f) ∧ Binds K fd ps []
/-- the def x keeps the promise sp -/
structure Cal (P : Program) (w : World) (K : PySem.W.Frag) (mg : Str → Option Value) (base : Heap) (k : Nat) (x : Str) (st : Stmt) (ps : List Str) (sp : Sp) : Prop where
  ex : ∃ (f : Addr) (fd : FuncData), FnOk P w K mg base (L2.CX P w) k f fd ps sp ∧ mg x = some (.ref f) ∧ PySem.W.keepIn K (.ref f) = true ∧ Binds K fd ps [] ∧ Fun K x x st f fd
/-- the context of the body -/
abbrev cxD (P : Program) (w : World) (K : PySem.W.Frag) (mg : Str → Option Value) (base : Heap) (N : List Str) (x : Str) (st : Stmt) (f : Addr) (cdv : Value) (A : Around) (outer : List PySem.Env) (s : Shared) (H : Hp) (E : XK) : Cx :=
  cxOf (L2.CX P w) P w K mg base N x (defScope st) f cdv A outer s H E
section
variable {P : Program} {w : World} {K : PySem.W.Frag} {mg : Str → Option Value} {base : Heap} {k m : Nat} {x : Str} {st : Stmt} {N ps : List Str} {V : AP} {G : Nat → Hp → Prop} {pre : Nat → List D → Prop} {post : Nat → List D → Nat → Out → Prop}
theorem Def.raw {sp : Sp} (Dd : Def K mg x st ps) (S : FnScope N ps (defScope st)) (len : ∀ vs H Q E, sp vs H Q E → vs.length = ps.length)
    (h : ∀ (f : Addr) (cdv : Value) (A : Around) (outer : List PySem.Env) (s : Shared) (H : Hp) (vs : List L2.V) (Q : VK) (E : XK), Room k (A.deeper (envOfC x (defScope st) s.heap.objs.size f cdv)) → sp vs H Q E →
      ∃ t, PSs (cxD P w K mg base N x st f cdv A outer s H E) (defBody st) t ∧ t { nx := fun _ H' => Q .non H', rt := Q } (L2.start N vs) H) : Cal P w K mg base (k + 1) x st ps sp := by
  obtain ⟨f, fd, F, hm, hb⟩ := Dd.ex
  exact ⟨f, fd, F.okX S len fun cdv A outer s H vs Q E hr q => h f cdv A outer s H vs Q E hr q, hm, F.kp, hb, F⟩
theorem Def.ok (Dd : Def K mg x st ps) (S : FnScope N ps (defScope st)) (hn : m = ps.length) (ST : Stab V G)
    (h : ∀ (f : Addr) (cdv : Value) (A : Around) (outer : List PySem.Env) (s : Shared) (H : Hp) (E : XK), Room k (A.deeper (envOfC x (defScope st) s.heap.objs.size f cdv)) →
      ∃ t, PSs (cxD P w K mg base N x st f cdv A outer s H E) (defBody st) t ∧ ∀ (W : Wd) (n : Nat) (ds : List D), W.V = V → W.G = G → W.E = E → W.EP = (fun n' C ns l => post n ds n' (.exc C ns l)) → ds.length = m → pre n ds →
        DS t W n (startR N ds) (fun n' _ => post n ds n' (.ret false .non)) (fun n' b d => post n ds n' (.ret b d)) (fun _ _ => False) (fun _ _ => False)) : Cal P w K mg base (k + 1) x st ps (Prm m V G pre post) := by
  refine Dd.raw S (fun vs H Q E q => by rw [prm_len q, hn]) fun f cdv A outer s H vs Q E hr q => ?_
  obtain ⟨t, ht, hd⟩ := h f cdv A outer s H E hr
  exact ⟨t, ht, prm_body ST q hd⟩
/-- a promise made less -/
theorem Cal.weak {pre' : Nat → List D → Prop} {post' : Nat → List D → Nat → Out → Prop} (C : Cal P w K mg base k x st ps (Prm m V G pre post)) (h1 : ∀ n ds, pre' n ds → pre n ds) (h2 : ∀ n ds n' o, pre' n ds → post n ds n' o → post' n ds n' o) : Cal P w K mg base k x st ps (Prm m V G pre' post') := by
  obtain ⟨f, fd, F, hm, hk, hb, hF⟩ := C.ex
  have key : ∀ vs H Q E, Prm m V G pre' post' vs H Q E → Prm m V G pre post vs H Q E := fun vs H Q E ⟨X, ds, n, a1, a2, a3, a4, a5, a6, a7, a8, a9⟩ =>
    ⟨X, ds, n, a1, a2, a3, a4, a5, h1 n ds a6, fun n' v d H' p => a7 n' v d H' (h2 n ds n' _ a6 p), fun n' a o d H' p => a8 n' a o d H' (h2 n ds n' _ a6 p), fun n' C ns l od H' p => a9 n' C ns l od H' (h2 n ds n' _ a6 p)⟩
  exact ⟨f, fd, ⟨fun vs H Q E q => F.len vs H Q E (key vs H Q E q), fun A outer s H args us vs Q E hr e0 hbt r q => F.run A outer s H args us vs Q E hr e0 hbt r (key vs H Q E q)⟩, hm, hk, hb, hF⟩
end
section
variable {X : Cx} {k : Nat} {x : Str} {st : Stmt} {ps : List Str} {sp : Sp} {E : XK} {p pos : Pos} {e : Expr} {es : List Expr} {t : TA}
/-- f(e, ..) -/
theorem pe_cal (C : Cal X.prog X.w X.K X.mg X.base k x st ps sp) (hr : Room k X.A) (hx : Passes (L2.CX X.prog X.w) X E) (hg : Gl X x) (ha : PA X (e :: es) t) (hdb : (x == ("__debug__" : Str)) = false := by decide)
    (he : starEach (e :: es) X.env = (false, eval e X.env) :: starEach es X.env := by rfl) (hpl : (backTo pos (starEach es X.env)).any (·.1) = false := by rfl) : PE X (.Call (.Name x p) (e :: es) [] pos) (tCall sp [] E t) := by
  obtain ⟨f, fd, F, hm, hk, hb, _⟩ := C.ex
  exact pe_call F hr hg hm hk hb .nil hx ha hdb he hpl
theorem pe_cal0 (C : Cal X.prog X.w X.K X.mg X.base k x st ps sp) (hr : Room k X.A) (hx : Passes (L2.CX X.prog X.w) X E) (hg : Gl X x) (hdb : (x == ("__debug__" : Str)) = false := by decide) : PE X (.Call (.Name x p) [] [] pos) (tCall sp [] E tNil) := by
  obtain ⟨f, fd, F, hm, hk, hb, _⟩ := C.ex
  exact pe_call0 F hr hg hm hk hb .nil hx hdb
/-- in a def's body errors go out as the def's own -/
theorem passD {P : Program} {w : World} {K : PySem.W.Frag} {mg : Str → Option Value} {base : Heap} {N : List Str} {x : Str} {st : Stmt} {f : Addr} {cdv : Value} {A : Around} {outer : List PySem.Env} {s : Shared} {H : Hp} {E : XK} :
    Passes (L2.CX P w) (cxD P w K mg base N x st f cdv A outer s H E) E := passes_call (takes_of rfl rfl rfl rfl) fun _ _ _ _ h => h
end
end HD

namespace HD
open PySem PySem.Spec PyProof.Rows L2

/-! ### a caught error is kept: try: body / except x as n: suite, and behind it the error is tracked -/
def wKeep (K : PySem.W.Frag) (m : Nat) (c : Value) (i : Nat) (ts : Addr → Value → Option Addr → TS) (D : Ends) : WX := fun cls d σ H =>
  ∃ C : Addr, cls = .ref C ∧ PySem.W.exmOne K cls c = some true ∧ ∀ a, σ.length = m → H a = none → ts a cls d { nx := fun σ' H' => D.nx (σ'.set i none) (upd H' a (excH a C d)), rt := fun _ _ => False, bk := fun _ _ => False, ct := fun _ _ => False } (σ.set i (some (.ref a))) H
section
variable {X : Cx} {x n : Str} {c : Value} {i : Nat} {body suite : List Stmt} {b₀ : Stmt} {np pos pos' : Pos} {tb : WX → TS} {ts : Addr → Value → Option Addr → TS}
theorem track {pins : List (Addr × Obj)} {σ : L2.St} {H : Hp} {s : Shared} {a C : Addr} {oe : Obj} {d : Option Addr} (I : L2.Inv X ((a, oe) :: pins) σ H s) (hz : Zc (.ref C) d oe) (hd : ∃ vs, oe.data = .fields vs) (h0 : X.s_0.heap.get? a = none)
    (hp : ∀ p ∈ X.pn ++ pins, p.1 ≠ a) : L2.Inv X pins σ (upd H a (excH a C d)) s := by
  obtain ⟨vs, hd⟩ := hd
  obtain ⟨e, na, nL, nF, _⟩ := I.pin (a, oe) (List.mem_append_right _ List.mem_cons_self)
  have e : s.heap.get? a = some oe := e
  have na : H a = none := na
  have J : L2.Inv X pins σ H s := I.pins_of fun p hp => I.pin p (List.mem_append_right _ (List.mem_cons_of_mem _ hp))
  have neT : ∀ b u, H b = some u → b ≠ a := fun b u q => ne_of_none q na
  have ne0 : ∀ b o, X.s_0.heap.get? b = some o → b ≠ a := fun b o q z => by
    rw [z, h0] at q; cases q
  refine ⟨J.ok, J.os, J.bare, ⟨J.base.keep, J.base.slot, fun b o q n hx => ?_, J.base.there, fun b xs q => ?_, fun b o u q => ?_, fun b ps q => ?_⟩, J.loc, J.cell, ?_, fun y c q => ?_, fun p hp' => ?_, fun b u q => ?_, J.len⟩
  · rw [upd_ne (ne0 b o q)]
    exact J.base.free b o q n hx
  · have z := J.base.tups b xs q
    rw [upd_ne (neT b _ z)]
    exact z
  · have z := J.base.frzs b o u q
    rw [upd_ne (neT b _ z)]
    exact z
  · obtain ⟨m, z⟩ := J.base.tbls b ps q
    exact ⟨m, by rw [upd_ne (neT b _ z)]; exact z⟩
  · rw [upd_ne (Ne.symm nL)]
    exact J.free
  · have ne : c ≠ a := fun z => by
      obtain ⟨v, o, ho, hdc⟩ := J.cell y c q
      rw [z, e] at ho
      cases ho
      rw [hd] at hdc
      cases hdc
    rw [upd_ne ne]
    exact J.freeC y c q
  · obtain ⟨q1, q2, q3, q4, q5⟩ := J.pin p hp'
    exact ⟨q1, by rw [upd_ne (hp p hp')]; exact q2, q3, q4, q5⟩
  · by_cases hb : b = a
    · subst hb
      rw [upd_same] at q
      cases q
      exact ⟨⟨oe, vs, e, hz, hd⟩, ⟨oe, e⟩, fun h1 h2 ⟨o, v, q1, q2, q3⟩ k => ⟨o, v, k o q1, q2, q3⟩⟩
    · rw [upd_ne hb] at q
      exact (J.hok b u q).stay (fun _ _ _ q => q) (fun b' q' => by rw [upd_ne (neT b' _ q')]; exact q') fun b' xs q' => by rw [upd_ne (neT b' _ q')]; exact q'
theorem ps_try_keep (hex : X.ex = []) (hs : X.stack = X.env :: X.outer) (hf : X.env.frame = some X.env.locals) (hN : X.N.Nodup) (hi : X.N[i]? = some n) (hln : X.env.kindOf n = some .local) (hc : Names X x c)
    (hb : ∀ (W : WX) (pn : List (Addr × Obj)) (xe : Value → Shared → Prop), Takes (X.tr pn xe) W → PassesOwn (model X.prog X.w) X.A X.env xe → PSs (X.tr pn xe) body (tb W))
    (hsu : ∀ (a : Addr) (oe : Obj) (cls : Value) (d : Option Addr) (pn : List (Addr × Obj)), Zc cls d oe → (∃ vs, oe.data = .fields vs) → PSs (X.suite a ((a, oe) :: pn)) (b₀ :: suite) (ts a cls d)) :
    PS X (.Try body [.ExceptHandler (some (.Name x np)) (some n) (b₀ :: suite) pos'] [] [] pos) (fun D σ H => tb (wKeep X.K X.N.length c i ts D) D σ H) := by
  refine ⟨fun pins s σ H D I h => ?_⟩
  have ok := I.ok
  have hfr : X.A.frames = some (X.env :: X.outer) := by rw [ok.frames, hs]
  have hloc : Loc X.env.scope n := .inl hln
  refine wpAny_Try_except ?_
  refine wpAny_mono ((hb (wKeep X.K X.N.length c i ts D) (X.pn ++ pins) (fun e s₁ => wpAny (model X.prog X.w) X.A (noteFrame e X.env) (fun _ s₂ => wpAny (model X.prog X.w) X.A (setFlight e none) (fun _ s₃ =>
    wpAny (model X.prog X.w) X.A (handleBy e X.env [.ExceptHandler (some (.Name x np)) (some n) (b₀ :: suite) pos']) (SP X pins D) X.xe s₃) X.xe s₂) X.xe s₁) (fun u s' xx => ?_) PassesOwn.looking).run [] s σ H D (I.toTry _) h) (fun f s1 hsp => ?_) (fun e s1 he => he)
  · -- the catch
    obtain ⟨a, B, sI, pins', σ', H', cls, d, rfl, J', nb, up, sky, na, os, ag, C, hC, hb1, hyes⟩ := xx
    subst hC
    have J : L2.Inv X pins σ' H' sI := J'.ofTry ok
    have sky' : Sky B (X.env :: X.outer) a (Zc (.ref C) d) X.env.locals s'.heap := by rw [← hs]; exact sky
    have nB : B.get? a = none := by
      rcases sky' with z | z | z
      · exact z.2.1
      · exact z.2.1
      · exact z.2.1
    show wpAny (model X.prog X.w) X.A (noteFrame (.ref a) X.env) _ _ _
    refine Sky.land Zc.steady hfr hf sky' fun h3 fl3 up3 => ?_
    have J3 : L2.Inv X pins σ' H' { s' with heap := h3 } := J.landed nb fl3.1 (up.trans up3) os ag
    obtain ⟨oe3, vs3, he3, hz3, hd3⟩ := fl3.there
    have notFr : ∀ {h : Heap} {o : Obj} {vs : Array Value}, h.FunFrames B (X.env :: X.outer) → h.get? a = some o → o.data = .fields vs → a ∉ frs (X.env :: X.outer) := fun {h o vs} ff e dd hm => by
      obtain ⟨_, o', e', hnf⟩ := ff.mem hm
      rw [e] at e'; cases e'
      exact hnf _ dd
    have nfr := notFr fl3.2.2.1 he3 hd3
    have nL : a ≠ X.env.locals := fun z => nfr (List.mem_filterMap.mpr ⟨X.env, List.mem_cons_self, by rw [hf, z]⟩)
    have nF : a ∉ X.fs := fun hm => by
      obtain ⟨e, he, q⟩ := List.mem_filterMap.mp hm
      exact nfr (List.mem_filterMap.mpr ⟨e, List.mem_cons_of_mem _ he, q⟩)
    have nI : sI.heap.get? a = none := by
      cases q : sI.heap.get? a with
      | none => rfl
      | some o =>
        have := nb a o q (by rw [hs]; exact nfr)
        rw [nB] at this; cases this
    have n0 : X.s_0.heap.get? a = none := by
      cases q : X.s_0.heap.get? a with
      | none => rfl
      | some o =>
        obtain ⟨o', z⟩ := J.base.there a o q (by rw [hex]; exact fun z => nomatch z)
        rw [nI] at z; cases z
    have pnA : ∀ p ∈ X.pn ++ pins, p.1 ≠ a := fun p hp z => by
      have := (J.pin p hp).1
      rw [z, nI] at this; cases this
    have S3 := J3.suite he3 hd3 na nL nF
    refine wpAny_handleBy_cons (codeAny_handlers_test ?_) (by intro q; cases q)
    have LT : PySem.W.Looks (model X.prog X.w) h3 (typeOf (.ref a)) (.ref C) := fun A Q E s k q => wpAny_typeOf_ref (k _ _ he3) (by rw [hz3.1]; exact q)
    have LM := PySem.W.exm_one (M := model X.prog X.w) (J3.kIn) LT hb1
    have test : ∀ {Q : Value → Shared → Prop} {E : Value → Shared → Prop}, Q c { s' with heap := h3 } → wpAny (model X.prog X.w) (X.A.mark (some (.ref a))) (eval (.Name x np) X.env) Q E { s' with heap := h3 } := fun {Q E} q => by
      obtain ⟨hg, hdbg, hm | ⟨hm, hv, hnn⟩⟩ := hc
      · exact ld_glob (X := X.suite a ((a, oe3) :: (X.pn ++ pins))) S3 hg hm q hdbg
      · exact ld_blt (X := X.suite a ((a, oe3) :: (X.pn ++ pins))) S3 hg hm hv q hnn hdbg
    refine test (LM.here ?_)
    refine codeAny_handlers_suite_as ?_
    refine HandSPX.lands_againZ fl3 fun h4 fl4 up4 => ?_
    have J4 : L2.Inv X pins σ' H' { s' with heap := h4 } := J.landed nb fl4.1 ((up.trans up3).trans up4) os ag
    obtain ⟨oe4, vs4, he4, hz4, hd4⟩ := fl4.there
    have S4 := J4.suite he4 hd4 na nL nF
    refine store_ok (X := X.suite a ((a, oe4) :: (X.pn ++ pins))) (v := .ref a) S4 hN hi hloc rfl (fun s5 S5 => ?_) (.inr hln)
    refine wpAny_mono ((hsu a oe4 (.ref C) d (X.pn ++ pins) hz4 ⟨_, hd4⟩).run [] s5 _ H' _ S5 (hyes a J.len na)) (fun f s6 hsp => ?_) (fun _ _ z => False.elim z)
    cases f with
    | next =>
      obtain ⟨σ6, H6, S6, q6⟩ := hsp
      have S7 : L2.Inv X ((a, oe4) :: pins) σ6 H6 s6 := ⟨ok, S6.os, S6.bare, S6.base, S6.loc, S6.cell, S6.free, S6.freeC, fun p hp => S6.pin p (by
        rcases List.mem_append.mp hp with z | z
        · exact List.mem_append_left _ (List.mem_cons_of_mem _ (List.mem_append_left _ z))
        · rcases List.mem_cons.mp z with z | z
          · rw [z]; exact List.mem_append_left _ List.mem_cons_self
          · exact List.mem_append_left _ (List.mem_cons_of_mem _ (List.mem_append_right _ z))), S6.hok, S6.len⟩
      exact gone_ok S7 hN hi hln fun s7 J7 => ⟨_, _, track J7 hz4 ⟨_, hd4⟩ n0 pnA, q6⟩
    | brk =>
      obtain ⟨σ6, H6, S6, q6⟩ := hsp
      exact q6.elim
    | cont =>
      obtain ⟨σ6, H6, S6, q6⟩ := hsp
      exact q6.elim
    | ret u =>
      obtain ⟨v6, σ6, H6, S6, r6, q6⟩ := hsp
      exact q6.elim
  · cases f with
    | next =>
      obtain ⟨σ', H', J', q⟩ := hsp
      exact wpAny_execs_nil ⟨σ', H', J'.ofTry ok, q⟩
    | brk =>
      obtain ⟨σ', H', J', q⟩ := hsp
      exact ⟨σ', H', J'.ofTry ok, q⟩
    | cont =>
      obtain ⟨σ', H', J', q⟩ := hsp
      exact ⟨σ', H', J'.ofTry ok, q⟩
    | ret u =>
      obtain ⟨v, σ', H', J', r, q⟩ := hsp
      exact ⟨v, σ', H', J'.ofTry ok, r, q⟩
end

/-! ### isinstance of a kept error -/
def rIsX (K : PySem.W.Frag) : List L2.V → Hp → VK → Prop := fun xs H Q => ∃ (a Dc : Addr) (od : Option Addr) (c : L2.V) (cv : Value) (b : Bool), xs = [.ref a, c] ∧ H a = some (excH a Dc od) ∧ ExcC K Dc ∧ (∀ u, RelV c u → u = cv) ∧ PySem.W.kitOne K (.ref Dc) cv = some b ∧ Q (.bl b) H
theorem call_isX0 {X : Cx} : CallR X (.builtin "isinstance") (fun xs H Q => ∃ (a Dc : Addr) (c : L2.V) (cv : Value) (b : Bool), xs = [.ref a, c] ∧ H a = some (excH a Dc none) ∧ ExcC X.K Dc ∧ (∀ u, RelV c u → u = cv) ∧ PySem.W.kitOne X.K (.ref Dc) cv = some b ∧ Q (.bl b) H) := by
  intro pins s σ H xs us Q I r h
  obtain ⟨a, Dc, c, cv, b, rfl, ha, C, hcv, e, q⟩ := h
  obtain ⟨u1, u2, rfl, rx, rt⟩ := vals2 r
  cases rx
  have ec := hcv _ rt
  subst ec
  obtain ⟨⟨oe, vs, hget, hz, hv⟩, _, _⟩ := I.hok a _ ha
  have J : PySem.W.InstAt s.heap a oe Dc none := by
    obtain ⟨oc, od, oda, osl⟩ := oe
    obtain ⟨h1, h2⟩ := hz
    dsimp only at h1 h2 hv
    subst h1 h2 hv
    exact ⟨hget, rfl, rfl, trivial⟩
  exact PySem.W.kia_one (PySem.W.handS_kitx_exc C.hg C.hk C.hs C.hd C.ha C.hn C.ht C.hm) I.kIn J e (fun z => nomatch z) fun tk => ⟨.bl b, H, I.kept (t' := tk) fun _ _ z => z, rfl, q⟩
end HD

namespace HD
open PySem PySem.Spec PyProof.Rows L2
theorem bb_len : bootBuiltins "len" = some (.builtin "len") := by decide +kernel
theorem bb_abs : bootBuiltins "abs" = some (.builtin "abs") := by decide +kernel
theorem bb_all : bootBuiltins "all" = some (.builtin "all") := by decide +kernel
theorem bb_any : bootBuiltins "any" = some (.builtin "any") := by decide +kernel
theorem bb_sum : bootBuiltins "sum" = some (.builtin "sum") := by decide +kernel
theorem bb_min : bootBuiltins "min" = some (.builtin "min") := by decide +kernel
theorem bb_max : bootBuiltins "max" = some (.builtin "max") := by decide +kernel
theorem bb_isinstance : bootBuiltins "isinstance" = some (.builtin "isinstance") := by decide +kernel
theorem bb_int : bootBuiltins "int" = some (.type "int") := by decide +kernel
theorem bb_bool : bootBuiltins "bool" = some (.type "bool") := by decide +kernel
theorem bb_list : bootBuiltins "list" = some (.type "list") := by decide +kernel
theorem bb_tuple : bootBuiltins "tuple" = some (.type "tuple") := by decide +kernel
theorem bb_dict : bootBuiltins "dict" = some (.type "dict") := by decide +kernel
theorem bb_str : bootBuiltins "str" = some (.type "str") := by decide +kernel

/-! ### a module's whole number -/
theorem pe_gint {X : Cx} {x : Str} {i : Int} {pos : Pos} (hg : Gl X x) (h : ∃ t, X.mg x = some (.int i t)) (hd : (x == ("__debug__" : Str)) = false := by decide) : PE X (.Name x pos) (tC (.int i)) := by
  obtain ⟨t, e⟩ := h
  exact pe_glob hg e ⟨t, rfl⟩ hd
/-! ### loops in a def that may raise -/
theorem passOwnU {P : Program} {w : World} {K : PySem.W.Frag} {mg : Str → Option Value} {base : Heap} {N : List Str} {x : Str} {st : Stmt} {f : Addr} {cdv : Value} {A : Around} {outer : List PySem.Env} {s : Shared} {H : Hp} {E : XK} :
    PassesOwn (model (cxD P w K mg base N x st f cdv A outer s H E).prog (cxD P w K mg base N x st f cdv A outer s H E).w) (cxD P w K mg base N x st f cdv A outer s H E).A (cxD P w K mg base N x st f cdv A outer s H E).env (cxD P w K mg base N x st f cdv A outer s H E).xe := passes_of rfl
/-! ### a list or a tuple walked -/
def iSeq (K : PySem.W.Frag) (tl : TE) : TI := fun σ H R => tl σ H fun x H1 => ∃ a, x = .ref a ∧ (((∃ xs, SqL K H1 a xs) ∧ R (Itl K a) H1) ∨ ((∃ xs, SqT K H1 a xs) ∧ R (Itt K a) H1))
theorem pi_seq {X : Cx} {tg l : Expr} {tl : TE} (hl : PE X l tl) : PI X tg l (iSeq X.K tl) := by
  refine ⟨fun pins s σ H R I h => ?_⟩
  refine thn (hl.run pins s σ H _ I h) fun v s1 ⟨x, H1, I1, r1, q1⟩ => ?_
  obtain ⟨a, e, q⟩ := q1
  subst e
  cases r1
  rcases q with ⟨hs, q⟩ | ⟨hs, q⟩
  · obtain ⟨xs, hq⟩ := hs
    obtain ⟨its, rv, p, hz⟩ := I1.list hq
    refine wpAny_pyIter_list p.isList ?_
    refine ⟨s1.heap.objs.size, [s1.heap.objs.size], _, _, H1, rfl, I1.kept (t' := s1.toks) fun b o e => Heap.get?_push_of_some _ e, turn_list a _, ⟨_, Heap.get?_push_size _ rfl, rfl, rfl⟩, fun b hb => ?_, q⟩
    rw [show b = s1.heap.objs.size by simpa using hb]
    exact I1.fpOk (Nat.le_refl _) (I1.hok.fresh (Nat.le_refl _))
  · obtain ⟨xs, hq⟩ := hs
    obtain ⟨its, rv, p, hz⟩ := I1.tuple hq
    refine wpAny_pyIter_tuple (show s1.heap.IsTuple a its.toArray from p) ?_
    refine ⟨s1.heap.objs.size, [s1.heap.objs.size], _, _, H1, rfl, I1.kept (t' := s1.toks) fun b o e => Heap.get?_push_of_some _ e, turn_tuple a _, ⟨_, Heap.get?_push_size _ rfl, rfl, rfl⟩, fun b hb => ?_, q⟩
    rw [show b = s1.heap.objs.size by simpa using hb]
    exact I1.fpOk (Nat.le_refl _) (I1.hok.fresh (Nat.le_refl _))
theorem it_list {W : Wd} {K : PySem.W.Frag} {a : Addr} {ds : List D} : ItOk W [(.ref a, .lst ds)] (Itl K a) ds := fun n Z T ρ σ H hT e i => by
  have q := e.t (.ref a, .lst ds) (hT _ List.mem_cons_self)
  cases q with
  | @lst _ ys _ hx2 hr2 ha2 =>
    have hl := ha2.len
    refine ⟨fun hi => ⟨⟨ys, ys[i]'(by omega), .of hr2, by simp [hl, hi]⟩, fun x H' ⟨eh, y⟩ => ?_⟩, fun hi => ⟨ys, .of hr2, by omega⟩⟩
    subst eh
    obtain ⟨d, h1, h2⟩ := ha2.get (y ys (.of hr2))
    exact ⟨d, h1, e.push h2⟩
theorem it_tup {W : Wd} {K : PySem.W.Frag} {a : Addr} {ds : List D} : ItOk W [(.ref a, .tup ds)] (Itt K a) ds := fun n Z T ρ σ H hT e i => by
  have q := e.t (.ref a, .tup ds) (hT _ List.mem_cons_self)
  cases q with
  | @tup _ ys _ hx2 hr2 ha2 =>
    have hl := ha2.len
    refine ⟨fun hi => ⟨⟨ys, ys[i]'(by omega), .of hr2, by simp [hl, hi]⟩, fun x H' ⟨eh, y⟩ => ?_⟩, fun hi => ⟨ys, .of hr2, by omega⟩⟩
    subst eh
    obtain ⟨d, h1, h2⟩ := ha2.get (y ys (.of hr2))
    exact ⟨d, h1, e.push h2⟩
section
variable {W : Wd} {n : Nat} {ρ : Rho} {K : PySem.W.Frag}
theorem di_seq {tl : TE} {P : Nat → List D → Prop} (h : DE tl W n ρ fun n d => ∃ ds, (d = .lst ds ∨ d = .tup ds) ∧ P n ds) : DI (iSeq K tl) W n ρ P := fun Z T σ H e Q k =>
  h Z T σ H e _ fun n v d H' ⟨ds, hd, p⟩ e' i => by
    have e1 : Env W n Z ([(v, d)] ++ T) ρ σ H' := e'.push i
    rcases hd with rfl | rfl
    · cases i with
      | @lst a xs _ hx hr ha => exact ⟨a, rfl, .inl ⟨⟨xs, .of hr⟩, k _ _ ds _ H' p e1 it_list⟩⟩
    · cases i with
      | @tup a xs _ hx hr ha => exact ⟨a, rfl, .inr ⟨⟨xs, .of hr⟩, k _ _ ds _ H' p e1 it_tup⟩⟩
theorem di_seqL {tl : TE} {P : Nat → List D → Prop} (h : DE tl W n ρ fun n d => ∃ ds, d = .lst ds ∧ P n ds) : DI (iSeq K tl) W n ρ P := di_seq (h.imp fun _ _ ⟨ds, e, p⟩ => ⟨ds, .inl e, p⟩)
theorem di_seqT {tl : TE} {P : Nat → List D → Prop} (h : DE tl W n ρ fun n d => ∃ ds, d = .tup ds ∧ P n ds) : DI (iSeq K tl) W n ρ P := di_seq (h.imp fun _ _ ⟨ds, e, p⟩ => ⟨ds, .inr e, p⟩)
end

/-! ### a dict of one pair, its key a tuple -/
def tDispT1 (tk tv : TE) : TE := fun σ H Q => ∀ p, H p = none → tk σ (upd H p (.dT [])) fun x H1 => tv σ H1 fun y H2 => H2 p = some (.dT []) ∧ ∃ (b : Addr) (k : List Key), x = .ref b ∧ H2 b = some (.tup (k.map kV)) ∧ Q (.ref p) (upd H2 p (.dT [(k, y)]))
theorem dispT_end {X : Cx} {pins : List (Addr × Obj)} {σ : L2.St} {H2 : Hp} {s2 : Shared} {p b : Addr} {k : List Key} {y : L2.V} {r : Value} {Q : VK} (hu : X.A.units < cLine) (I2 : L2.Inv X pins σ H2 s2) (e : H2 p = some (.dT [])) (eb : H2 b = some (.tup (k.map kV))) (ry : L2.RelV y r)
    (q : Q (.ref p) (upd H2 p (.dT [(k, y)]))) : wpAny (model X.prog X.w) X.A (storeAll p [(.ref b, r)]) (fun _ s' => L2.EP X pins σ Q (.ref p) s') X.xe s2 := by
  obtain ⟨z, hd, xs, rel, dd⟩ := dt_of I2.hok e
  cases rel
  unfold storeAll
  rw [List.forIn_cons]
  refine wpAny_bind (wpAny_bind (wpAny_dictSet_heap (hsz := z) (show (tupleKind (mixKind X.prog X.w)).room X.A from hu) (key_of I2.hok eb) dd fun h' dd' hs => wpAny_pure ?_))
  refine wpAny_pure ⟨.ref p, _, ?_, rfl, q⟩
  obtain ⟨q, es, ep, hq, h2, h3, h4, h0, h5⟩ := dd'
  have rr := (show KT H2 [] [] from .nil).put k eb ry
  have e1 : putK ([] : List (List Key × L2.V)) k y = [(k, y)] := rfl
  rw [e1] at rr
  refine d_write I2 (by rw [e]; exact True.intro) hs ⟨q, hq⟩ ⟨(show 1 ≤ sizeLine by rw [sizeLine_eq]; decide), hd, _, rr.keeps fun c ys ec => ?_, q, es, ep, hq, h2, h3, h4, h5⟩
  rw [upd_ne (ne_of ec e (fun z => nomatch z))]
  exact ec
theorem pe_dispT1 {X : Cx} {key value : Expr} {pos : Pos} {tk tv : TE} (hu : X.A.units + 1 < cLine) (hk : PE X key tk) (hv : PE X value tv) : PE X (.Dict [some key] [value] pos) (tDispT1 tk tv) := by
  refine ⟨fun pins s σ H Q I q => ?_⟩
  have hn := I.hok.fresh (Nat.le_refl s.heap.objs.size)
  have I1 := I.laid (a := s.heap.objs.size) (o := .dT []) (h' := s.heap.push { cls := .type "dict", data := .dict #[] }) (t' := s.toks) (fun _ _ q => Heap.get?_push_of_some _ q) (Nat.le_refl _) (dt_empty s.heap I.big)
  have tr : PPs X pos [some key] [value] [(tk, tv)] := pps_cons hk hv pps_nil
  refine wpAny_Dict_any rfl rfl (fun z => nomatch z) (show 1 ≤ 15 by decide) (thn (tr.run pins _ σ _ (fun ps H2 => match ps with
    | [(x, y)] => H2 s.heap.objs.size = some (.dT []) ∧ ∃ (b : Addr) (k : List Key), x = .ref b ∧ H2 b = some (.tup (k.map kV)) ∧ Q (.ref s.heap.objs.size) (upd H2 s.heap.objs.size (.dT [(k, y)]))
    | _ => False) I1 (q _ hn)) fun ws s2 ⟨ps, H2, I2, rel, q2⟩ => ?_)
  rcases ps with _ | ⟨⟨x, y⟩, _ | ⟨p2, ps⟩⟩
  · exact False.elim q2
  · obtain ⟨e, b, k, ex, eb, q2⟩ := q2
    cases rel with
    | @cons _ ur _ _ hxy t =>
    cases t
    obtain ⟨u, r⟩ := ur
    obtain ⟨rx, ry⟩ := hxy
    have rx : L2.RelV x u := rx
    have ry : L2.RelV y r := ry
    subst ex
    cases (show u = Value.ref b from rx)
    exact dispT_end (Nat.lt_of_succ_lt hu) I2 e eb ry q2
  · exact False.elim q2

theorem keys_all {X : AP} {H : Hp} : ∀ {ks : List Key} {xs : List L2.V}, IsAll X H xs (ks.map kD) → xs = ks.map kV
  | [], _, h => by cases h; rfl
  | k :: ks, _, h => by
    rw [List.map_cons] at h
    cases h with
    | cons h t =>
      rw [isw_kD (.inl h), keys_all t]; rfl
theorem de_dispT1 {W : Wd} {n : Nat} {ρ : Rho} {tk tv : TE} {P : Nat → D → Prop} (h : DE tk W n ρ fun n d1 => DE tv W n ρ fun n _ => (∃ ks : List Key, d1 = .tup (ks.map kD)) ∧ P n .dct) : DE (tDispT1 tk tv) W n ρ P := fun Z T σ H e Q k => fun p hp =>
  h ((p, .dT []) :: Z) T σ _ (e.lay hp) _ fun n x d1 H1 q1 e1 i1 => q1 _ ((x, d1) :: T) σ H1 (e1.push i1) _ fun n y d2 H2 ⟨⟨ks, hd⟩, pp⟩ e2 i2 => by
    subst hd
    have ix := e2.top
    cases ix with
    | @tup b xs _ hx hb ha =>
    have hk := keys_all ha
    subst hk
    have z := e2.z (p, .dT []) List.mem_cons_self
    refine ⟨z.1, b, ks, rfl, hb, ?_⟩
    have e3 := (e2.pop1).zput (o := .dT []) (o' := .dT [(ks, y)]) (fun h => h)
    exact k _ _ _ _ pp e3.zpop (.dct e3.zmv.2 upd_same)
/-! ### errors of the text's own -/
/-- an own error class without __init__, below ValueError -/
structure ExcT (K : PySem.W.Frag) (mg : Str → Option Value) (x : Str) (C : Addr) : Prop where
  gC : mg x = some (.ref C)
  xC : PySem.W.excIn K C [.type "ValueError", .type "Exception", .type "BaseException", .type "object"] "ValueError.__new__" = true
  kC : PySem.W.keepIn K (.ref C) = true
  bC : PySem.W.subIn K (.ref C) (.type "BaseException") = some true
  tC : PySem.W.typeIn K (.ref C) = some (.type "type")
theorem ExcT.mk' {X : Cx} {x m : Str} {C : Addr} {j : Nat} {p p2 pos : Pos} (T : ExcT X.K X.mg x C) (hg : Gl X x) (hdb : (x == ("__debug__" : Str)) = false := by decide) :
    PMk X (.Call (.Name x p) [.Constant (.str m) j p2] [] pos) (fun _ H Q => Q (.ref C) none H) := pmk_own PySem.F.excBase_ValueError T.xC T.gC T.kC (raises_own T.bC T.tC) hg hdb

/-! ### calls with keywords -/
/-- the values in the def's order -/
def gPerm {α : Type} (z : α) (perm : List Nat) (us ws : List α) : List α := perm.map fun i => (us ++ ws).getD i z
theorem perm_all {X : AP} {H : Hp} {vs : List L2.V} {ds : List D} (h : IsAll X H vs ds) : ∀ (perm : List Nat), IsAll X H (perm.map fun i => vs.getD i .non) (perm.map fun i => ds.getD i .non)
  | [] => .nil
  | i :: r => by
    refine .cons ?_ (perm_all h r)
    show Is X H (vs.getD i .non) (ds.getD i .non)
    rw [List.getD_eq_getElem?_getD, List.getD_eq_getElem?_getD]
    cases q : vs[i]? with
    | none =>
      have : ds[i]? = none := by rw [List.getElem?_eq_none_iff] at q ⊢; rw [← h.len]; exact q
      rw [this]; exact .non
    | some v =>
      obtain ⟨d, h1, h2⟩ := h.get q
      rw [h1]; exact h2
theorem perm_vals {vs : List L2.V} {us : List Value} (r : Vals vs us) : ∀ (perm : List Nat), Vals (perm.map fun i => vs.getD i .non) (perm.map fun i => us.getD i Value.none)
  | [] => .nil
  | i :: p => by
    refine .cons ?_ (perm_vals r p)
    show L2.RelV (vs.getD i .non) (us.getD i Value.none)
    rw [List.getD_eq_getElem?_getD, List.getD_eq_getElem?_getD]
    cases q : vs[i]? with
    | none => rw [r.none_of q]; rfl
    | some v =>
      obtain ⟨u, h1, h2⟩ := r.get q
      rw [h1]; exact h2
/-- f(e, .., k = v, ..) binds so -/
structure KwB (K : PySem.W.Frag) (fd : FuncData) (ps : List Str) (n : Nat) (ks : List Str) (perm : List Nat) : Prop where
  to : ∀ (s : Shared) (us ws : List Value), K.In s.heap → us.length = n → ws.length = ks.length → BindsTo s fd ⟨us, ks.zip ws⟩ (ps.zip (gPerm Value.none perm us ws))
def tCalK (n m : Nat) (sp : Sp) (perm : List Nat) (E : XK) (t tk : TA) : TE := fun σ H Q => t σ H fun vs H1 => tk σ H1 fun zs H2 => vs.length = n ∧ zs.length = m ∧ sp (gPerm L2.V.non perm vs zs) H2 Q E
/-- a def with a way of calling it by keywords -/
structure CalK (P : Program) (w : World) (K : PySem.W.Frag) (mg : Str → Option Value) (base : Heap) (k : Nat) (x : Str) (ps : List Str) (n : Nat) (ks : List Str) (perm : List Nat) (sp : Sp) : Prop where
  ex : ∃ (f : Addr) (fd : FuncData), FnOk P w K mg base (L2.CX P w) k f fd ps sp ∧ mg x = some (.ref f) ∧ PySem.W.keepIn K (.ref f) = true ∧ KwB K fd ps n ks perm
section
variable {X : Cx} {k n : Nat} {x : Str} {ps ks : List Str} {perm : List Nat} {sp : Sp} {E : XK} {p pos : Pos} {e : Expr} {es : List Expr} {kws : List Keyword} {t tk : TA}
theorem run_calK {f : Addr} {fd : FuncData} {pins : List (Addr × Obj)} {σ : L2.St} {H : Hp} {s : Shared} {Q : VK} {us ws : List Value} {vs zs : List L2.V} (F : FnOk X.prog X.w X.K X.mg X.base (L2.CX X.prog X.w) k f fd ps sp) (hr : Room k X.A) (hb : KwB X.K fd ps n ks perm) (hx : Passes (L2.CX X.prog X.w) X E)
    (I : L2.Inv X pins σ H s) (r : Vals vs us) (rz : Vals zs ws) (h1 : vs.length = n) (h2 : zs.length = ks.length) (h : sp (gPerm L2.V.non perm vs zs) H Q E) : wpAny (model X.prog X.w) X.A (call (.ref f) us (ks.zip ws)) (EP X pins σ Q) X.xe s := by
  have rr : Vals (gPerm L2.V.non perm vs zs) (gPerm Value.none perm us ws) := perm_vals (r.append rz) perm
  refine wpAny_call (codeAny_mono (F.run X.A X.stack s H ⟨us, ks.zip ws⟩ _ _ Q E hr I.env0 (hb.to s us ws I.kIn (by rw [← r.length]; exact h1) (by rw [← rz.length]; exact h2)) rr h) fun o s' hq => ?_)
  cases o with
  | error e => exact hx pins σ H s e s' I hq
  | ok fl =>
    cases fl with
    | ret u => exact I.after hq
    | next => exact False.elim hq
    | brk => exact False.elim hq
    | cont => exact False.elim hq
theorem pe_calK (C : CalK X.prog X.w X.K X.mg X.base k x ps n ks perm sp) (hr : Room k X.A) (hx : Passes (L2.CX X.prog X.w) X E) (hg : Gl X x) (ha : PA X (e :: es) t) (hkw : PK X kws tk)
    (hall : (backToKw pos (keywordEach kws X.env)).all (·.1.isSome) = true := by rfl) (hks : (backToKw pos (keywordEach kws X.env)).filterMap (·.1) = ks := by rfl) (hdb : (x == ("__debug__" : Str)) = false := by decide)
    (he : starEach (e :: es) X.env = (false, eval e X.env) :: starEach es X.env := by rfl) (hpl : ((backTo pos (starEach (e :: es) X.env)).any (·.1) || (backToKw pos (keywordEach kws X.env)).any (·.1.isNone)) = false := by rfl) :
    PE X (.Call (.Name x p) (e :: es) kws pos) (tCalK n ks.length sp perm E t tk) := by
  obtain ⟨f, fd, F, hm, hk, hb⟩ := C.ex
  refine ⟨fun pins s σ H Q I h => wpAny_Call_Name_kw (ld_glob I hg hm ?_ hdb)⟩
  refine PySem.W.callWith_KW (h₀ := X.base) I.ok.mod.kin hk hall (thn (ha.run pos pins s σ H _ I h) fun us s1 ⟨vs, H1, I1, r, q⟩ => ?_) hpl he
  refine thn (hkw.run pos pins s1 σ H1 _ I1 q) fun ws s2 ⟨zs, H2, I2, rz, l1, l2, q2⟩ => ⟨I2.kIn, ?_⟩
  rw [hks]
  exact run_calK F hr hb hx I2 r rz l1 l2 q2
theorem pe_calK0 (C : CalK X.prog X.w X.K X.mg X.base k x ps 0 ks perm sp) (hr : Room k X.A) (hx : Passes (L2.CX X.prog X.w) X E) (hg : Gl X x) (hkw : PK X kws tk)
    (hall : (backToKw pos (keywordEach kws X.env)).all (·.1.isSome) = true := by rfl) (hks : (backToKw pos (keywordEach kws X.env)).filterMap (·.1) = ks := by rfl) (hdb : (x == ("__debug__" : Str)) = false := by decide)
    (hpl : ((backTo pos (starEach [] X.env)).any (·.1) || (backToKw pos (keywordEach kws X.env)).any (·.1.isNone)) = false := by rfl) :
    PE X (.Call (.Name x p) [] kws pos) (tCalK 0 ks.length sp perm E tNil tk) := by
  obtain ⟨f, fd, F, hm, hk, hb⟩ := C.ex
  refine ⟨fun pins s σ H Q I h => wpAny_Call_Name_kw (ld_glob I hg hm ?_ hdb)⟩
  refine PySem.W.callWith_KW0 (h₀ := X.base) I.ok.mod.kin hk hall ?_ hpl
  refine thn (hkw.run pos pins s σ H _ I h) fun ws s2 ⟨zs, H2, I2, rz, l1, l2, q2⟩ => ⟨I2.kIn, ?_⟩
  rw [hks]
  exact run_calK (us := []) (vs := []) F hr hb hx I2 .nil rz rfl l2 q2
end
/-- a def called with keywords -/
theorem Cal.kw {P : Program} {w : World} {K : PySem.W.Frag} {mg : Str → Option Value} {base : Heap} {k : Nat} {x : Str} {st : Stmt} {ps : List Str} {sp : Sp} (C : Cal P w K mg base k x st ps sp) (n : Nat) (ks : List Str) (perm : List Nat)
    (h : ∀ (kV doc pm : Value) (an : Option Addr) (cdv ct : Value) (us ws : List Value), us.length = n → ws.length = ks.length → bindArgs (PySem.W.fnOf x x (defArgs st) (defBody st) (defScope st) .none kV doc pm an cdv ct) ⟨us, ks.zip ws⟩ = pure (ps.zip (gPerm Value.none perm us ws))) : CalK P w K mg base k x ps n ks perm sp := by
  obtain ⟨f, fd, F, hm, hk, hb, hF⟩ := C.ex
  obtain ⟨oc, od, kV, doc, pm, an, cdv, ct, osl, rfl, lk, _⟩ := hF.ex
  exact ⟨f, _, F, hm, hk, ⟨fun s us ws _ h1 h2 => .of_eq (h kV doc pm an cdv ct us ws h1 h2)⟩⟩
section
variable {W : Wd} {n : Nat} {ρ : Rho} {q m : Nat} {V : AP} {G : Nat → Hp → Prop} {κ : Nat → Nat → Nat} {pre : Nat → List D → Prop} {post : Nat → List D → Nat → Out → Prop} {E : XK} {P : Nat → D → Prop} {tas tks : TA} {perm : List Nat}
theorem de_calK (F : Fit V G κ W) (hE : W.E = E) (h : DA tas W n ρ fun n ds => DA tks W n ρ fun n es => ds.length = q ∧ es.length = m ∧ pre n (gPerm D.non perm ds es) ∧ (∀ n' C ns l, post n (gPerm D.non perm ds es) n' (.exc C ns l) → W.EP (κ n n') C ns l) ∧ ∀ n' b d, post n (gPerm D.non perm ds es) n' (.ret b d) → P (κ n n') d) :
    DE (tCalK q m (Prm perm.length V G pre post) perm E tas tks) W n ρ P := fun Z T σ H e Q k =>
  h Z T σ H e _ fun n vs ds H1 p e1 i1 => p Z (zipT vs ds ++ T) σ H1 (e1.pushAll i1) _ fun n zs es H2 ⟨h1, h2, hp, hx, hq⟩ e2 i2 =>
    ⟨by rw [i1.len]; exact h1, by rw [i2.len]; exact h2, call_prm F e2.popAll (perm_all ((e2.topAll i1.len).append i2) perm) (by simp [gPerm]) hp (fun n' => hq n' false) (fun n' => hq n' true) k (exc_out F hE e2.popAll hx)⟩
end
end HD

namespace HD
open PySem PySem.Spec PyProof.Rows L2
/-! ### what a def gives, by a function -/
abbrev PD (m : Nat) (pre : List D → Prop) (f : List D → Out) : Sp := Prm m V0 G0 (fun _ ds => pre ds) (fun _ ds _ o => o = f ds)
/-- a def that may use up to c turns of what G counts, and raises nothing -/
abbrev PL (m : Nat) (V : AP) (G : Nat → Hp → Prop) (c : Nat) (pre : List D → Prop) (R : List D → Bool → D → Prop) : Sp := Prm m V G (fun n ds => c ≤ n ∧ pre ds) (fun n ds n' o => n ≤ n' + c ∧ ∃ b d, o = .ret b d ∧ R ds b d)
def is_int : D → Bool
  | .int _ => true
  | .bl _ => true
  | _ => false
def is_bool : D → Bool
  | .bl _ => true
  | _ => false
def is_tuple : D → Bool
  | .tup _ => true
  | _ => false
def is_list : D → Bool
  | .lst _ => true
  | _ => false
def is_str : D → Bool
  | .str _ => true
  | _ => false
def is_dict : D → Bool
  | .dic _ _ => true
  | .dct => true
  | _ => false
section
variable {W : Wd} {n : Nat} {Z : ZL} {T : TL} {ρ : Rho} {σ : L2.St} {H : Hp} {P : Nat → D → Prop} {K : PySem.W.Frag} {d d1 d2 : D} {q m c : Nat} {V : AP} {G : Nat → Hp → Prop} {pre : List D → Prop} {f : List D → Out} {E : XK} {tas tks : TA} {perm : List Nat}
theorem de_det (h : DA tas W n ρ fun n ds => ds.length = m ∧ pre ds ∧ ∃ b d, f ds = .ret b d ∧ P n d) : DE (tCall (PD m pre f) [] E tas) W n ρ P :=
  de_call fit0 (h.imp fun n ds ⟨h1, h2, b, d, h3, h4⟩ => ⟨h1, h2, fun _ C ns l q => (by rw [h3] at q; cases q), fun _ b' d' q => by rw [h3] at q; cases q; exact h4⟩)
theorem df_det (h : DA tas W n ρ fun n ds => ds.length = m ∧ pre ds ∧ ∃ d, f ds = .ret true d ∧ P n d) : DF (tCall (PD m pre f) [] E tas) W n ρ P :=
  df_call fit0 (h.imp fun n ds ⟨h1, h2, d, h3, h4⟩ => ⟨h1, h2, fun _ C ns l q => (by rw [h3] at q; cases q), fun _ d' q => (by rw [h3] at q; cases q), fun _ d' q => by rw [h3] at q; cases q; exact h4⟩)
/-- what comes out: a value or an error that the caller lets out -/
def Outs (EP : Addr → List Str → List D → Prop) (P : D → Prop) : Out → Prop
  | .ret _ d => P d
  | .exc C ns l => EP C ns l
theorem de_detE (hE : W.E = E) (h : DA tas W n ρ fun n ds => ds.length = m ∧ pre ds ∧ Outs (W.EP n) (P n) (f ds)) : DE (tCall (PD m pre f) [] E tas) W n ρ P :=
  de_callE fit0 hE (h.imp fun n ds ⟨h1, h2, h3⟩ => ⟨h1, h2, fun _ C ns l q => by rw [← q] at h3; exact h3, fun _ b d q => by rw [← q] at h3; exact h3⟩)
theorem df_detE (hE : W.E = E) (h : DA tas W n ρ fun n ds => ds.length = m ∧ pre ds ∧ (∀ d, f ds ≠ .ret false d) ∧ Outs (W.EP n) (P n) (f ds)) : DF (tCall (PD m pre f) [] E tas) W n ρ P :=
  df_callE fit0 hE (h.imp fun n ds ⟨h1, h2, h0, h3⟩ => ⟨h1, h2, fun _ C ns l q => by rw [← q] at h3; exact h3, fun _ d q => h0 d q.symm, fun _ d q => by rw [← q] at h3; exact h3⟩)
theorem de_detK (hE : W.E = E) (h : DA tas W n ρ fun n ds => DA tks W n ρ fun n es => ds.length = q ∧ es.length = m ∧ pre (gPerm D.non perm ds es) ∧ Outs (W.EP n) (P n) (f (gPerm D.non perm ds es))) : DE (tCalK q m (PD perm.length pre f) perm E tas tks) W n ρ P :=
  de_calK fit0 hE (h.imp fun n ds h => h.imp fun n es ⟨h1, h2, h3, h4⟩ => ⟨h1, h2, h3, fun _ C ns l q => by rw [← q] at h4; exact h4, fun _ b d q => by rw [← q] at h4; exact h4⟩)
theorem de_law {R : List D → Bool → D → Prop} (F : Fit V G (fun _ n' => n') W) (h : DA tas W n ρ fun n ds => ds.length = m ∧ c ≤ n ∧ pre ds ∧ ∀ n' b d, n ≤ n' + c → R ds b d → P n' d) : DE (tCall (PL m V G c pre R) [] E tas) W n ρ P :=
  de_call F (h.imp fun n ds ⟨h1, h2, h3, h4⟩ => ⟨h1, ⟨h2, h3⟩, fun n' C ns l ⟨_, b, d, q, _⟩ => (by cases q), fun n' b' d' ⟨h5, b, d, q, r⟩ => by cases q; exact h4 n' b' d' h5 r⟩)
theorem df_law {R : List D → Bool → D → Prop} (F : Fit V G (fun _ n' => n') W) (h : DA tas W n ρ fun n ds => ds.length = m ∧ c ≤ n ∧ pre ds ∧ (∀ d, ¬ R ds false d) ∧ ∀ n' d, n ≤ n' + c → R ds true d → P n' d) : DF (tCall (PL m V G c pre R) [] E tas) W n ρ P :=
  df_call F (h.imp fun n ds ⟨h1, h2, h3, h0, h4⟩ => ⟨h1, ⟨h2, h3⟩, fun n' C ns l ⟨_, b, d, q, _⟩ => (by cases q), fun n' d' ⟨h5, b, d, q, r⟩ => (by cases q; exact h0 _ r), fun n' d' ⟨h5, b, d, q, r⟩ => by cases q; exact h4 n' d' h5 r⟩)
/-! ### isinstance of data and of kept errors -/
def rIsX0 (K : PySem.W.Frag) : List L2.V → Hp → VK → Prop := fun xs H Q => ∃ (a Dc : Addr) (c : L2.V) (cv : Value) (b : Bool), xs = [.ref a, c] ∧ H a = some (excH a Dc none) ∧ ExcC K Dc ∧ (∀ u, RelV c u → u = cv) ∧ PySem.W.kitOne K (.ref Dc) cv = some b ∧ Q (.bl b) H
def rIsiU (K : PySem.W.Frag) : List L2.V → Hp → VK → Prop := fun xs H Q => rIsi K xs H Q ∨ rIsX0 K xs H Q
theorem call_isiU {X : Cx} : CallR X (.builtin "isinstance") (rIsiU X.K) := call_isi.or call_isX0
theorem dc_orl {r r' : List L2.V → Hp → VK → Prop} {ds : List D} (h : DC r W n ρ ds P) : DC (fun xs H Q => r xs H Q ∨ r' xs H Q) W n ρ ds P := fun Z T σ H vs e i Q k => .inl (h Z T σ H vs e i Q k)
theorem u_isi {m c : String} {b : Bool} (e : d.tn = some m) (hb : kitB m c = some b) (p : P n (.bl b)) : DC (rIsiU K) W n ρ [d, .ty c] P := dc_orl (b_isi e hb p)
theorem u_is_int (hd : d.tn.isSome = true) (p : P n (.bl (is_int d))) : DC (rIsiU K) W n ρ [d, .ty "int"] P := by
  cases d <;> first | exact absurd hd Bool.false_ne_true | exact u_isi (b := true) rfl (by decide +kernel) p | exact u_isi (b := false) rfl (by decide +kernel) p
theorem u_is_bool (hd : d.tn.isSome = true) (p : P n (.bl (is_bool d))) : DC (rIsiU K) W n ρ [d, .ty "bool"] P := by
  cases d <;> first | exact absurd hd Bool.false_ne_true | exact u_isi (b := true) rfl (by decide +kernel) p | exact u_isi (b := false) rfl (by decide +kernel) p
theorem u_is_tuple (hd : d.tn.isSome = true) (p : P n (.bl (is_tuple d))) : DC (rIsiU K) W n ρ [d, .ty "tuple"] P := by
  cases d <;> first | exact absurd hd Bool.false_ne_true | exact u_isi (b := true) rfl (by decide +kernel) p | exact u_isi (b := false) rfl (by decide +kernel) p
theorem u_is_list (hd : d.tn.isSome = true) (p : P n (.bl (is_list d))) : DC (rIsiU K) W n ρ [d, .ty "list"] P := by
  cases d <;> first | exact absurd hd Bool.false_ne_true | exact u_isi (b := true) rfl (by decide +kernel) p | exact u_isi (b := false) rfl (by decide +kernel) p
theorem u_is_str (hd : d.tn.isSome = true) (p : P n (.bl (is_str d))) : DC (rIsiU K) W n ρ [d, .ty "str"] P := by
  cases d <;> first | exact absurd hd Bool.false_ne_true | exact u_isi (b := true) rfl (by decide +kernel) p | exact u_isi (b := false) rfl (by decide +kernel) p
theorem u_is_dict (hd : d.tn.isSome = true) (p : P n (.bl (is_dict d))) : DC (rIsiU K) W n ρ [d, .ty "dict"] P := by
  cases d <;> first | exact absurd hd Bool.false_ne_true | exact u_isi (b := true) rfl (by decide +kernel) p | exact u_isi (b := false) rfl (by decide +kernel) p
theorem u_is_lt (hd : d.tn.isSome = true) (p : P n (.bl (is_list d || is_tuple d))) : DC (rIsiT K) W n ρ [d, .tup [.ty "list", .ty "tuple"]] P := by
  cases d <;> first | exact absurd hd Bool.false_ne_true | exact b_isiT2 (b1 := true) (b2 := true) rfl (by decide +kernel) (by decide +kernel) p | exact b_isiT2 (b1 := true) (b2 := false) rfl (by decide +kernel) (by decide +kernel) p | exact b_isiT2 (b1 := false) (b2 := true) rfl (by decide +kernel) (by decide +kernel) p | exact b_isiT2 (b1 := false) (b2 := false) rfl (by decide +kernel) (by decide +kernel) p
theorem u_isiC {m : String} {C : Addr} {b : Bool} (e : d.tn = some m) (hb : PySem.W.kitOne K (.type m) (.ref C) = some b) (p : P n (.bl b)) : DC (rIsiU K) W n ρ [d, .raw C] P := dc_orl (b_isiC e hb p)
theorem u_isiI {C : Addr} {ns : List Str} {l : List D} {c : D} {cv : Value} {b : Bool} (I : InsK K C) (hc : (∃ m, c = .ty m ∧ cv = .type m) ∨ ∃ D, c = .raw D ∧ cv = .ref D) (hb : PySem.W.kitOne K (.ref C) cv = some b) (p : P n (.bl b)) : DC (rIsiU K) W n ρ [.ins C ns l, c] P := dc_orl (b_isiI I hc hb p)
theorem u_isiX {C Dd : Addr} {b : Bool} (I : ExcC K C) (hb : PySem.W.kitOne K (.ref C) (.ref Dd) = some b) (p : P n (.bl b)) : DC (rIsiU K) W n ρ [.exc C [] [], .raw Dd] P := fun Z T σ H vs ev ia Q k => by
  obtain ⟨v1, v2, rfl, i1, i2⟩ := ws2 ia
  cases isw_raw i2
  rcases i1 with i1 | ⟨_, _, _, _, i1⟩
  · cases i1 with
    | exc0 hx ha => exact .inr ⟨_, C, .ref Dd, .ref Dd, b, rfl, ha, I, fun u r => r, hb, k _ _ _ H p ev (.bl _)⟩
    | exc hne => exact absurd rfl hne
  · cases i1
/-! ### known answers -/
theorem bT {A B : Prop} (h : A) : (true = true → A) ∧ (true = false → B) := ⟨fun _ => h, (fun z => nomatch z)⟩
theorem bF {A B : Prop} (h : B) : (false = true → A) ∧ (false = false → B) := ⟨(fun z => nomatch z), fun _ => h⟩
/-! ### equality of plain things -/
theorem r_eqI {i j : Int} (p : P n (.bl (decide (i = j)))) : DR (rEqD K) W n ρ (.int i) (.int j) P := dr_eq rfl rfl rfl rfl (by
  have : PyData.eqv (.int i) (.int j) = decide (i = j) := by
    show (i == j) = _
    exact Bool.beq_eq_decide_eq i j
  rw [this]; exact p)
theorem r_neI {i j : Int} (p : P n (.bl (!decide (i = j)))) : DR (rNeD K) W n ρ (.int i) (.int j) P := dr_ne rfl rfl rfl rfl (by
  have : PyData.eqv (.int i) (.int j) = decide (i = j) := by
    show (i == j) = _
    exact Bool.beq_eq_decide_eq i j
  rw [this]; exact p)
end
end HD

namespace HD
open PySem PySem.Spec PyProof.Rows L2
theorem szl {n : Nat} (h : n ≤ 100000) : n ≤ sizeLine := Nat.le_trans h (by decide)
theorem szlt {n : Nat} (h : n < 100000) : n < sizeLine := Nat.lt_of_lt_of_le h (by decide)
theorem in_self {S : List Nat} : ∀ i, i ∈ S → i ∈ S := fun _ h => h
/-! ### comprehensions by a function, by a relation -/
def noOwnB (ρ : Rho) (vs : List Nat) : Bool := vs.all fun i => match ρ[i]? with
  | some (some (true, _)) => false
  | _ => true
theorem noOwn_by {ρ : Rho} {vs : List Nat} (h : noOwnB ρ vs = true) : NoOwn ρ vs := fun i d hi q => by
  have := List.all_eq_true.mp h i hi
  rw [q] at this
  cases this
/-- item by item -/
inductive Each (R : D → D → Prop) : List D → List D → Prop
  | nil : Each R [] []
  | cons {d y : D} {ds ys : List D} : R d y → Each R ds ys → Each R (d :: ds) (y :: ys)
theorem Each.snoc {R : D → D → Prop} {d y : D} : ∀ {ds ys : List D}, Each R ds ys → R d y → Each R (ds ++ [d]) (ys ++ [y])
  | _, _, .nil, r => .cons r .nil
  | _, _, .cons h t, r => .cons h (t.snoc r)
theorem Each.len {R : D → D → Prop} : ∀ {ds ys : List D}, Each R ds ys → ys.length = ds.length
  | _, _, .nil => rfl
  | _, _, .cons _ t => by rw [List.length_cons, List.length_cons, t.len]
theorem Each.map {R : D → D → Prop} {f : D → D} (hf : ∀ d y, R d y → y = f d) : ∀ {ds ys : List D}, Each R ds ys → ys = ds.map f
  | _, _, .nil => rfl
  | _, _, .cons h t => by rw [List.map_cons, hf _ _ h, t.map hf]
theorem take_snoc {α : Type} : ∀ {l : List α} {i : Nat} {x : α}, l[i]? = some x → l.take (i + 1) = l.take i ++ [x]
  | [], i, x, h => by simp at h
  | a :: l, 0, x, h => by
    have e : a = x := Option.some.inj h
    subst e
    simp
  | a :: l, i + 1, x, h => by
    have ih := take_snoc (l := l) (i := i) (x := x) h
    rw [List.take_succ_cons, List.take_succ_cons, ih]
    rfl
section
variable {W : Wd} {n : Nat} {ρ : Rho} {K : PySem.W.Frag} {P : Nat → D → Prop} {wi : TI} {g : TG} {S vs : List Nat} {tt : TT} {te : TE}
theorem df_lc_cost (c : Nat) (R : D → D → Prop) (hno : NoOwn ρ vs) (h : DI wi W n ρ fun n ds => ds.length ≤ sizeLine ∧ c * ds.length ≤ n ∧ (∀ n' d, d ∈ ds → c ≤ n' → DG g S d W (wipeR ρ vs) fun ρ2 => DE te W n' ρ2 fun n'' y => n' ≤ n'' + c ∧ R d y) ∧ ∀ n' ys, n ≤ n' + c * ds.length → Each R ds ys → P n' (.lst ys))
    (hS : ∀ i, i ∈ S → i ∈ vs) : DF (tLc wi g tYes te vs) W n ρ P :=
  df_lc hno hS fun Z T σ H e Q k => h Z T σ H e Q fun n J ds T0 H' ⟨h1, hc, h2, h3⟩ e' ok => k n J ds T0 H' ⟨fun i n' acc => i ≤ ds.length ∧ n ≤ n' + c * i ∧ Each R (ds.take i) acc, ⟨Nat.zero_le _, by omega, .nil⟩, fun i n' d acc hd ⟨_, hm, hI⟩ m Z T σ H v e i0 Q k2 => by
    have hi : i < ds.length := (List.getElem?_eq_some_iff.mp hd).1
    have hcc : c * (i + 1) ≤ c * ds.length := Nat.mul_le_mul_left c hi
    rw [Nat.mul_succ] at hcc
    exact h2 n' d (List.mem_of_getElem? hd) (by omega) m Z T σ H v e i0 Q fun ρ' σ' p e2 ag =>
      k2 ρ' σ' (dt_yes ⟨fun _ => p.imp fun n'' y ⟨hq, r⟩ => by
        have l := hI.len
        rw [List.length_take] at l
        refine ⟨by omega, hi, by rw [Nat.mul_succ]; omega, ?_⟩
        rw [take_snoc hd]
        exact hI.snoc r, fun z => nomatch z⟩) e2 ag, fun n' acc ⟨_, hm, hI⟩ => h3 n' acc hm (by rw [List.take_length] at hI; exact hI)⟩ e' ok
theorem df_lc_each (R : D → D → Prop) (hno : NoOwn ρ vs) (h : DI wi W n ρ fun _ ds => ds.length ≤ sizeLine ∧ (∀ n d, d ∈ ds → DG g S d W (wipeR ρ vs) fun ρ2 => DE te W n ρ2 fun _ y => R d y) ∧ ∀ n ys, Each R ds ys → P n (.lst ys))
    (hS : ∀ i, i ∈ S → i ∈ vs) : DF (tLc wi g tYes te vs) W n ρ P :=
  df_lc hno hS fun Z T σ H e Q k => h Z T σ H e Q fun n J ds T0 H' ⟨h1, h2, h3⟩ e' ok => k n J ds T0 H' ⟨fun i _ acc => i ≤ ds.length ∧ Each R (ds.take i) acc, ⟨Nat.zero_le _, .nil⟩, fun i n d acc hd ⟨_, hI⟩ m Z T σ H v e i0 Q k2 => h2 n d (List.mem_of_getElem? hd) m Z T σ H v e i0 Q fun ρ' σ' p e2 ag =>
      k2 ρ' σ' (dt_yes ⟨fun _ => p.imp fun _ y r => by
        have hi : i < ds.length := (List.getElem?_eq_some_iff.mp hd).1
        have l := hI.len
        rw [List.length_take] at l
        refine ⟨by omega, hi, ?_⟩
        rw [take_snoc hd]
        exact hI.snoc r, fun z => nomatch z⟩) e2 ag, fun _ acc ⟨_, hI⟩ => h3 _ acc (by rw [List.take_length] at hI; exact hI)⟩ e' ok
theorem df_lc_map (f : D → D) (hno : NoOwn ρ vs) (h : DI wi W n ρ fun n ds => ds.length ≤ sizeLine ∧ (∀ n d, d ∈ ds → DG g S d W (wipeR ρ vs) fun ρ2 => DE te W n ρ2 fun n y => y = f d) ∧ ∀ n, P n (.lst (ds.map f))) (hS : ∀ i, i ∈ S → i ∈ vs) : DF (tLc wi g tYes te vs) W n ρ P :=
  df_lc_each (fun d y => y = f d) hno (fun Z T σ H e Q k => h Z T σ H e Q fun n J ds T0 H' ⟨h1, h2, h3⟩ e' ok => k n J ds T0 H' ⟨h1, h2, fun n ys q => by rw [q.map fun _ _ h => h]; exact h3 n⟩ e' ok) hS
/-- with a test -/
theorem df_lc_filter (p : D → Bool) (f : D → D) (hno : NoOwn ρ vs) (h : DI wi W n ρ fun n ds => ds.length ≤ sizeLine ∧ (∀ n d, d ∈ ds → DG g S d W (wipeR ρ vs) fun ρ2 => DT tt W n ρ2 fun n b => b = p d ∧ (b = true → DE te W n ρ2 fun n y => y = f d)) ∧ ∀ n, P n (.lst ((ds.filter p).map f)))
    (hS : ∀ i, i ∈ S → i ∈ vs) : DF (tLc wi g tt te vs) W n ρ P :=
  df_lc hno hS fun Z T σ H e Q k => h Z T σ H e Q fun n J ds T0 H' ⟨h1, h2, h3⟩ e' ok => k n J ds T0 H' ⟨fun i _ acc => i ≤ ds.length ∧ acc = ((ds.take i).filter p).map f, ⟨Nat.zero_le _, rfl⟩, fun i n d acc hd ⟨_, hI⟩ m Z T σ H v e i0 Q k2 => h2 n d (List.mem_of_getElem? hd) m Z T σ H v e i0 Q fun ρ' σ' q e2 ag =>
      k2 ρ' σ' (q.imp fun _ b ⟨hb, hq⟩ => by
        have hi : i < ds.length := (List.getElem?_eq_some_iff.mp hd).1
        subst hI
        have hl : (((ds.take i).filter p).map f).length ≤ i := by
          rw [List.length_map]
          exact Nat.le_trans (List.length_filter_le _ _) (by rw [List.length_take]; omega)
        refine ⟨fun hb' => (hq hb').imp fun _ y r => ⟨by omega, hi, ?_⟩, fun hb' => ⟨hi, ?_⟩⟩
        · rw [take_snoc hd, List.filter_append, List.map_append, r]
          have : p d = true := by rw [← hb]; exact hb'
          simp [this]
        · rw [take_snoc hd, List.filter_append, List.map_append]
          have : p d = false := by rw [← hb]; exact hb'
          simp [this]) e2 ag, fun _ acc ⟨_, hI⟩ => by
        rw [List.take_length] at hI
        subst hI
        exact h3 _⟩ e' ok
theorem b_allM {ds : List D} {g : D → Bool} (p : P n (.bl (ds.all g))) : DC (rAll K) W n ρ [.lst (ds.map fun d => .bl (g d))] P := by
  have e : (ds.map fun d => D.bl (g d)) = (ds.map g).map D.bl := by rw [List.map_map]; rfl
  rw [e]
  refine b_all ?_
  rw [List.all_map]
  exact p
theorem b_anyM {ds : List D} {g : D → Bool} (p : P n (.bl (ds.any g))) : DC (rAny K) W n ρ [.lst (ds.map fun d => .bl (g d))] P := by
  have e : (ds.map fun d => D.bl (g d)) = (ds.map g).map D.bl := by rw [List.map_map]; rfl
  rw [e]
  refine b_any ?_
  rw [List.any_map]
  exact p
end
end HD
namespace HD
open PySem PySem.Spec PyProof.Rows L2
section
variable {W : Wd} {n : Nat} {ρ : Rho} {N : Nat → Rho → Prop} {R : Nat → Bool → D → Prop} {B C : Nat → Rho → Prop} {E : XK}
theorem ds_raise' {cls : Addr} (hE : W.E = E) (h : W.EP n cls [] []) : DS (fun _ _ H => E (.ref cls) none H) W n ρ N R B C := ds_raise h hE
end
/-! ### sizes of whole numbers -/
theorem fdiv_le {x s : Int} (h : 0 < s) : (x.fdiv s).natAbs ≤ x.natAbs := by
  rw [Int.fdiv_eq_ediv_of_nonneg _ (Int.le_of_lt h)]
  have h1 := Int.mul_ediv_add_emod x s
  have h2 := Int.emod_nonneg x (Int.ne_of_gt h)
  have h3 := Int.emod_lt_of_pos x h
  rcases Int.lt_or_le x 0 with hx | hx
  · have h4 : x / s < 0 := Int.ediv_neg_of_neg_of_pos hx h
    have h5 : x ≤ x / s := by
      have := Int.mul_le_mul_of_nonneg_left (show x / s + 1 ≤ 0 by omega) (show 0 ≤ s - 1 by omega)
      rw [Int.mul_zero, Int.sub_mul, Int.mul_add, Int.one_mul, Int.mul_one] at this
      omega
    omega
  · have h4 : 0 ≤ x / s := Int.ediv_nonneg hx (Int.le_of_lt h)
    have h5 : x / s ≤ x := Int.ediv_le_self _ hx
    omega
theorem c_div {i j : Int} {b : Nat} (h : 0 < j) (hb : j.natAbs < 2 ^ b) (h0 : 0 < b := by decide) (h9 : b ≤ 9000 := by decide) : CDivN i j ∨ CDivW i j := .inr (wide_div h hb h0 h9)
theorem c_mul {i j : Int} {a b : Nat} (ha : i.natAbs < 2 ^ a) (hb : j.natAbs < 2 ^ b) (h0 : 0 < a := by decide) (h1 : 0 < b := by decide) (h : a + b ≤ 1000000 := by decide) : CMul i j ∨ CMulW i j := .inr (wide_mul ha hb h0 h1 h)
theorem c_small {i j : Int} (h : -(2 ^ 64) < j ∧ j < 2 ^ 64) : CMul i j ∨ CMulW i j := .inl (.inr h)
theorem c_smallL {i j : Int} (h : -(2 ^ 64) < i ∧ i < 2 ^ 64) : CMul i j ∨ CMulW i j := .inl (.inl h)
theorem c_divN {i j : Int} (h : j ≠ 0) (hb : j.natAbs < 1073741824) : CDivN i j ∨ CDivW i j := .inl ⟨h, hb⟩
theorem pow_lt {i : Int} {a b : Nat} (h : i.natAbs < 2 ^ a) (hab : a ≤ b) : i.natAbs < 2 ^ b := Nat.lt_of_lt_of_le h (Nat.pow_le_pow_right (by decide) hab)
theorem sub_lt {i j : Int} {a : Nat} (h1 : i.natAbs < 2 ^ a) (h2 : j.natAbs < 2 ^ a) : (i - j).natAbs < 2 ^ (a + 1) := by
  rw [Nat.pow_succ]; omega
end HD

namespace HD
open PySem PySem.Spec PyProof.Rows L2

/-! ### the state of a law's draws -/
def stK (g c : Addr) (left turn : Int) : List (Key × L2.V) := [(.inr "great", .ref g), (.inr "cells", .ref c), (.inr "left", .int left), (.inr "turn", .int turn)]
section
variable {g c : Addr} {l t l' t' : Int}
theorem ks_ne {a b : Str} (h : a ≠ b) : ¬ (Sum.inr a : Key) = .inr b := fun z => h (Sum.inr.inj z)
theorem st_great : valV (stK g c l t) (.inr "great") = some (.ref g) := valV_pos rfl
theorem st_cells : valV (stK g c l t) (.inr "cells") = some (.ref c) := (valV_neg (ks_ne (by decide))).trans (valV_pos rfl)
theorem st_left : valV (stK g c l t) (.inr "left") = some (.int l) := (valV_neg (ks_ne (by decide))).trans ((valV_neg (ks_ne (by decide))).trans (valV_pos rfl))
theorem st_turn : valV (stK g c l t) (.inr "turn") = some (.int t) := (valV_neg (ks_ne (by decide))).trans ((valV_neg (ks_ne (by decide))).trans ((valV_neg (ks_ne (by decide))).trans (valV_pos rfl)))
theorem put_left : putK (stK g c l t) (.inr "left") (.int l') = stK g c l' t := by
  have h1 : ¬ (Sum.inr "great" : Key) = .inr "left" := by decide
  have h2 : ¬ (Sum.inr "cells" : Key) = .inr "left" := by decide
  have h3 : ¬ (Sum.inr "turn" : Key) = .inr "left" := by decide
  unfold putK stK
  simp [h1, h2, h3]
theorem put_turn : putK (stK g c l t) (.inr "turn") (.int t') = stK g c l t' := by
  have h1 : ¬ (Sum.inr "great" : Key) = .inr "turn" := by decide
  have h2 : ¬ (Sum.inr "cells" : Key) = .inr "turn" := by decide
  have h3 : ¬ (Sum.inr "left" : Key) = .inr "turn" := by decide
  unfold putK stK
  simp [h1, h2, h3]
end
/-- the script's list: tracked, or never changed -/
def Scr (K : PySem.W.Frag) (tr : Prop) (H : Hp) (a : Addr) (xs : List L2.V) : Prop := (tr ∧ H a = some (.lst xs)) ∨ (¬ tr ∧ ((∃ o, H a = some (.frz o (.lst xs))) ∨ ∀ H' : Hp, SqL K H' a xs))
theorem Scr.sq {K : PySem.W.Frag} {tr : Prop} {H : Hp} {a : Addr} {xs : List L2.V} (h : Scr K tr H a xs) : SqL K H a xs := by
  rcases h with ⟨_, h⟩ | ⟨_, ⟨o, h⟩ | h⟩
  · exact .inl (.inl h)
  · exact .inl (.inr ⟨o, h⟩)
  · exact h H
theorem scr_of {K : PySem.W.Frag} {H : Hp} {a : Addr} {xs : List L2.V} (h : SqL K H a xs) : ∃ tr, Scr K tr H a xs := by
  rcases h with (h | ⟨o, h⟩) | h
  · exact ⟨True, .inl ⟨True.intro, h⟩⟩
  · exact ⟨False, .inr ⟨id, .inl ⟨o, h⟩⟩⟩
  · exact ⟨False, .inr ⟨id, .inr fun _ => .inr h⟩⟩
/-- a law's script, its state, its tables -/
structure LP (K : PySem.W.Frag) (Tt : List (Addr × Str)) where
  s : Addr
  g : Addr
  c : Addr
  a : Addr
  cells : List Int
  xs : List L2.V
  tr : Prop
def LP.V {K : PySem.W.Frag} {Tt : List (Addr × Str)} (L : LP K Tt) : AP := fun b => b = L.s ∨ b = L.g ∨ b = L.c ∨ (L.tr ∧ b = L.a) ∨ ∃ p ∈ Tt, p.1 = b
/-- n draws at the most are left -/
def StOk (H : Hp) (s g c : Addr) (cells : List Int) (n : Nat) : Prop := ∃ (gr : List Int) (left turn : Int), H s = some (.dK (stK g c left turn)) ∧ H g = some (.lst (gr.map .int)) ∧ H c = some (.lst (cells.map .int)) ∧ 0 ≤ left ∧ (∀ x ∈ gr, 0 ≤ x) ∧ 0 ≤ turn ∧ turn + (n : Int) ≤ 2 ^ 40
def LP.G {K : PySem.W.Frag} {Tt : List (Addr × Str)} (L : LP K Tt) : Nat → Hp → Prop := fun n H => StOk H L.s L.g L.c L.cells n ∧ Scr K L.tr H L.a L.xs ∧ LamX.Tabs Tt H ∧ L.g ≠ L.c ∧ (L.tr → L.a ≠ L.g)
theorem LP.stab {K : PySem.W.Frag} {Tt : List (Addr × Str)} (L : LP K Tt) : Stab L.V L.G := by
  constructor
  · rintro n H ⟨⟨gr, left, turn, h1, h2, h3, _⟩, hs, ht, _⟩ b hb
    rcases hb with rfl | rfl | rfl | ⟨tr, rfl⟩ | ⟨p, hp, rfl⟩
    · rw [h1]; exact fun z => nomatch z
    · rw [h2]; exact fun z => nomatch z
    · rw [h3]; exact fun z => nomatch z
    · rcases hs with ⟨_, h⟩ | ⟨h, _⟩
      · rw [h]; exact fun z => nomatch z
      · exact absurd tr h
    · obtain ⟨ps, h, _⟩ := ht p hp
      rw [h]; exact fun z => nomatch z
  · rintro n H H' k ⟨⟨gr, left, turn, h1, h2, h3, h4⟩, hs, ht, hn⟩
    refine ⟨⟨gr, left, turn, k _ _ h1 (.inl (.inl rfl)), k _ _ h2 (.inl (.inr (.inl rfl))), k _ _ h3 (.inl (.inr (.inr (.inl rfl)))), h4⟩, ?_, fun p hp => ?_, hn⟩
    · rcases hs with ⟨tr, h⟩ | ⟨tr, ⟨o, h⟩ | h⟩
      · exact .inl ⟨tr, k _ _ h (.inl (.inr (.inr (.inr (.inl ⟨tr, rfl⟩)))))⟩
      · exact .inr ⟨tr, .inl ⟨o, k _ _ h (.inr True.intro)⟩⟩
      · exact .inr ⟨tr, .inr h⟩
    · obtain ⟨ps, q1, q2, q3⟩ := ht p hp
      refine ⟨ps, k _ _ q1 (.inr True.intro), q2, fun pos cv hc => ?_⟩
      obtain ⟨c, e1, e2⟩ := q3 pos cv hc
      exact ⟨c, e1, k _ _ e2 (.inr True.intro)⟩
/-! ### promises of a law's functions -/
def spL (K : PySem.W.Frag) (Tt : List (Addr × Str)) (m c : Nat) (pre : LP K Tt → List D → Prop) (R : LP K Tt → List D → Bool → D → Prop) : Sp := fun vs H Q E => ∃ L : LP K Tt, PL m L.V L.G c (pre L) (R L) vs H Q E
theorem DS.impR {t : TS} {W : Wd} {n : Nat} {ρ : Rho} {N N' : Nat → Rho → Prop} {R R' : Nat → Bool → D → Prop} {B C : Nat → Rho → Prop} (h : DS t W n ρ N R B C) (k : ∀ n ρ, N n ρ → N' n ρ) (k2 : ∀ n b d, R n b d → R' n b d) : DS t W n ρ N' R' B C :=
  fun Z T σ H e De f => h Z T σ H e De ⟨fun n ρ σ H q => f.nx n ρ σ H (k n ρ q), fun n v d H q => f.rt n v d H (k2 n false d q), fun n a o d H q => f.rf n a o d H (k2 n true d q), f.bk, f.ct⟩
section
variable {P : Program} {w : World} {K : PySem.W.Frag} {Tt : List (Addr × Str)} {mg : Str → Option Value} {base : Heap} {k m c : Nat} {x : Str} {st : Stmt} {N ps : List Str} {pre : LP K Tt → List D → Prop} {R : LP K Tt → List D → Bool → D → Prop}
theorem Def.okL (Dd : Def K mg x st ps) (S : FnScope N ps (defScope st)) (hn : m = ps.length)
    (h : ∀ (f : Addr) (cdv : Value) (A : Around) (outer : List PySem.Env) (s : Shared) (H : Hp) (E : XK), Room k (A.deeper (envOfC x (defScope st) s.heap.objs.size f cdv)) →
      ∃ t, PSs (cxD P w K mg base N x st f cdv A outer s H E) (defBody st) t ∧ ∀ (L : LP K Tt) (W : Wd) (n : Nat) (ds : List D), W.V = L.V → W.G = L.G → W.E = E → ds.length = m → c ≤ n → pre L ds →
        DS t W n (startR N ds) (fun n' _ => n ≤ n' + c ∧ R L ds false .non) (fun n' b d => n ≤ n' + c ∧ R L ds b d) (fun _ _ => False) (fun _ _ => False)) : Cal P w K mg base (k + 1) x st ps (spL K Tt m c pre R) := by
  refine Dd.raw S (fun vs H Q E ⟨L, q⟩ => by rw [prm_len q, hn]) fun f cdv A outer s H vs Q E hr ⟨L, q⟩ => ?_
  obtain ⟨t, ht, hd⟩ := h f cdv A outer s H E hr
  exact ⟨t, ht, prm_body L.stab q fun W n ds w1 w2 w3 w4 hl ⟨hc, hp⟩ => (hd L W n ds w1 w2 w3 hl hc hp).impR (fun n' ρ ⟨a, b⟩ => ⟨a, _, _, rfl, b⟩) fun n' b d ⟨h1, h2⟩ => ⟨h1, _, _, rfl, h2⟩⟩
/-- from one promise another -/
theorem Cal.conv {sp sp' : Sp} (C : Cal P w K mg base k x st ps sp) (key : ∀ vs H Q E, sp' vs H Q E → sp vs H Q E) : Cal P w K mg base k x st ps sp' := by
  obtain ⟨f, fd, F, hm, hk, hb, hF⟩ := C.ex
  exact ⟨f, fd, ⟨fun vs H Q E q => F.len vs H Q E (key vs H Q E q), fun A outer s H args us vs Q E hr e0 hbt r q => F.run A outer s H args us vs Q E hr e0 hbt r (key vs H Q E q)⟩, hm, hk, hb, hF⟩
variable {W : Wd} {n : Nat} {ρ : Rho} {Q : Nat → D → Prop} {E : XK} {tas : TA}
theorem de_lawL (L : LP K Tt) (hV : W.V = L.V) (hG : W.G = L.G) (h : DA tas W n ρ fun n ds => ds.length = m ∧ c ≤ n ∧ pre L ds ∧ ∀ n' b d, n ≤ n' + c → R L ds b d → Q n' d) : DE (tCall (spL K Tt m c pre R) [] E tas) W n ρ Q := fun Z T σ H e q k =>
  h Z T σ H e _ fun n vs ds H' ⟨hl, hc, hp, hq⟩ e' i => by
    refine ⟨L, ?_⟩
    rw [List.append_nil]
    exact call_prm (fitW hV hG) e' i hl ⟨hc, hp⟩ (fun n' d ⟨h1, b, d', h2, h3⟩ => by cases h2; exact hq n' _ _ h1 h3) (fun n' d ⟨h1, b, d', h2, h3⟩ => by cases h2; exact hq n' _ _ h1 h3) k fun n' C ns l od _ ⟨_, _, _, p, _⟩ => by cases p
theorem df_lawL (L : LP K Tt) (hV : W.V = L.V) (hG : W.G = L.G) (h : DA tas W n ρ fun n ds => ds.length = m ∧ c ≤ n ∧ pre L ds ∧ (∀ d, ¬ R L ds false d) ∧ ∀ n' d, n ≤ n' + c → R L ds true d → Q n' d) : DF (tCall (spL K Tt m c pre R) [] E tas) W n ρ Q := fun Z T σ H e q k =>
  h Z T σ H e _ fun n vs ds H' ⟨hl, hc, hp, h0, hq⟩ e' i => by
    refine ⟨L, ?_⟩
    rw [List.append_nil]
    exact call_prmF (fitW hV hG) e' i hl ⟨hc, hp⟩ (fun n' d ⟨h1, b, d', h2, h3⟩ => by cases h2; exact h0 _ h3) (fun n' d ⟨h1, b, d', h2, h3⟩ => by cases h2; exact hq n' _ h1 h3) k fun n' C ns l od _ ⟨_, _, _, p, _⟩ => by cases p
end
/-! ### an environment of slots that are read -/
def Slots (X : AP) (H : Hp) : L2.St → Rho → Prop
  | [], [] => True
  | _ :: σ, none :: ρ => Slots X H σ ρ
  | some v :: σ, some (false, d) :: ρ => Is X H v d ∧ Slots X H σ ρ
  | _, _ => False
theorem Slots.len {X : AP} {H : Hp} : ∀ {σ : L2.St} {ρ : Rho}, Slots X H σ ρ → σ.length = ρ.length
  | [], [], _ => rfl
  | x :: σ, none :: ρ, h => by
    have h' : Slots X H σ ρ := by cases x <;> exact h
    simp [h'.len]
  | some v :: σ, some (false, d) :: ρ, h => by simp [h.2.len]
  | [], _ :: _, h => h.elim
  | _ :: _, [], h => by rename_i x _; cases x <;> exact h.elim
  | none :: _, some (b, _) :: _, h => by cases b <;> exact False.elim h
  | some _ :: _, some (true, _) :: _, h => h.elim
theorem Slots.no {X : AP} {H : Hp} : ∀ {σ : L2.St} {ρ : Rho}, Slots X H σ ρ → ∀ (i : Nat) (d : D), ρ[i]? ≠ some (some (true, d))
  | [], [], _, i, d => by simp
  | x :: σ, none :: ρ, h, 0, d => by simp
  | x :: σ, none :: ρ, h, i + 1, d => by
    have h' : Slots X H σ ρ := by cases x <;> exact h
    simpa using h'.no i d
  | some v :: σ, some (false, d') :: ρ, h, 0, d => by simp
  | some v :: σ, some (false, d') :: ρ, h, i + 1, d => by simpa using h.2.no i d
  | [], _ :: _, h, _, _ => h.elim
  | _ :: _, [], h, _, _ => by rename_i x _; cases x <;> exact h.elim
  | none :: _, some (b, _) :: _, h, _, _ => by cases b <;> exact False.elim h
  | some _ :: _, some (true, _) :: _, h, _, _ => h.elim
theorem Slots.sh {X : AP} {H : Hp} : ∀ {σ : L2.St} {ρ : Rho}, Slots X H σ ρ → ∀ (i : Nat) (d : D), ρ[i]? = some (some (false, d)) → ∃ v, σ[i]? = some (some v) ∧ Is X H v d
  | [], [], _, i, d, e => by simp at e
  | x :: σ, none :: ρ, h, 0, d, e => by simp at e
  | x :: σ, none :: ρ, h, i + 1, d, e => by
    have h' : Slots X H σ ρ := by cases x <;> exact h
    obtain ⟨v, q1, q2⟩ := h'.sh i d (by simpa using e)
    exact ⟨v, by simpa using q1, q2⟩
  | some v :: σ, some (false, d') :: ρ, h, 0, d, e => by
    simp at e
    subst e
    exact ⟨v, rfl, h.1⟩
  | some v :: σ, some (false, d') :: ρ, h, i + 1, d, e => by
    obtain ⟨v, q1, q2⟩ := h.2.sh i d (by simpa using e)
    exact ⟨v, by simpa using q1, q2⟩
  | [], _ :: _, h, _, _, _ => h.elim
  | _ :: _, [], h, _, _, _ => by rename_i x _ _; cases x <;> exact h.elim
  | none :: _, some (b, _) :: _, h, _, _, _ => by cases b <;> exact False.elim h
  | some _ :: _, some (true, _) :: _, h, _, _, _ => h.elim
theorem env_slots {W : Wd} {n : Nat} {σ : L2.St} {ρ : Rho} {H : Hp} (h : Slots W.X0 H σ ρ) (h0 : Frm W.V W.H0 H) (g : W.G n H) : Env W n [] [] ρ σ H := by
  have no : ∀ a, ¬ Own ρ σ a := fun a ⟨i, d, q, _⟩ => h.no i d q
  have m : Mv W.X0 H (XX W [] ρ σ) H := fun a o q hx => ⟨q, fun x => by
    rcases x with x | x | ⟨o, x⟩
    · exact hx x
    · exact no a x
    · cases x⟩
  refine ⟨h.len, fun i d q => ?_, fun i d q => absurd q (h.no i d), fun i j d e a q => absurd q (h.no i d), fun p hp => (nomatch hp), List.nodup_nil, fun p hp => (nomatch hp), h0, g⟩
  obtain ⟨v, q1, q2⟩ := h.sh i d q
  exact ⟨v, q1, q2.mv m⟩
/-- a world in which nothing changes -/
def Wq (H : Hp) (E : XK) : Wd where
  V := fun _ => False
  X0 := fun _ => False
  G := fun _ _ => True
  H0 := H
  E := E
  EP := fun _ _ _ _ => False
  vx := fun _ h => h
  xd := fun _ h => h.elim
  vd := fun _ _ _ _ h => h.elim
  stab := fun _ _ _ _ _ => True.intro
  hE := fun _ _ _ _ _ _ h => h.elim
/-- the world of a script that is read -/
def Wscr (K : PySem.W.Frag) (tr : Prop) (a : Addr) (xs : List L2.V) (H : Hp) (E : XK) (h : Scr K tr H a xs) : Wd where
  V := fun b => tr ∧ b = a
  X0 := fun b => tr ∧ b = a
  G := fun _ H => Scr K tr H a xs
  H0 := H
  E := E
  EP := fun _ _ _ _ => False
  vx := fun _ h => h
  xd := fun b ⟨t, e⟩ => by
    subst e
    rcases h with ⟨_, h⟩ | ⟨h, _⟩
    · rw [h]; exact fun z => nomatch z
    · exact absurd t h
  vd := fun _ H h b ⟨t, e⟩ => by
    subst e
    rcases h with ⟨_, h⟩ | ⟨h, _⟩
    · rw [h]; exact fun z => nomatch z
    · exact absurd t h
  stab := fun _ H H' k h => by
    rcases h with ⟨tr, h⟩ | ⟨tr, ⟨o, h⟩ | h⟩
    · exact .inl ⟨tr, k _ _ h (.inl ⟨tr, rfl⟩)⟩
    · exact .inr ⟨tr, .inl ⟨o, k _ _ h (.inr True.intro)⟩⟩
    · exact .inr ⟨tr, .inr h⟩
  hE := fun _ _ _ _ _ _ h => h.elim
theorem Scr.keep {K : PySem.W.Frag} {tr : Prop} {a : Addr} {xs : List L2.V} {H H' : Hp} (h : Scr K tr H a xs) (h' : Scr K tr H' a xs) (f : Frm (fun b => tr ∧ b = a) H H') : ∀ b o, H b = some o → H' b = some o := fun b o q => by
  by_cases hb : tr ∧ b = a
  · obtain ⟨t, rfl⟩ := hb
    rcases h with ⟨_, h⟩ | ⟨h, _⟩
    · rcases h' with ⟨_, h'⟩ | ⟨h', _⟩
      · rw [h] at q; rw [h']; exact q
      · exact absurd t h'
    · exact absurd t h
  · exact f b o q hb
/-- the script walked -/
theorem di_script {W : Wd} {n : Nat} {ρ : Rho} {K : PySem.W.Frag} {tl : TE} {P : Nat → List D → Prop} {a : Addr} {ns : List Int} (hs : ∀ n H, W.G n H → SqL K H a (ns.map .int)) (h : DE tl W n ρ fun n d => d = .raw a ∧ P n (ns.map .int)) : DI (iSeq K tl) W n ρ P := fun Z T σ H e Q k =>
  h Z T σ H e _ fun n v d H' ⟨hd, p⟩ e' i => by
    subst hd
    cases i
    refine ⟨a, rfl, .inl ⟨⟨_, hs n H' e'.g⟩, k n _ (ns.map .int) [] H' p e' fun n Z T ρ σ H hT e i => ?_⟩⟩
    have q := hs n H e.g
    have hl : (ns.map L2.V.int).length = (ns.map D.int).length := by rw [List.length_map, List.length_map]
    refine ⟨fun hi => ⟨⟨_, (ns.map L2.V.int)[i]'(by rw [hl]; exact hi), q, by simp⟩, fun x H' ⟨eh, y⟩ => ?_⟩, fun hi => ⟨_, q, by rw [hl]; exact hi⟩⟩
    subst eh
    have y1 := y _ q
    rw [List.getElem?_map] at y1
    obtain ⟨z, hz, rfl⟩ := Option.map_eq_some_iff.mp y1
    exact ⟨.int z, by rw [List.getElem?_map, hz]; rfl, e.push (.int z)⟩
theorem c_pow {i j : Int} (h : 0 ≤ j ∧ j ≤ 1000000 ∧ i.natAbs < 2 ^ 64 := by decide) : CPow i j := h
theorem each_ints : ∀ {ds ys : List D}, Each (fun _ y => ∃ z, y = D.int z) ds ys → ∃ zs : List Int, ys = zs.map D.int
  | _, _, .nil => ⟨[], rfl⟩
  | _, _, .cons ⟨z, h⟩ t => by
    obtain ⟨zs, e⟩ := each_ints t
    exact ⟨z :: zs, by rw [h, e]; rfl⟩
theorem merge_st {g c : Addr} : mergeK [] [((.inr "great" : Key), L2.V.ref g), (.inr "cells", .ref c), (.inr "left", .int 0), (.inr "turn", .int 0)] = stK g c 0 0 := by
  have h1 : ¬ (Sum.inr "great" : Key) = .inr "cells" := by decide
  have h2 : ¬ (Sum.inr "great" : Key) = .inr "left" := by decide
  have h3 : ¬ (Sum.inr "great" : Key) = .inr "turn" := by decide
  have h4 : ¬ (Sum.inr "cells" : Key) = .inr "left" := by decide
  have h5 : ¬ (Sum.inr "cells" : Key) = .inr "turn" := by decide
  have h6 : ¬ (Sum.inr "left" : Key) = .inr "turn" := by decide
  unfold mergeK stK
  simp [putK, h1, h2, h3, h4, h5, h6]
/-! ### promises of the draws -/
def spBegun (K : PySem.W.Frag) : Sp := fun vs H Q E => ∃ (a : Addr) (ns : List Int), vs = [.ref a] ∧ SqL K H a (ns.map .int) ∧ ns.length ≤ 1000 ∧ ∀ (s g c : Addr) (gr cells : List Int) (H' : Hp), (∀ x ∈ gr, 0 ≤ x) → H s = none → H g = none → H c = none → s ≠ g → s ≠ c → g ≠ c →
  H' s = some (.dK (stK g c 0 0)) → H' g = some (.lst (gr.map .int)) → H' c = some (.lst (cells.map .int)) → (∀ b o, H b = some o → H' b = some o) → Q (.ref s) H'
def spBlend : Sp := fun vs H Q E => ∃ (s g c : Addr) (cells : List Int) (left turn : Int), vs = [.ref s] ∧ H s = some (.dK (stK g c left turn)) ∧ H c = some (.lst (cells.map .int)) ∧ 0 ≤ turn ∧ turn < 2 ^ 40 ∧
  ∀ (v : Int) (H' : Hp), 0 ≤ v → H' s = some (.dK (stK g c left (turn + 1))) → (∀ b o, b ≠ s → H b = some o → H' b = some o) → Q (.int v) H'
/-- a draw below size -/
def drawPre {K : PySem.W.Frag} {Tt : List (Addr × Str)} (L : LP K Tt) (ds : List D) : Prop := ∃ size : Int, ds = [.raw L.s, .int size] ∧ 0 < size ∧ size.natAbs < 2 ^ 9000
def drawR {K : PySem.W.Frag} {Tt : List (Addr × Str)} (L : LP K Tt) (ds : List D) (b : Bool) (d : D) : Prop := ∃ k : Int, b = false ∧ d = .int k ∧ 0 ≤ k ∧ ∀ size, ds = [.raw L.s, .int size] → k < size
abbrev spDraw (K : PySem.W.Frag) (Tt : List (Addr × Str)) : Sp := spL K Tt 2 1 drawPre drawR
/-- the end of a draw -/
def tailTS (K : PySem.W.Frag) : TS := tSeq (tAsg (tOp rMod (tCB rInt1 (tCons (tOp (rIxU K) (tVar 0) (tC (.str "left"))) tNil)) (tVar 1)) (gName 2)) (tSeq (sDPut (tVar 0) (tC (.str "left")) (tOp rFdiv (tOp (rIxU K) (tVar 0) (tC (.str "left"))) (tVar 1))) (tRet (tVar 2)))
theorem draw_tail {K : PySem.W.Frag} {D : Ends} {s g c : Addr} {left turn size : Int} {H : Hp} (hst : H s = some (.dK (stK g c left turn))) (h0 : 0 < size) (hs : size.natAbs < 2 ^ 9000)
    (q : D.rt (.int (left.fmod size)) (upd H s (.dK (stK g c (left.fdiv size) turn)))) : tailTS K D [some (.ref s), some (.int size), none] H := by
  have g1 : DGet H s (.str "left") (some (.int left)) := .inl ⟨_, .inr "left", .inl hst, rfl, st_left.symm⟩
  refine ⟨_, rfl, .inr ⟨s, _, rfl, g1, .inl ⟨left, rfl, _, rfl, left, size, rfl, rfl, by omega, ?_⟩⟩⟩
  refine ⟨_, rfl, .inr ⟨s, _, rfl, g1, ⟨_, rfl, ⟨left, size, rfl, rfl, c_div h0 hs, ⟨_, rfl, ⟨s, _, rfl, .inl ⟨_, .inr "left", hst, rfl, (by show 4 < sizeLine; exact szlt (by decide)), rfl⟩, ⟨_, rfl, ?_⟩⟩⟩⟩⟩⟩⟩
  rw [put_left]
  exact q
theorem dp_ints {K : PySem.W.Frag} {H : Hp} : ∀ (xs : List Int), DpAll K H (xs.map L2.V.int) (xs.map PyData.int)
  | [] => .nil
  | x :: xs => .cons (.int x) (dp_ints xs)
abbrev ixS (K : PySem.W.Frag) (x : Str) : TE := tOp (rIxU K) (tVar 0) (tC (.str x))
/-- the beginning of a draw: nothing left -/
def headTS (K : PySem.W.Frag) (E : XK) : TS := tIfS (tTest (tOp (rEqD K) (ixS K "left") (tC (.int 0)))) (sDPut (tVar 0) (tC (.str "left")) (tIf (tTest (tOp (rNeD K) (ixS K "great") (tLst tNil))) (tBM K "list" rPopAt (ixS K "great") (tCons (tC (.int 0)) tNil)) (tCall spBlend [] E (tCons (tVar 0) tNil)))) tNext
theorem draw_head {K : PySem.W.Frag} {D : Ends} {E : XK} {s g c : Addr} {left turn size : Int} {gr cells : List Int} {H : Hp} (hst : H s = some (.dK (stK g c left turn))) (hg : H g = some (.lst (gr.map .int))) (hc : H c = some (.lst (cells.map .int))) (ngc : g ≠ c)
    (h0 : 0 ≤ left) (hgr : ∀ x ∈ gr, 0 ≤ x) (ht : 0 ≤ turn) (ht2 : turn < 2 ^ 40)
    (q : ∀ (left1 turn1 : Int) (gr1 : List Int) (H1 : Hp), H1 s = some (.dK (stK g c left1 turn1)) → H1 g = some (.lst (gr1.map .int)) → H1 c = some (.lst (cells.map .int)) → 0 ≤ left1 → (∀ x ∈ gr1, 0 ≤ x) → turn ≤ turn1 → turn1 ≤ turn + 1 → (∀ b o, b ≠ s → b ≠ g → H b = some o → H1 b = some o) →
      D.nx [some (.ref s), some (.int size), none] H1) : headTS K E D [some (.ref s), some (.int size), none] H := by
  have nsg : g ≠ s := fun z => by rw [z, hst] at hg; cases hg
  have nsc : c ≠ s := fun z => by rw [z, hst] at hc; cases hc
  refine ⟨_, rfl, .inr ⟨s, _, rfl, .inl ⟨_, .inr "left", .inl hst, rfl, st_left.symm⟩, ⟨.int left, .int 0, .int left, .int 0, rfl, rfl, ⟨_, rfl, ?_⟩⟩⟩⟩
  cases hb : PyData.eqv (.int left) (.int 0) with
  | false =>
    show D.nx _ _
    exact q left turn gr H hst hg hc h0 hgr (Int.le_refl _) (by omega) fun b o _ _ h => h
  | true =>
    rw [if_pos rfl]
    refine ⟨_, rfl, .inr ⟨s, _, rfl, .inl ⟨_, .inr "great", .inl hst, rfl, st_great.symm⟩, ⟨szl (by decide), fun p hp => ?_⟩⟩⟩
    have keep : ∀ b o, H b = some o → upd H p (.lst []) b = some o := fun b o h => by rw [upd_ne (ne_of_none h hp)]; exact h
    refine ⟨.list (gr.map .int), .list [], .lst (.inl (.inl (keep _ _ hg))) (dp_ints gr), .lst (.inl (.inl upd_same)) .nil, ?_, rfl, ⟨_, rfl, ?_⟩⟩
    · exact PySem.W.ke_shaped_ints gr
    cases gr with
    | nil =>
      have e : (!PyData.eqv (.list (([] : List Int).map .int)) (.list [])) = false := rfl
      rw [e]
      refine ⟨_, rfl, ?_⟩
      refine ⟨s, g, c, cells, left, turn, rfl, keep _ _ hst, keep _ _ hc, ht, ht2, fun v H' hv hs' hk => ?_⟩
      refine ⟨_, rfl, ⟨s, _, rfl, .inl ⟨_, .inr "left", hs', rfl, (by show 4 < sizeLine; exact szlt (by decide)), rfl⟩, ?_⟩⟩
      rw [put_left]
      refine q v (turn + 1) [] _ upd_same (by rw [upd_ne nsg]; exact hk _ _ nsg (keep _ _ hg)) (by rw [upd_ne nsc]; exact hk _ _ nsc (keep _ _ hc)) hv hgr (by omega) (Int.le_refl _) fun b o h1 _ h => ?_
      rw [upd_ne h1]
      exact hk b o h1 (keep b o h)
    | cons x r =>
      have e : (!PyData.eqv (.list ((x :: r : List Int).map .int)) (.list [])) = true := rfl
      rw [e]
      refine ⟨_, rfl, .inr ⟨s, _, rfl, .inl ⟨_, .inr "great", .inl (keep _ _ hst), rfl, st_great.symm⟩, ⟨.inl ⟨rfl, _, .inl (.inl (keep _ _ hg))⟩, ⟨g, _, 0, 0, .int x, rfl, rfl, keep _ _ hg, by decide, by decide, ?_, rfl, ?_⟩⟩⟩⟩
      · exact seqIndex_of (Int.le_refl 0) (by rw [List.length_map, List.length_cons]; omega)
      refine ⟨_, rfl, ⟨s, _, rfl, .inl ⟨_, .inr "left", (by rw [upd_ne (Ne.symm nsg)]; exact keep _ _ hst), rfl, (by show 4 < sizeLine; exact szlt (by decide)), rfl⟩, ?_⟩⟩
      rw [put_left]
      refine q x turn r _ upd_same (by rw [upd_ne nsg, upd_same]; rfl) (by rw [upd_ne nsc, upd_ne (Ne.symm ngc)]; exact keep _ _ hc) (hgr x List.mem_cons_self) (fun y hy => hgr y (List.mem_cons_of_mem _ hy)) (Int.le_refl _) (by omega) fun b o h1 h2 h => ?_
      rw [upd_ne h1, upd_ne h2]
      exact keep b o h
/-! ### one of several -/
def pickPre {K : PySem.W.Frag} {Tt : List (Addr × Str)} (L : LP K Tt) (ds : List D) : Prop := ∃ l, (ds = [.raw L.s, .lst l] ∨ ds = [.raw L.s, .tup l]) ∧ 0 < l.length ∧ l.length ≤ 100000
def pickR {K : PySem.W.Frag} {Tt : List (Addr × Str)} (L : LP K Tt) (ds : List D) (b : Bool) (d : D) : Prop := b = false ∧ ∀ l, (ds = [.raw L.s, .lst l] ∨ ds = [.raw L.s, .tup l]) → d ∈ l
abbrev spPick (K : PySem.W.Frag) (Tt : List (Addr × Str)) : Sp := spL K Tt 2 1 pickPre pickR
section
variable {K : PySem.W.Frag} {Tt : List (Addr × Str)} {W : Wd} {n : Nat} {ρ : Rho} {Q : Nat → D → Prop} {E : XK} {tas : TA}
theorem de_draw (L : LP K Tt) (hV : W.V = L.V) (hG : W.G = L.G) (h : DA tas W n ρ fun n ds => ∃ size : Int, ds = [.raw L.s, .int size] ∧ 0 < size ∧ size.natAbs < 2 ^ 9000 ∧ 1 ≤ n ∧ ∀ n' k, n ≤ n' + 1 → 0 ≤ k → k < size → Q n' (.int k)) : DE (tCall (spDraw K Tt) [] E tas) W n ρ Q :=
  de_lawL L hV hG (h.imp fun n ds ⟨size, e, h1, h2, h3, h4⟩ => ⟨by rw [e]; rfl, h3, ⟨size, e, h1, h2⟩, fun n' b d h5 ⟨k, _, h6, h7, h8⟩ => by rw [h6]; exact h4 n' k h5 h7 (h8 size e)⟩)
theorem de_pick (L : LP K Tt) (hV : W.V = L.V) (hG : W.G = L.G) (h : DA tas W n ρ fun n ds => ∃ l, (ds = [.raw L.s, .lst l] ∨ ds = [.raw L.s, .tup l]) ∧ 0 < l.length ∧ l.length ≤ 100000 ∧ 1 ≤ n ∧ ∀ n' d, n ≤ n' + 1 → d ∈ l → Q n' d) : DE (tCall (spPick K Tt) [] E tas) W n ρ Q :=
  de_lawL L hV hG (h.imp fun n ds ⟨l, e, h1, h2, h3, h4⟩ => ⟨by rcases e with e | e <;> (rw [e]; rfl), h3, ⟨l, e, h1, h2⟩, fun n' b d h5 ⟨_, h6⟩ => h4 n' d h5 (h6 l e)⟩)
end
theorem atI_mem {ds : List D} {k : Int} (h0 : 0 ≤ k) (h1 : k < ds.length) : ∃ d, atI ds k = some d ∧ d ∈ ds := by
  have hk : k.toNat < ds.length := by omega
  refine ⟨ds[k.toNat], ?_, List.getElem_mem hk⟩
  unfold atI ixN
  rw [if_pos h0, if_pos h1]
  exact List.getElem?_eq_getElem hk
theorem p9 {x : Int} (h : x.natAbs < 2 ^ 64) : x.natAbs < 2 ^ 9000 := pow_lt h (by decide)
theorem p92 {x : Int} (h : x.natAbs < 2 ^ 200) : x.natAbs < 2 ^ 9000 := pow_lt h (by decide)
section
variable {W : Wd} {n : Nat} {ρ : Rho} {K : PySem.W.Frag} {P : Nat → D → Prop} {q m : Nat} {pre : List D → Prop} {f : List D → Out} {E : XK} {tas tks : TA} {perm : List Nat}
/-- a call by keywords of which nothing is raised -/
theorem de_detK0 (h : DA tas W n ρ fun n ds => DA tks W n ρ fun n es => ds.length = q ∧ es.length = m ∧ pre (gPerm D.non perm ds es) ∧ ∃ b d, f (gPerm D.non perm ds es) = .ret b d ∧ P n d) : DE (tCalK q m (PD perm.length pre f) perm E tas tks) W n ρ P := fun Z T σ H e Q k =>
  h Z T σ H e _ fun n vs ds H1 p e1 i1 => p Z (zipT vs ds ++ T) σ H1 (e1.pushAll i1) _ fun n zs es H2 ⟨h1, h2, hp, b, d, hf, hq⟩ e2 i2 =>
    ⟨by rw [i1.len]; exact h1, by rw [i2.len]; exact h2, call_prm fit0 e2.popAll (perm_all ((e2.topAll i1.len).append i2) perm) (by simp [gPerm]) hp (fun _ d' z => by have z2 := z.trans hf; cases z2; exact hq) (fun _ d' z => by have z2 := z.trans hf; cases z2; exact hq) k fun _ C ns l od _ z => by have z2 := z.trans hf; cases z2⟩
theorem toPs_ints : ∀ ns : List Int, toPs (ns.map D.int) = some (ns.map PyData.int)
  | [] => rfl
  | i :: r => by
    rw [List.map_cons]
    unfold toPs
    rw [toPs_ints r]
    rfl
theorem toP_ints (ns : List Int) : D.toP (.lst (ns.map D.int)) = some (.list (ns.map PyData.int)) := by
  unfold D.toP
  rw [toPs_ints]
theorem r_eqNil {ns : List Int} (p : P n (.bl ns.isEmpty)) : DR (rEqD K) W n ρ (.lst (ns.map D.int)) (.lst []) P :=
  dr_eq (toP_ints ns) rfl (PySem.W.ke_shaped_ints ns) rfl (by cases ns <;> exact p)
end
section
variable {W : Wd} {n : Nat} {ρ : Rho} {K : PySem.W.Frag} {P : Nat → D → Prop} {wi : TI} {g : TG} {S vs : List Nat} {tt : TT} {te : TE}
/-- with a test; nothing drawn -/
theorem df_lc_filterN (p : D → Bool) (f : D → D) (hno : NoOwn ρ vs) (h : DI wi W n ρ fun n ds => ds.length ≤ sizeLine ∧ (∀ n' d, d ∈ ds → n ≤ n' → DG g S d W (wipeR ρ vs) fun ρ2 => DT tt W n' ρ2 fun n'' b => b = p d ∧ n ≤ n'' ∧ (b = true → DE te W n'' ρ2 fun n3 y => n ≤ n3 ∧ y = f d)) ∧ ∀ n', n ≤ n' → P n' (.lst ((ds.filter p).map f)))
    (hS : ∀ i, i ∈ S → i ∈ vs) : DF (tLc wi g tt te vs) W n ρ P :=
  df_lc hno hS fun Z T σ H e Q k => h Z T σ H e Q fun n J ds T0 H' ⟨h1, h2, h3⟩ e' ok => k n J ds T0 H' ⟨fun i n' acc => i ≤ ds.length ∧ n ≤ n' ∧ acc = ((ds.take i).filter p).map f, ⟨Nat.zero_le _, Nat.le_refl _, rfl⟩, fun i n' d acc hd ⟨_, hn, hI⟩ m Z T σ H v e i0 Q k2 => h2 n' d (List.mem_of_getElem? hd) hn m Z T σ H v e i0 Q fun ρ' σ' q e2 ag =>
      k2 ρ' σ' (q.imp fun n'' b ⟨hb, hn2, hq⟩ => by
        have hi : i < ds.length := (List.getElem?_eq_some_iff.mp hd).1
        subst hI
        have hl : (((ds.take i).filter p).map f).length ≤ i := by
          rw [List.length_map]
          exact Nat.le_trans (List.length_filter_le _ _) (by rw [List.length_take]; omega)
        refine ⟨fun hb' => (hq hb').imp fun n3 y ⟨hn3, r⟩ => ⟨by omega, hi, hn3, ?_⟩, fun hb' => ⟨hi, hn2, ?_⟩⟩
        · rw [take_snoc hd, List.filter_append, List.map_append, r]
          have : p d = true := by rw [← hb]; exact hb'
          simp [this]
        · rw [take_snoc hd, List.filter_append, List.map_append]
          have : p d = false := by rw [← hb]; exact hb'
          simp [this]) e2 ag, fun n' acc ⟨_, hn, hI⟩ => by
        rw [List.take_length] at hI
        subst hI
        exact h3 n' hn⟩ e' ok
end
theorem filter_none {ds : List D} {p : D → Bool} {α : Type} (f : D → α) : ((ds.filter fun d => !p d).map f).isEmpty = ds.all p := by
  induction ds with
  | nil => rfl
  | cons d r ih =>
    cases h : p d with
    | true => simp [List.filter_cons, h] at ih ⊢; exact ih
    | false => simp [List.filter_cons, h]
end HD

namespace HD
open PySem PySem.Spec PyProof.Rows L2

/-! ### a lambda made: nothing but the maker's table changes -/
def ExtP (P : Addr) (H H' : Hp) : Prop := ∀ b o, b ≠ P → H b = some o → H' b = some o
/-- the lambda's object -/
abbrev lamO (X : Cx) (params : Arguments) (body : Expr) (scope : Scope) (pm : Value) (c' : Addr) (ctv : Value) : Obj :=
  PySem.W.kla_obj "<lambda>" (X.env.qual ++ "<lambda>") params body scope (cloFrom X.env.cells scope.names []) pm c' ctv
section
variable {X : Cx} {pins : List (Addr × Obj)} {σ : L2.St} {H : Hp} {s : Shared}
theorem tabs_grown {T : List (Addr × Str)} {P c' : Addr} {nm : Str} {ps : Array Value} {pos : Pos} (hP : H P = some (.tbl ps)) (ok : TriplesOk ps.toList) (old : ∀ (p : Pos) (cv : Value), codeAmong p ps.toList = some cv → ∃ c, cv = .ref c ∧ H c = some (LamX.CodeO c nm))
    (only : ∀ p ∈ T, p.1 = P → p.2 = nm) (hT : LamX.Tabs T H) (new : H c' = none) : LamX.Tabs T (upd (upd H P (.tbl (ps ++ #[rawInt pos.line, rawInt pos.col, .ref c']))) c' (LamX.CodeO c' nm)) := by
  have stays : ∀ b nm', H b = some (LamX.CodeO b nm') → upd (upd H P (.tbl (ps ++ #[rawInt pos.line, rawInt pos.col, .ref c']))) c' (LamX.CodeO c' nm) b = some (LamX.CodeO b nm') := fun b nm' e => by
    have b1 : b ≠ c' := ne_of_none e new
    have b2 : b ≠ P := fun z => by
      rw [z, hP] at e
      exact LamX.codeO_ne ps (Option.some.inj e).symm
    rw [upd_ne b1, upd_ne b2]; exact e
  intro p hp
  by_cases h : p.1 = P
  · have h2 := only p hp h
    rw [h, h2]
    have e1 : (ps ++ #[rawInt pos.line, rawInt pos.col, Value.ref c']).toList = ps.toList ++ [rawInt pos.line, rawInt pos.col, .ref c'] := by simp
    refine ⟨ps ++ #[rawInt pos.line, rawInt pos.col, .ref c'], ?_, ?_, fun p' cv h3 => ?_⟩
    · rw [upd_ne (ne_of_none hP new), upd_same]
    · rw [e1]; exact PySem.TriplesOk_snoc _ _ _ _ ok
    · rw [e1] at h3
      cases LamX.among_app _ ok h3 with
      | inl z =>
        obtain ⟨c0, q1, q2⟩ := old p' cv z
        exact ⟨c0, q1, stays c0 nm q2⟩
      | inr z => exact ⟨c', z, upd_same⟩
  · obtain ⟨qs, q1, q2, q3⟩ := hT p hp
    refine ⟨qs, ?_, q2, fun p' cv h3 => ?_⟩
    · rw [upd_ne (ne_of_none q1 new), upd_ne h]; exact q1
    · obtain ⟨c0, q4, q5⟩ := q3 p' cv h3
      exact ⟨c0, q4, stays c0 p.2 q5⟩
theorem mk_lam {T : List (Addr × Str)} {c P : Addr} {params : Arguments} {body : Expr} {scope : Scope} {pos : Pos} {E Q : Value → Shared → Prop} (I : L2.Inv X pins σ H s) (B : LamX.TabB X.base X.mg c P) (co : X.env.code = .ref c) (mem : (P, X.env.qual ++ "<lambda>") ∈ T)
    (only : ∀ p ∈ T, p.1 = P → p.2 = X.env.qual ++ "<lambda>") (hT : LamX.Tabs T H) (nodef : defaultsOf params X.env = ([], [])) (cap : ∀ y ∈ scope.names, y.2 = .free → ∃ c, X.env.cells.lookup y.1 = some c)
    (k : ∀ (f c' : Addr) (pm ctv : Value) (H1 : Hp) (s' : Shared), L2.Inv X pins σ H1 s' → ExtP P H H1 → LamX.Tabs T H1 → s'.heap.get? f = some (lamO X params body scope pm c' ctv) → H1 f = none → f ∉ frs X.stack → H1 c' = some (LamX.CodeO c' (X.env.qual ++ "<lambda>")) → Q (.ref f) s') :
    wpAny (model X.prog X.w) X.A (eval (.Lambda params body scope pos) X.env) Q E s := by
  obtain ⟨ps, hP, ok, old⟩ := hT _ mem
  have bm : s.heap.BuiltinsAt X.mg P := B.bm.keeps I.bk
  have tb : s.heap.get? P = some { cls := .none, data := .fields ps } := I.hok P _ hP
  have ltP := Heap.lt_size tb
  have far : ∀ f, s.heap.objs.size ≤ f → f ∉ frs X.stack := fun f hf z => by
    cases List.mem_cons.mp (I.stkSub _ z) with
    | inl e =>
      have h1 := I.lt
      rw [← e] at h1
      exact absurd h1 (Nat.not_lt.mpr hf)
    | inr e => exact I.nofs hf e
  have hC := B.code.keeps I.bk
  have hG := I.mod.glob.keeps I.bk
  have clo := closure_ok cap
  refine PySem.W.kla_eval nodef ?_
  rcases hc : codeAmong pos ps.toList with _ | cv
  · refine PySem.W.kla_makeFunction (ps := ps) (P := P) (c := c) (mg := X.mg) clo I.ok.glob hG co hC tb ok hc B.gP bm ?_
    intro c' ctv h' tk keepH ge lt rec grown
    obtain ⟨_, oc, vs, t, e0, e1, e2, e3⟩ := rec
    cases e0
    have new : H c' = none := I.hok.fresh ge
    have sz : s.heap.objs.size ≤ h'.objs.size := by omega
    have J := LamX.inv_table (t' := tk) (c := c') (q := X.env.qual ++ "<lambda>") (more := #[rawInt pos.line, rawInt pos.col, .ref c']) (h' := h'.push (lamO X params body scope ((X.mg "__name__").getD .none) c' ctv)) I hP
      (fun b o n q => Heap.get?_push_of_some _ (keepH b o n q)) (Heap.get?_push_of_some _ grown) ge ⟨oc, vs, t, Heap.get?_push_of_some _ e1, e2, e3⟩
    refine k h'.objs.size c' _ ctv _ _ J (fun b o n q => ?_) (tabs_grown hP ok old only hT new) (Heap.get?_push_size _ rfl) ?_ (far _ sz) upd_same
    · rw [upd_ne (ne_of_none q new), upd_ne n]; exact q
    · have m1 : h'.objs.size ≠ c' := fun z => absurd lt (by rw [z]; exact Nat.lt_irrefl _)
      have m2 : h'.objs.size ≠ P := fun z => absurd (Nat.lt_of_lt_of_le ltP sz) (by rw [z]; exact Nat.lt_irrefl _)
      rw [upd_ne m1, upd_ne m2]
      exact I.hok.fresh sz
  · obtain ⟨c', rfl, hco⟩ := old pos cv hc
    refine PySem.W.kla_makeFunctionHit (ps := ps) (P := P) (c := c) (mg := X.mg) clo I.ok.glob hG co hC tb ok hc bm ?_
    intro ctv h' tk keepH sz
    have J : L2.Inv X pins σ H { s with heap := h'.push (lamO X params body scope ((X.mg "__name__").getD .none) c' ctv), toks := tk } := I.kept fun b o q => Heap.get?_push_of_some _ (keepH b o q)
    exact k h'.objs.size c' _ ctv H _ J (fun _ _ _ q => q) hT (Heap.get?_push_size _ rfl) (I.hok.fresh sz) (far _ sz) hco
end
/-- x(lambda: ..) -/
def tLam1 (T : List (Addr × Str)) (P : Addr) (TT : (XK → Hp → VK → Prop) → Hp → VK → Prop) (t : XK → TE) : TE := fun σ H Q => LamX.Tabs T H ∧ ∀ H1, ExtP P H H1 → LamX.Tabs T H1 → TT (fun E H' Q' => t E σ H' Q') H1 Q
/-- what the call x(lambda: ..) asks of the def x, told once -/
structure LamD (X : Cx) (T : List (Addr × Str)) (x a : Str) (c P : Addr) (TT : (XK → Hp → VK → Prop) → Hp → VK → Prop) : Prop where
  ex : ∃ (g : Addr) (pg : Arguments) (bg : List Stmt) (sg : Scope) (dV kV doc pm cdv ct oc : Value) (an od : Option Addr) (osl : Array (Option Value)) (Ng : List Str), X.mg x = some (.ref g) ∧ PySem.W.keepIn X.K (.ref g) = true ∧
    X.K.lookup g = some ⟨oc, od, .func (PySem.W.fnOf x x pg bg sg dV kV doc pm an cdv ct), osl⟩ ∧ PySem.W.codeIn X.K cdv x = true ∧ L2.Binds X.K (PySem.W.fnOf x x pg bg sg dV kV doc pm an cdv ct) [a] [] ∧ FnScope Ng [a] sg ∧ Ng[0]? = some a ∧ Vis sg a ∧
    LamX.GivesTo X Ng x sg g cdv bg a (X.env.qual ++ "<lambda>") TT
  TB : LamX.TabB X.base X.mg c P
  co : X.env.code = .ref c
  mem : (P, X.env.qual ++ "<lambda>") ∈ T
  only : ∀ p ∈ T, p.1 = P → p.2 = X.env.qual ++ "<lambda>"
theorem pe_lam1 {X : Cx} {T : List (Addr × Str)} {P c : Addr} {TT : (XK → Hp → VK → Prop) → Hp → VK → Prop} {x a : Str} {k : Nat} {params : Arguments} {body : Expr} {scope : Scope} {t : XK → TE} {p lpos pos : Pos} (M : LamD X T x a c P TT) (hg : Gl X x) (hr : Room (k + 2) X.A)
    (L : LamX.LamS X.env.scope scope) (nodef : defaultsOf params X.env = ([], [])) (bnd : ∀ (q : Str) (cl : List (Str × Addr)) (pm cv ctv : Value), bindArgs (PySem.W.kla_fn "<lambda>" q params body scope cl pm cv ctv) ⟨[], []⟩ = pure [])
    (hb : ∀ (A : Around) (outer : List PySem.Env) (s : Shared) (H : Hp) (E : XK) (f c' : Addr), Room k (A.deeper (LamX.lamEnv X scope s.heap.objs.size f c')) → PE (LamX.lamCx X A outer s H E scope f c') body (t E))
    (d1 : (x == ("__debug__" : Str)) = false := by decide) (d2 : (a == ("__debug__" : Str)) = false := by decide) (d3 : (a == ("__classdict__" : Str)) = false := by decide) : PE X (.Call (.Name x p) [.Lambda params body scope lpos] [] pos) (tLam1 T P TT t) := by
  obtain ⟨g, pg, bg, sg, dV, kV, doc, pm, cdv, ct, oc, an, od, osl, Ng, hm, hk, lk, hcg, hbd, Sg, n0, va, G⟩ := M.ex
  constructor
  intro pins s σ H Q I ⟨hT, h⟩
  refine wpAny_Call_Name_kw (ld_glob I hg hm ?_ d1)
  refine PySem.W.callWith_K (h₀ := X.base) I.ok.mod.kin hk ?_ (by rfl) (by rfl)
  show wpAny _ _ (spliced ((false, _) :: backTo pos (starEach [] X.env))) _ _ s
  refine Calls.spliced_cons (mk_lam I M.TB M.co M.mem M.only hT nodef (L.has I.ok) ?_)
  intro f c' pm' ctv H1 s' J ext T1 hf hfn hfr hco
  have run : codeAny (model X.prog X.w) X.A (.call (.ref g) ⟨[.ref f], []⟩) (CR C8.CX0 X.stack X.prog X.w H1 s' Q C8.E0) s' := by
    refine LamX.run_ofS (N := Ng) (us := [.ref f]) (vs := [.ref f]) (ps := [a]) lk hcg Sg hr J.env0 (hbd s' [.ref f] J.kIn rfl) (.cons rfl .nil) rfl ?_
    intro hr'
    obtain ⟨tt, htt, hq⟩ := G f c' s' H1 Q (fun E H' Q' => t E σ H' Q') (fun W pn xe E p1 p2 tk hW => LamX.pe_act (i := 0) J L hf hfn hfr (bnd _ _ _ _ _) tk hW hr' (fun A outer s H hr2 => hb A outer s H E f c' hr2) n0 va d2 d3) hco (h H1 ext T1)
    exact ⟨tt, htt.nox, hq⟩
  refine Calls.spliced_nil ⟨J.kIn, wpAny_call (codeAny_mono run ?_)⟩
  intro r s2 hq
  cases r with
  | error e => exact (show False from hq).elim
  | ok fl =>
    cases fl with
    | ret u => exact J.after hq
    | _ => exact False.elim hq
/-- caught: None, or the error -/
def TCaught (K : PySem.W.Frag) (CS : Addr) : (XK → Hp → VK → Prop) → Hp → VK → Prop := fun tl H Q =>
  tl (fun cls d H' => ∃ C : Addr, cls = .ref C ∧ PySem.W.exmOne K cls (.ref CS) = some true ∧ ∀ a, H' a = none → Q (.ref a) (upd H' a (excH a C d))) H fun _ H' => Q .non H'
/-- what is read only -/
def shR (ρ : Rho) : Rho := ρ.map fun s => match s with
  | some (true, _) => none
  | s => s
theorem shR_get {ρ : Rho} {i : Nat} {b : Bool} {d : D} (h : (shR ρ)[i]? = some (some (b, d))) : b = false ∧ ρ[i]? = some (some (false, d)) := by
  unfold shR at h
  rw [List.getElem?_map] at h
  obtain ⟨s, h1, h2⟩ := Option.map_eq_some_iff.mp h
  match s, h2 with
  | some (false, d'), h2 =>
    cases h2
    exact ⟨rfl, h1⟩
/-- the heap behind the making of a lambda -/
theorem LP.grown {K : PySem.W.Frag} {Tt : List (Addr × Str)} (L : LP K Tt) {n : Nat} {H H1 : Hp} {P : Addr} {q : Str} (mem : (P, q) ∈ Tt) (g : L.G n H) (x : ExtP P H H1) (t : LamX.Tabs Tt H1) : L.G n H1 := by
  obtain ⟨⟨gr, left, turn, h1, h2, h3, h4⟩, hs, ht, hn⟩ := g
  obtain ⟨ps, hP, _⟩ := ht _ mem
  have ne : ∀ b o, H b = some o → (∀ qs, o ≠ .tbl qs) → b ≠ P := fun b o e k z => by
    rw [z, hP] at e
    exact k ps (Option.some.inj e).symm
  refine ⟨⟨gr, left, turn, x _ _ (ne _ _ h1 fun _ z => nomatch z) h1, x _ _ (ne _ _ h2 fun _ z => nomatch z) h2, x _ _ (ne _ _ h3 fun _ z => nomatch z) h3, h4⟩, ?_, t, hn⟩
  rcases hs with ⟨tr, h⟩ | ⟨tr, ⟨o, h⟩ | h⟩
  · exact .inl ⟨tr, x _ _ (ne _ _ h fun _ z => nomatch z) h⟩
  · exact .inr ⟨tr, .inl ⟨o, x _ _ (ne _ _ h fun _ z => nomatch z) h⟩⟩
  · exact .inr ⟨tr, .inr h⟩
/-- the world of the lambda's body -/
def Wlam {W : Wd} {n : Nat} {Z : ZL} {T : TL} {ρ : Rho} {σ : L2.St} {H : Hp} (e : Env W n Z T ρ σ H) (Q : Nat → D → Prop) (K : PySem.W.Frag) (CS : Addr) (k : VK) (hk : RetK W Z T ρ σ Q k) : Wd where
  V := W.V
  X0 := XX W Z ρ σ
  G := W.G
  H0 := H
  E := fun cls d H' => ∃ C : Addr, cls = .ref C ∧ PySem.W.exmOne K cls (.ref CS) = some true ∧ ∀ a, H' a = none → k (.ref a) (upd H' a (excH a C d))
  EP := fun n C ns l => ns = [] ∧ l = [] ∧ PySem.W.exmOne K (.ref C) (.ref CS) = some true ∧ Q n (.exc C [] [])
  vx := fun a h => .inl (W.vx a h)
  xd := fun a h => e.xdom h
  vd := W.vd
  stab := W.stab
  hE := fun n' C ns l od H' ⟨h1, h2, ex, q⟩ fr g x => by
    refine ⟨C, rfl, ex, fun a ha => ?_⟩
    have h0 : od = none := by
      rcases x with ⟨_, _, x⟩ | ⟨_, _, x, _⟩
      · exact x
      · exact absurd h1 x
    subst h0
    have e2 := e.heap fr g
    exact hk n' _ _ _ q (e2.new ha) (.exc0 (fun x => e2.xdom x ha) upd_same)
theorem de_caught {K : PySem.W.Frag} {Tt : List (Addr × Str)} {W : Wd} {n : Nat} {ρ : Rho} {Q : Nat → D → Prop} {P CS : Addr} {q : Str} {te : XK → TE} (L : LP K Tt) (hV : W.V = L.V) (hG : W.G = L.G) (mem : (P, q) ∈ Tt)
    (h : ∀ (W' : Wd) (E' : XK), W'.V = L.V → W'.G = L.G → W'.E = E' → W'.EP = (fun n C ns l => ns = [] ∧ l = [] ∧ PySem.W.exmOne K (.ref C) (.ref CS) = some true ∧ Q n (.exc C [] [])) → DE (te E') W' n (shR ρ) fun n' _ => Q n' .non) :
    DE (tLam1 Tt P (TCaught K CS) te) W n ρ Q := fun Z T σ H e Qk k => by
  have g0 : L.G n H := by rw [← hG]; exact e.g
  refine ⟨g0.2.2.1, fun H1 ext T1 => ?_⟩
  have vP : W.V P := by rw [hV]; exact .inr (.inr (.inr (.inr ⟨_, mem, rfl⟩)))
  have e1 : Env W n Z T ρ σ H1 := e.heap (fun b o hb hv => ext b o (fun z => hv (by rw [z]; exact vP)) hb) (by rw [hG]; exact L.grown mem g0 ext T1)
  have m : ∀ b, XX (Wlam e1 Q K CS Qk k) [] (shR ρ) σ b → XX W Z ρ σ b := fun b x => by
    rcases x with x | ⟨i, d, x, _⟩ | ⟨o, x⟩
    · exact x
    · have := (shR_get x).1
      cases this
    · cases x
  have mv : Mv (XX W Z ρ σ) H1 (XX (Wlam e1 Q K CS Qk k) [] (shR ρ) σ) H1 := fun b o hb hx => ⟨hb, fun x => hx (m b x)⟩
  have e2 : Env (Wlam e1 Q K CS Qk k) n [] [] (shR ρ) σ H1 := by
    refine ⟨by unfold shR; rw [List.length_map]; exact e.len, fun i d x => ?_, fun i d x => ?_, fun i j d d' a x => ?_, fun p hp => (nomatch hp), List.nodup_nil, fun p hp => (nomatch hp), fun a o ha _ => ha, e1.g⟩
    · obtain ⟨v, h1, h2⟩ := e1.sh i d (shR_get x).2
      exact ⟨v, h1, h2.mv mv⟩
    · have := (shR_get x).1
      cases this
    · have := (shR_get x).1
      cases this
  exact h (Wlam e1 Q K CS Qk k) _ hV hG rfl rfl [] [] σ H1 e2 _ fun n' v d H' p e3 _ => k n' .non .non H' p (e1.heap e3.fr e3.g) .non
/-! ### defs whose code object is known (the makers of lambdas) -/
structure DefC (K : PySem.W.Frag) (mg : Str → Option Value) (x : Str) (st : Stmt) (ps : List Str) (c : Addr) : Prop where
  ex : ∃ (f : Addr) (oc : Value) (od : Option Addr) (kV doc pm : Value) (an : Option Addr) (ct : Value) (osl : Array (Option Value)), K.lookup f = some ⟨oc, od, .func (PySem.W.fnOf x x (defArgs st) (defBody st) (defScope st) .none kV doc pm an (.ref c) ct), osl⟩ ∧
    PySem.W.codeIn K (.ref c) x = true ∧ PySem.W.keepIn K (.ref f) = true ∧ mg x = some (.ref f) ∧ Binds K (PySem.W.fnOf x x (defArgs st) (defBody st) (defScope st) .none kV doc pm an (.ref c) ct) ps []
section
variable {P : Program} {w : World} {K : PySem.W.Frag} {Tt : List (Addr × Str)} {mg : Str → Option Value} {base : Heap} {k m c0 : Nat} {c : Addr} {x : Str} {st : Stmt} {N ps : List Str} {pre : LP K Tt → List D → Prop} {R : LP K Tt → List D → Bool → D → Prop}
theorem DefC.def (Dd : DefC K mg x st ps c) : Def K mg x st ps := by
  obtain ⟨f, oc, od, kV, doc, pm, an, ct, osl, lk, hc, hk, hm, hb⟩ := Dd.ex
  exact ⟨f, _, ⟨⟨oc, od, kV, doc, pm, an, .ref c, ct, osl, rfl, lk, hc⟩, hk⟩, hm, hb⟩
theorem DefC.raw {sp : Sp} (Dd : DefC K mg x st ps c) (S : FnScope N ps (defScope st)) (len : ∀ vs H Q E, sp vs H Q E → vs.length = ps.length)
    (h : ∀ (f : Addr) (A : Around) (outer : List PySem.Env) (s : Shared) (H : Hp) (vs : List L2.V) (Q : VK) (E : XK), Room k (A.deeper (envOfC x (defScope st) s.heap.objs.size f (.ref c))) → sp vs H Q E →
      ∃ t, PSs (cxD P w K mg base N x st f (.ref c) A outer s H E) (defBody st) t ∧ t { nx := fun _ H' => Q .non H', rt := Q } (L2.start N vs) H) : Cal P w K mg base (k + 1) x st ps sp := by
  obtain ⟨f, oc, od, kV, doc, pm, an, ct, osl, lk, hc, hk, hm, hb⟩ := Dd.ex
  exact ⟨f, _, fn_of lk hc S len fun A outer s H vs Q E hr q => h f A outer s H vs Q E hr q, hm, hk, hb, ⟨⟨oc, od, kV, doc, pm, an, .ref c, ct, osl, rfl, lk, hc⟩, hk⟩⟩
theorem DefC.okL (Dd : DefC K mg x st ps c) (S : FnScope N ps (defScope st)) (hn : m = ps.length)
    (h : ∀ (f : Addr) (A : Around) (outer : List PySem.Env) (s : Shared) (H : Hp) (E : XK), Room k (A.deeper (envOfC x (defScope st) s.heap.objs.size f (.ref c))) →
      ∃ t, PSs (cxD P w K mg base N x st f (.ref c) A outer s H E) (defBody st) t ∧ ∀ (L : LP K Tt) (W : Wd) (n : Nat) (ds : List D), W.V = L.V → W.G = L.G → W.E = E → ds.length = m → c0 ≤ n → pre L ds →
        DS t W n (startR N ds) (fun n' _ => n ≤ n' + c0 ∧ R L ds false .non) (fun n' b d => n ≤ n' + c0 ∧ R L ds b d) (fun _ _ => False) (fun _ _ => False)) : Cal P w K mg base (k + 1) x st ps (spL K Tt m c0 pre R) := by
  refine Dd.raw S (fun vs H Q E ⟨L, q⟩ => by rw [prm_len q, hn]) fun f A outer s H vs Q E hr ⟨L, q⟩ => ?_
  obtain ⟨t, ht, hd⟩ := h f A outer s H E hr
  exact ⟨t, ht, prm_body L.stab q fun W n ds w1 w2 w3 w4 hl ⟨hc, hp⟩ => (hd L W n ds w1 w2 w3 hl hc hp).impR (fun n' ρ ⟨a, b⟩ => ⟨a, _, _, rfl, b⟩) fun n' b d ⟨h1, h2⟩ => ⟨h1, _, _, rfl, h2⟩⟩
end
theorem LamD.of {X : Cx} {T : List (Addr × Str)} {x a : Str} {c P : Addr} {TT : (XK → Hp → VK → Prop) → Hp → VK → Prop} {st : Stmt} {Ng : List Str} (Dd : Def X.K X.mg x st [a]) (S : FnScope Ng [a] (defScope st)) (n0 : Ng[0]? = some a) (va : Vis (defScope st) a)
    (G : ∀ (g : Addr) (cdv : Value), LamX.GivesTo X Ng x (defScope st) g cdv (defBody st) a (X.env.qual ++ "<lambda>") TT) (TB : LamX.TabB X.base X.mg c P) (co : X.env.code = .ref c) (mem : (P, X.env.qual ++ "<lambda>") ∈ T) (only : ∀ p ∈ T, p.1 = P → p.2 = X.env.qual ++ "<lambda>") : LamD X T x a c P TT := by
  obtain ⟨f, fd, F, hm, hb⟩ := Dd.ex
  obtain ⟨oc, od, kV, doc, pm, an, cdv, ct, osl, rfl, lk, hc⟩ := F.ex
  exact ⟨⟨f, _, _, _, _, _, _, _, _, _, _, _, _, _, Ng, hm, F.kp, lk, hc, hb, S, n0, va, G f cdv⟩, TB, co, mem, only⟩
/-- in a lambda's body errors go out as the lambda's own -/
theorem passLam {X : Cx} {A : Around} {outer : List PySem.Env} {s : Shared} {H : Hp} {E : XK} {scope : Scope} {f c' : Addr} : Passes (L2.CX (LamX.lamCx X A outer s H E scope f c').prog (LamX.lamCx X A outer s H E scope f c').w) (LamX.lamCx X A outer s H E scope f c') E := passes_call (takes_of rfl rfl rfl rfl) fun _ _ _ _ h => h
/-! ### the law itself -/
def spLaw (K : PySem.W.Frag) (Tt : List (Addr × Str)) : Sp := fun vs H Q _ => ∃ (a : Addr) (ns : List Int), vs = [.ref a] ∧ SqL K H a (ns.map .int) ∧ ns.length ≤ 63 ∧ LamX.Tabs Tt H ∧ ∀ H', Q (.bl true) H'
theorem law_run {K : PySem.W.Frag} {Tt : List (Addr × Str)} {u : TS} {E : XK} {Q : VK} {H : Hp} {vs : List L2.V} {n0 n1 : Str} {N : List Str} (h : spLaw K Tt vs H Q E)
    (k : ∀ (L : LP K Tt) (W : Wd) (ns : List Int), W.V = L.V → W.G = L.G → W.E = E → ns.length ≤ 63 → (∀ n H, W.G n H → SqL K H L.a (ns.map .int)) →
      DS u W (2 ^ 30) (some (false, .raw L.a) :: some (false, .raw L.s) :: List.replicate N.length none) (fun _ _ => False) (fun _ _ d => d = .bl true) (fun _ _ => False) (fun _ _ => False)) :
    tSeq (tAsg (tCall (spBegun K) [] E (tCons (tVar 0) tNil)) (gName 1)) u { nx := fun _ H' => Q .non H', rt := Q } (L2.start (n0 :: n1 :: N) vs) H := by
  obtain ⟨a, ns, rfl, hsq, hl, hT, q⟩ := h
  obtain ⟨tr, hs⟩ := scr_of hsq
  refine ⟨_, rfl, ⟨a, ns, rfl, hsq, by omega, fun s g c gr cells H' hgr hs0 hg0 hc0 nsg nsc ngc h1 h2 h3 keep => ?_⟩⟩
  have hG : (LP.mk s g c a cells (ns.map .int) tr : LP K Tt).G (2 ^ 30) H' := by
    refine ⟨⟨gr, 0, 0, h1, h2, h3, Int.le_refl _, hgr, Int.le_refl _, by decide⟩, ?_, hT.ext keep, ngc, fun t z => ?_⟩
    · rcases hs with ⟨t, h⟩ | ⟨t, ⟨o, h⟩ | h⟩
      · exact .inl ⟨t, keep _ _ h⟩
      · exact .inr ⟨t, .inl ⟨o, keep _ _ h⟩⟩
      · exact .inr ⟨t, .inr h⟩
    · rcases hs with ⟨_, h⟩ | ⟨t', _⟩
      · have z : a = g := z
        rw [z, hg0] at h; cases h
      · exact t' t
  have st := (LP.mk s g c a cells (ns.map .int) tr : LP K Tt).stab
  obtain ⟨W, w1, w2, w3, w4, w5⟩ : ∃ W : Wd, W.V = (LP.mk s g c a cells (ns.map .int) tr : LP K Tt).V ∧ W.G = (LP.mk s g c a cells (ns.map .int) tr : LP K Tt).G ∧ W.E = E ∧ W.X0 = W.V ∧ W.H0 = H' :=
    ⟨{ V := (LP.mk s g c a cells (ns.map .int) tr : LP K Tt).V, X0 := (LP.mk s g c a cells (ns.map .int) tr : LP K Tt).V, G := (LP.mk s g c a cells (ns.map .int) tr : LP K Tt).G, H0 := H', E := E, EP := fun _ _ _ _ => False, vx := fun _ h => h, xd := fun b hb => st.vd _ _ hG b hb, vd := st.vd, stab := st.stab, hE := fun _ _ _ _ _ _ h => False.elim h }, rfl, rfl, rfl, rfl, rfl⟩
  have none_slots : ∀ (X : AP) (m : Nat), Slots X H' (List.replicate m none) (List.replicate m none) := fun X m => by
    induction m with
    | zero => exact True.intro
    | succ m ih => exact ih
  have e : Env W (2 ^ 30) [] [] (some (false, .raw a) :: some (false, .raw s) :: List.replicate N.length none) (some (.ref a) :: some (.ref s) :: List.replicate N.length none) H' :=
    env_slots ⟨.raw a, .raw s, none_slots _ _⟩ (fun b o hb _ => by rw [w5] at hb; exact hb) (by rw [w2]; exact hG)
  exact k ⟨s, g, c, a, cells, ns.map .int, tr⟩ W ns w1 w2 w3 hl (fun n H g => by rw [w2] at g; exact g.2.1.sq) [] [] _ H' e _ ⟨fun _ _ _ _ h => h.elim, fun n v d H2 hd _ _ i => (by rw [hd] at i; cases i; exact q H2), fun n a o d H2 hd _ _ _ _ ho => (by rw [hd] at ho; cases ho), fun _ _ _ _ h => h.elim, fun _ _ _ _ h => h.elim⟩
end HD

namespace HD
open PySem PySem.Spec PyProof.Rows L2
/-! ### from the head's facts -/
section
variable {K : PySem.W.Frag} {mg : Str → Option Value} {x : Str} {st : Stmt} {ps : List Str} {f : Addr} {fd : FuncData}
theorem fun_of (F : FunD K x x (defArgs st) (defBody st) (defScope st) [] [] f fd) : Fun K x x st f fd := by
  obtain ⟨oc, od, dV, kV, doc, pm, an, cdv, ct, osl, rfl, lk, hc, hD, _⟩ := F.ex
  rcases hD with ⟨_, rfl⟩ | ⟨h, _⟩
  · exact ⟨⟨oc, od, kV, doc, pm, an, cdv, ct, osl, rfl, lk, hc⟩, F.kp⟩
  · exact absurd rfl h
theorem def_of (F : FunD K x x (defArgs st) (defBody st) (defScope st) [] [] f fd) (hm : mg x = some (.ref f))
    (h : ∀ (kV doc pm : Value) (an : Option Addr) (cdv ct : Value) (us : List Value), us.length = ps.length → bindArgs (PySem.W.fnOf x x (defArgs st) (defBody st) (defScope st) .none kV doc pm an cdv ct) ⟨us, []⟩ = pure (ps.zip us)) : Def K mg x st ps := ⟨f, fd, fun_of F, hm, F.bindsN h⟩
theorem defC_of {p : Str × Option Str} (F : FunD K x x (defArgs st) (defBody st) (defScope st) [] [] (He.fAd K p) fd) (hm : mg x = some (.ref (He.fAd K p)))
    (h : ∀ (kV doc pm : Value) (an : Option Addr) (cdv ct : Value) (us : List Value), us.length = ps.length → bindArgs (PySem.W.fnOf x x (defArgs st) (defBody st) (defScope st) .none kV doc pm an cdv ct) ⟨us, []⟩ = pure (ps.zip us)) : DefC K mg x st ps (He.cT K p).1 := by
  have b := F.bindsN h
  obtain ⟨oc, od, dV, kV, doc, pm, an, cdv, ct, osl, rfl, lk, hc, hD, _⟩ := F.ex
  rcases hD with ⟨_, rfl⟩ | ⟨z, _⟩
  · obtain ⟨c, e⟩ := He.codeIn_ref hc
    subst e
    have ec : (He.cT K p).1 = c := He.codeOf_eq lk rfl
    rw [ec]
    exact ⟨_, oc, od, kV, doc, pm, an, ct, osl, lk, hc, F.kp, hm, b⟩
  · exact absurd rfl z
theorem Cal.fnok {P : Program} {w : World} {base : Heap} {k : Nat} {sp : Sp} (C : Cal P w K mg base k x st ps sp) (F : FunD K x x (defArgs st) (defBody st) (defScope st) [] [] f fd) (hm : mg x = some (.ref f)) : FnOk P w K mg base (L2.CX P w) k f fd ps sp := by
  obtain ⟨f', fd', G, hm', _, _, F'⟩ := C.ex
  rw [hm] at hm'
  cases hm'
  obtain ⟨oc, od, kV, doc, pm, an, cdv, ct, osl, e, lk, _⟩ := F'.ex
  obtain ⟨oc2, od2, dV2, kV2, doc2, pm2, an2, cdv2, ct2, osl2, e2, lk2, _⟩ := F.ex
  rw [lk] at lk2
  cases lk2
  exact G
end
/-- what isinstance asks of an error class, decided -/
def excCB (K : PySem.W.Frag) (D : Addr) : Bool := He.eqO (PySem.W.findIn K (.ref D) "__getattribute__") (some (some (.builtin "BaseException.__getattribute__"))) && (He.eqO (PySem.W.findIn K (.ref D) "__getattr__") (some none) && (decide (PySem.W.subIn K (.ref D) (.type "BaseException") = some true) &&
  (PySem.W.hasDictIn K D && (He.eqO (PySem.W.findIn K (.ref D) "__class__") (some (some (.builtin "object.__class__"))) && (He.eqO (PySem.W.specialIn K (.builtin "object.__class__") "__get__") (some (some (.builtin "getset_descriptor.__get__"))) &&
  (decide (PySem.W.takesIn K (.builtin "object.__class__") = some true) && decide (PySem.W.mroIn K D (.type "object") = some true)))))))
theorem excC_of {K : PySem.W.Frag} {D : Addr} (h : excCB K D = true) : ExcC K D := by
  unfold excCB at h
  simp only [Bool.and_eq_true] at h
  obtain ⟨h1, h2, h3, h4, h5, h6, h7, h8⟩ := h
  exact ⟨He.eqO_ok h1, He.eqO_ok h2, of_decide_eq_true h3, h4, He.eqO_ok h5, He.eqO_ok h6, of_decide_eq_true h7, of_decide_eq_true h8⟩
theorem excT_of {K : PySem.W.Frag} {mg : Str → Option Value} {h : Heap} {x : Str} (X : K.In h) (G : h.Ns mainGlobals mg) (c1 : (He.Fa.glo x).ok K = true) (c2 : (He.Fa.exc x).ok K = true) : ExcT K mg x (He.ga K x) := by
  obtain ⟨h1, h2, h3, h4⟩ := He.exc_ok c2
  exact ⟨He.glo_ok X G c1, h1, h2, h3, h4⟩
end HD

namespace Kx
open PySem PySem.Spec PyProof.Rows L2 HD
def top (i : Nat) : Stmt := PySem.Challenge.pw_pulledrooms_k41_rows_judged_and_their_nu.main.body.getD i (.Pass ⟨0, 0, 0, 0⟩)
abbrev s_is_number : Stmt := top 1
theorem sc_is_number : FnScope ["value"] ["value"] (defScope s_is_number) := ⟨rfl, rfl, rfl, by decide +kernel, rfl, by decide +kernel, by decide +kernel⟩
abbrev s_is_row : Stmt := top 8
theorem sc_is_row : FnScope ["thing"] ["thing"] (defScope s_is_row) := ⟨rfl, rfl, rfl, by decide +kernel, rfl, by decide +kernel, by decide +kernel⟩
abbrev s_are_rows : Stmt := top 9
theorem sc_are_rows : FnScope ["thing", "item"] ["thing"] (defScope s_are_rows) := ⟨rfl, rfl, rfl, by decide +kernel, rfl, by decide +kernel, by decide +kernel⟩
abbrev s_need_row_list : Stmt := top 10
theorem sc_need_row_list : FnScope ["rows"] ["rows"] (defScope s_need_row_list) := ⟨rfl, rfl, rfl, by decide +kernel, rfl, by decide +kernel, by decide +kernel⟩
abbrev s_row_has : Stmt := top 11
theorem sc_row_has : FnScope ["row", "number", "first", "step"] ["row", "number"] (defScope s_row_has) := ⟨rfl, rfl, rfl, by decide +kernel, rfl, by decide +kernel, by decide +kernel⟩
abbrev s_in_rows : Stmt := top 12
theorem sc_in_rows : FnScope ["rows", "number", "row"] ["rows", "number"] (defScope s_in_rows) := ⟨rfl, rfl, rfl, by decide +kernel, rfl, by decide +kernel, by decide +kernel⟩
abbrev s__law_begun : Stmt := top 14
theorem sc__law_begun : FnScope ["_law_script", "_law_great", "_law_cell"] ["_law_script"] (defScope s__law_begun) := ⟨rfl, rfl, rfl, by decide +kernel, rfl, by decide +kernel, by decide +kernel⟩
abbrev s__law_blended : Stmt := top 15
theorem sc__law_blended : FnScope ["_law_state", "_law_turn", "_law_found", "_law_prime", "_law_blend", "_law_cell"] ["_law_state"] (defScope s__law_blended) := ⟨rfl, rfl, rfl, by decide +kernel, rfl, by decide +kernel, by decide +kernel⟩
abbrev s__law_draw : Stmt := top 16
theorem sc__law_draw : FnScope ["_law_state", "_law_size_here", "_law_found"] ["_law_state", "_law_size_here"] (defScope s__law_draw) := ⟨rfl, rfl, rfl, by decide +kernel, rfl, by decide +kernel, by decide +kernel⟩
abbrev s__law_pick : Stmt := top 17
theorem sc__law_pick : FnScope ["_law_state", "_law_several"] ["_law_state", "_law_several"] (defScope s__law_pick) := ⟨rfl, rfl, rfl, by decide +kernel, rfl, by decide +kernel, by decide +kernel⟩
abbrev s__law_caught : Stmt := top 18
theorem sc__law_caught : FnScope ["_law_work", "_law_caught_here", "error"] ["_law_work"] (defScope s__law_caught) := ⟨rfl, rfl, rfl, by decide +kernel, rfl, by decide +kernel, by decide +kernel⟩
abbrev s__law_is_truth : Stmt := top 19
theorem sc__law_is_truth : FnScope ["_law_found", "_law_due"] ["_law_found", "_law_due"] (defScope s__law_is_truth) := ⟨rfl, rfl, rfl, by decide +kernel, rfl, by decide +kernel, by decide +kernel⟩
abbrev s__law_is_whole : Stmt := top 20
theorem sc__law_is_whole : FnScope ["_law_item"] ["_law_item"] (defScope s__law_is_whole) := ⟨rfl, rfl, rfl, by decide +kernel, rfl, by decide +kernel, by decide +kernel⟩
abbrev s__law_k_is_row : Stmt := top 21
theorem sc__law_k_is_row : FnScope ["_law_item_here"] ["_law_item_here"] (defScope s__law_k_is_row) := ⟨rfl, rfl, rfl, by decide +kernel, rfl, by decide +kernel, by decide +kernel⟩
abbrev s__law_k_has : Stmt := top 22
theorem sc__law_k_has : FnScope ["_law_rows_here", "_law_number_here", "_law_first", "_law_step"] ["_law_rows_here", "_law_number_here"] (defScope s__law_k_has) := ⟨rfl, rfl, rfl, by decide +kernel, rfl, by decide +kernel, by decide +kernel⟩
abbrev s__law_k_rows : Stmt := top 23
theorem sc__law_k_rows : FnScope ["_law_state", "_law_many", "_law_sizes", "_law_found", "_law_turn", "_law_step"] ["_law_state", "_law_many", "_law_sizes"] (defScope s__law_k_rows) := ⟨rfl, rfl, rfl, by decide +kernel, rfl, by decide +kernel, by decide +kernel⟩
abbrev s__law_k_bad_rows : Stmt := top 24
theorem sc__law_k_bad_rows : FnScope ["_law_state", "_law_odd", "_law_item"] ["_law_state"] (defScope s__law_k_bad_rows) := ⟨rfl, rfl, rfl, by decide +kernel, rfl, by decide +kernel, by decide +kernel⟩
abbrev s__law_near_row : Stmt := top 25
theorem sc__law_near_row : FnScope ["_law_state", "_law_first", "_law_step", "_law_some"] ["_law_state"] (defScope s__law_near_row) := ⟨rfl, rfl, rfl, by decide +kernel, rfl, by decide +kernel, by decide +kernel⟩
abbrev s__law_lists_right : Stmt := top 26
theorem sc__law_lists_right : FnScope ["_law_state", "_law_some", "_law_turn", "_law_due", "_law_item"] ["_law_state"] (defScope s__law_lists_right) := ⟨rfl, rfl, rfl, by decide +kernel, rfl, by decide +kernel, by decide +kernel⟩
abbrev s_law : Stmt := top 27
theorem sc_law : FnScope ["_law_script", "_law_state", "_law_turn", "_law_item", "_law_rows_here", "_law_kept", "_law_spot", "_law_asked", "_law_bad", "_law_odd"] ["_law_script"] (defScope s_law) := ⟨rfl, rfl, rfl, by decide +kernel, rfl, by decide +kernel, by decide +kernel⟩
local macro_rules | `(tactic| walk_at "hdpre") => `(tactic| first | exact True.intro | exact rfl | assumption)
local macro_rules | `(tactic| walk_at "hdpl") => `(tactic| first | exact rfl | assumption)
local macro_rules | `(tactic| walk_at "hd1") => `(tactic| first
  | (with_reducible refine ds_seq ?_)
  | (with_reducible refine ds_if ?_)
  | (with_reducible refine ds_retN ?_)
  | (with_reducible refine ds_raise' (by assumption) ?_)
  | ((with_reducible refine' ds_ret_own ?h ?_); (case h => exact rfl))
  | (with_reducible refine ds_ret ?_)
  | (with_reducible refine ds_next ?_)
  | ((with_reducible refine' ds_append ?h ?_); (case h => exact rfl))
  | (with_reducible refine ds_drop ?_)
  | (with_reducible refine ds_par ?_)
  | (with_reducible refine ds_own (df_lst ?_))
  | (with_reducible refine ds_own (df_dnew ?_))
  | (with_reducible refine ds_set ?_)
  | (with_reducible refine' ds_asg ?_)
  | (with_reducible refine dg_name ?_)
  | ((with_reducible refine' dg_tup ?h ?_); (case h => exact rfl))
  | (with_reducible refine' dgs_cons ?_)
  | (with_reducible refine dgs_nil ?_)
  | ((with_reducible refine' de_op_o ?h ?_); (case h => exact rfl))
  | ((with_reducible refine' de_var ?h ?_); (case h => exact rfl))
  | (with_reducible refine de_int ?_) | (with_reducible refine de_bl ?_) | (with_reducible refine de_non ?_) | (with_reducible refine de_str ?_) | (with_reducible refine de_ty ?_) | (with_reducible refine de_raw ?_)
  | (with_reducible refine de_op ?_)
  | (with_reducible refine de_un ?_)
  | (with_reducible refine du_neg ?_)
  | (with_reducible refine DF.de (df_dnew ?_))
  | (with_reducible refine DRF.dr (r_repL (by decide) (by decide) (szl (Nat.le_of_ble_eq_true rfl)) ?_))
  | (with_reducible refine DRF.dr (r_addL (szl (Nat.le_of_ble_eq_true rfl)) ?_))
  | (with_reducible refine r_pow c_pow ?_)
  | (with_reducible refine r_mul (c_small (by decide)) ?_)
  | (with_reducible refine r_mul (c_smallL (by decide)) ?_)
  | (with_reducible refine de_dispT1 ?_)
  | (with_reducible refine de_andV ?_) | (with_reducible refine de_orV ?_) | (with_reducible refine de_notV ?_)
  | (with_reducible refine de_if ?_)
  | (with_reducible refine de_chain ?_)
  | (with_reducible refine de_tup ?_)
  | (with_reducible refine DF.de (df_lst ?_))
  | ((with_reducible refine' de_cb_o ?h ?_); (case h => exact rfl))
  | (with_reducible refine de_cb ?_)
  | (with_reducible refine de_sl ?_)
  | (with_reducible refine do_none ?_) | (with_reducible refine do_some ?_)
  | (with_reducible refine dt_test ?_) | (with_reducible refine dt_B ?_) | (with_reducible refine dt_and ?_) | (with_reducible refine dt_or ?_) | (with_reducible refine dt_not ?_) | (with_reducible refine dt_yes ?_)
  | ((with_reducible refine' de_draw _ ?hV ?hG ?_); (case hV => assumption); (case hG => assumption))
  | ((with_reducible refine' de_pick _ ?hV ?hG ?_); (case hV => assumption); (case hG => assumption))
  | (with_reducible refine de_det ?_)
  | (refine de_detK0 ?_)
  | (with_reducible refine da_nil ?_) | (with_reducible refine da_cons ?_)
  | (with_reducible refine r_add ?_) | (with_reducible refine r_sub ?_) | (with_reducible refine r_lt ?_) | (with_reducible refine r_le ?_) | (with_reducible refine r_gt ?_) | (with_reducible refine r_ge ?_)
  | (with_reducible refine r_eqI ?_) | (with_reducible refine r_neI ?_) | (with_reducible refine r_isN ?_) | (with_reducible refine r_isnN ?_) | (with_reducible refine r_isB ?_) | (with_reducible refine r_isnB ?_)
  | ((with_reducible refine' r_ixT ?h ?_); (case h => exact rfl))
  | ((with_reducible refine' r_ixL ?h ?_); (case h => exact rfl))
  | (with_reducible refine b_lenT ?_) | (with_reducible refine b_lenL ?_)
  | (with_reducible refine b_abs ?_) | (with_reducible refine b_min2 ?_) | (with_reducible refine b_max2 ?_) | (with_reducible refine b_int ?_)
  | ((with_reducible refine' u_is_int ?h ?_); (case h => walk_at "hdpl"))
  | ((with_reducible refine' u_is_bool ?h ?_); (case h => walk_at "hdpl"))
  | ((with_reducible refine' u_is_tuple ?h ?_); (case h => walk_at "hdpl"))
  | ((with_reducible refine' u_is_list ?h ?_); (case h => walk_at "hdpl"))
  | ((with_reducible refine' u_is_str ?h ?_); (case h => walk_at "hdpl"))
  | ((with_reducible refine' u_is_dict ?h ?_); (case h => walk_at "hdpl"))
  | ((with_reducible refine' u_is_lt ?h ?_); (case h => walk_at "hdpl"))
  | ((with_reducible refine' DCF.dc (b_list ?h ?_)); (case h => first | exact .inl rfl | exact .inr rfl))
  | ((with_reducible refine' b_tuple ?h ?_); (case h => first | exact .inl rfl | exact .inr rfl))
  | ((refine ⟨rfl, ?h, _, _, rfl, ?_⟩); (case h => walk_at "hdpre"))
  | ((refine ⟨rfl, rfl, ?h, _, _, rfl, ?_⟩); (case h => walk_at "hdpre"))
  | (refine ⟨_, .inl rfl, Nat.zero_lt_succ _, Nat.le_of_ble_eq_true rfl, by omega, fun nd kd hnd hkm => ?_⟩)
  | (refine ⟨by decide, p9 (by decide), by omega, fun nd kd hnd hk0 hk1 => ?_⟩)
  | (refine ⟨_, rfl, ?_⟩)
  | (refine ⟨szl (Nat.le_of_ble_eq_true rfl), ?_⟩)
  | (refine ⟨_, _, rfl, ?_⟩)
  | (refine bT ?_)
  | (refine bF ?_)
  | (refine ⟨fun hb => ?_, fun hb => ?_⟩)
  | dsimp only)

/-- what the draws ask of the module's names -/
structure Txd (mg : Str → Option Value) : Prop where
  b_len : mg "len" = none
  b_int : mg "int" = none
  b_abs : mg "abs" = none

/-! ### the draws -/
section
variable {P : Program} {w : World} {K : PySem.W.Frag} {mg : Str → Option Value} {base : Heap} {Tt : List (Addr × Str)}
theorem ok__law_begun (T : Txd mg) (Dd : Def K mg "_law_begun" s__law_begun ["_law_script"]) : Cal P w K mg base 1 "_law_begun" s__law_begun ["_law_script"] (spBegun K) := by
  refine Dd.raw sc__law_begun (fun vs H Q E ⟨a, ns, h, _⟩ => by rw [h]; rfl) fun f cdv A outer s H vs Q E hr hq => ⟨_, (pss_cons (ps_setLc (i := 1) (own := [("_law_cell", 2)]) rfl sc__law_begun.nd rfl rfl (sw_true rfl rfl rfl (by decide +kernel)) (pi_seq (pv 0)) (blkOk_by (own := [("_law_cell", 2)]) (N := ["_law_script", "_law_great", "_law_cell"]) (sc := defScope s__law_begun) (by decide +kernel)) (fun _ _ _ _ _ => (pg_name (i := 2) sc__law_begun.nd rfl (by first | exact Or.inl rfl | exact Or.inr rfl))) (fun _ _ _ _ _ => (pts_one (pt_cmpR op_geU (pe_callB call_absU (by rfl) T.b_abs bb_abs (pa_cons (pv 2) pa_nil)) (pe_op op_powU (pe_int) (pe_int)) (nomark _)))) (fun _ _ _ _ _ => (pe_op op_subU (pe_callB call_absU (by rfl) T.b_abs bb_abs (pa_cons (pv 2) pa_nil)) (pe_op op_powU (pe_int) (pe_int)))))
    (pss_one (ps_ret (pe_disp (pps_cons (pe_str) (pv 1) (pps_cons (pe_str) (pe_lc (own := [("_law_cell", 2)]) rfl sc__law_begun.nd (pi_seq (pv 0)) (blkOk_by (own := [("_law_cell", 2)]) (N := ["_law_script", "_law_great", "_law_cell"]) (sc := defScope s__law_begun) (by decide +kernel)) (fun _ _ _ _ _ => (pg_name (i := 2) sc__law_begun.nd rfl (by first | exact Or.inl rfl | exact Or.inr rfl))) (fun _ _ _ _ _ => pts_nil) (fun _ _ _ _ _ => (pe_callB call_absU (by rfl) T.b_abs bb_abs (pa_cons (pv 2) pa_nil)))) (pps_cons (pe_str) (pe_int) (pps_cons (pe_str) (pe_int) pps_nil)))) (by rfl) (by rfl) (fun z => by cases z) (by decide))))), ?_⟩
  obtain ⟨a, ns, rfl, hsq, hl, q⟩ := hq
  obtain ⟨tr, hs⟩ := scr_of hsq
  have e0 : Env (Wscr K tr a (ns.map .int) H E hs) 0 [] [] [some (false, .raw a), none, none] (L2.start ["_law_script", "_law_great", "_law_cell"] [.ref a]) H :=
    env_slots ⟨.raw a, trivial⟩ (fun _ _ h _ => h) hs
  have pw : ((10 : Int) ^ (18 : Int).toNat) = 1000000000000000000 := by decide
  refine (show DS (tAsg _ _) (Wscr K tr a (ns.map .int) H E hs) 0 [some (false, .raw a), none, none] (fun _ ρ => ∃ gr : List Int, (∀ x ∈ gr, 0 ≤ x) ∧ ρ = [some (false, .raw a), some (true, .lst (gr.map D.int)), none]) (fun _ _ _ => False) (fun _ _ => False) (fun _ _ => False) from ds_own ?c1) [] [] _ H e0 _ ⟨fun n ρ σ H1 hN e => ?_, fun _ _ _ _ h => h.elim, fun _ _ _ _ _ h => h.elim, fun _ _ _ _ h => h.elim, fun _ _ _ _ h => h.elim⟩
  case c1 =>
    refine df_lc (noOwn_by rfl) in_self (di_script (ns := ns) (fun n H h => Scr.sq h) (de_var rfl ⟨rfl, fun i _ acc => acc.length ≤ i ∧ i ≤ ns.length ∧ ∃ gr : List Int, (∀ x ∈ gr, 0 ≤ x) ∧ acc = gr.map D.int, ⟨Nat.le_refl _, Nat.zero_le _, [], (fun _ h => nomatch h), rfl⟩, fun i n d acc hd ⟨h1, h2, gr, h3, h4⟩ => dg_name ?_, fun n acc ⟨_, _, gr, h3, h4⟩ => ⟨gr, h3, by rw [h4]; rfl⟩⟩))
    rw [List.getElem?_map] at hd
    obtain ⟨z, hz, rfl⟩ := Option.map_eq_some_iff.mp hd
    have hi : i < ns.length := (List.getElem?_eq_some_iff.mp hz).1
    repeat' (walk_at "hd1")
    · rename_i hb
      rw [pw] at hb
      have hb2 := of_decide_eq_true hb
      refine ⟨szlt (by omega), by rw [List.length_append]; simpa using h1, hi, gr ++ [(if z < 0 then -z else z) - (10 : Int) ^ (18 : Int).toNat], fun x hx => ?_, by rw [h4, List.map_append]; rfl⟩
      rcases List.mem_append.mp hx with hx | hx
      · exact h3 x hx
      · have : x = (if z < 0 then -z else z) - (10 : Int) ^ (18 : Int).toNat := by simpa using hx
        rw [this, pw]; omega
    · exact ⟨by omega, hi, gr, h3, h4⟩
  obtain ⟨gr, hgr, rfl⟩ := hN
  obtain ⟨g, o, hg, hgH, hob, hg0, _⟩ := e.ow 1 _ rfl
  cases hob with
  | @lst xs _ hall =>
  have hx := all_ints hall
  subst hx
  intro p hp
  refine ⟨_, hg, ?_⟩
  have e1 := e.lay (o := .dK []) hp
  dsimp only [tPairs, tC]
  refine (show DF _ (Wscr K tr a (ns.map .int) H E hs) n [some (false, .raw a), some (true, .lst (gr.map D.int)), none] (fun _ d => ∃ zs : List Int, d = .lst (zs.map D.int)) from ?c2) [(p, .dK [])] [] σ _ e1 _ fun n2 c oc d H2 ⟨zs, hd⟩ e2 ho => ?_
  case c2 =>
    refine df_lc_each (fun _ y => ∃ z, y = D.int z) (noOwn_by rfl) (di_script (ns := ns) (fun n H h => Scr.sq h) (de_var rfl ⟨rfl, szl (by rw [List.length_map]; omega), fun n1 d hd => dg_name ?_, fun n1 ys h => ?_⟩)) in_self
    · obtain ⟨z, hz, rfl⟩ := List.mem_map.mp hd
      repeat' (walk_at "hd1")
      exact ⟨_, rfl⟩
    · obtain ⟨zs, rfl⟩ := each_ints h
      exact ⟨zs, rfl⟩
  subst hd
  cases ho with
  | @lst xc _ hall2 =>
  have hx := all_ints hall2
  subst hx
  obtain ⟨g', o', hg', hgH', hob', _, hgz⟩ := e2.ow 1 _ rfl
  rw [hg] at hg'; cases hg'
  cases hob' with
  | @lst xg _ hall3 =>
  have hx := all_ints hall3
  subst hx
  have zc := e2.z (c, .lst (zs.map .int)) List.mem_cons_self
  have zp := e2.z (p, .dK []) (List.mem_cons_of_mem _ List.mem_cons_self)
  have npc : p ≠ c := fun z => by have h1 := zc.1; have h2 := zp.1; rw [← z] at h1; have h1 : H2 p = some (.lst (zs.map .int)) := h1; rw [h2] at h1; cases h1
  have ngp : g ≠ p := fun z => hgz ⟨.dK [], by rw [z]; exact List.mem_cons_of_mem _ List.mem_cons_self⟩
  have ngc : g ≠ c := fun z => hgz ⟨_, by rw [z]; exact List.mem_cons_self⟩
  refine ⟨zp.1, [(.inr "great", .ref g), (.inr "cells", .ref c), (.inr "left", .int 0), (.inr "turn", .int 0)], rfl, (by show 4 ≤ 15; decide), ?_⟩
  have q := q p g c gr zs (upd H2 p (.dK (stK g c 0 0))) hgr zp.2 hg0 zc.2 (Ne.symm ngp) npc ngc upd_same (by rw [upd_ne ngp]; exact hgH') (by rw [upd_ne (Ne.symm npc)]; exact zc.1) fun b o hb => by
    rw [upd_ne (fun z => by have h2 : H p = none := zp.2; rw [z, h2] at hb; cases hb)]
    exact hs.keep e2.g e2.fr b o hb
  rw [merge_st]
  exact q
theorem ok__law_blended (T : Txd mg) (Dd : Def K mg "_law_blended" s__law_blended ["_law_state"]) : Cal P w K mg base 1 "_law_blended" s__law_blended ["_law_state"] spBlend := by
  refine Dd.raw sc__law_blended (fun vs H Q E ⟨s, g, c, cells, left, turn, h, _⟩ => by rw [h]; rfl) fun f cdv A outer s H vs Q E hr hq => ⟨_, (pss_cons (ps_par (i := 1) (j := 2) rfl sc__law_blended.nd rfl rfl (by decide) rfl rfl (pa_cons (pe_op op_addU (pe_ix (ix_U (u1 hr)) (pv 0) (pe_str) (fun _ _ => rfl)) (pe_int)) (pa_cons (pe_int) pa_nil)) (by rfl))
    (pss_cons (ps_dput (u1 hr) (pv 0) (pe_str) (pv 1) rfl)
    (pss_cons (ps_for passOwnU rfl (pi_seq (pe_lst (pa_cons (pe_int) (pa_cons (pe_int) (pa_cons (pe_int) pa_nil))))) (pg_name (i := 3) sc__law_blended.nd rfl (by first | exact Or.inl rfl | exact Or.inr rfl)) (pss_cons (ps_set (i := 4) sc__law_blended.nd rfl (by first | exact Or.inl rfl | exact Or.inr rfl) (pe_op op_addU (pe_op op_mulU (pe_int) (pv 1)) (pe_op op_fdivU (pv 3) (pe_int))))
    (pss_cons (ps_for passOwnU rfl (pi_seq (pe_ix (ix_U (u1 hr)) (pv 0) (pe_str) (fun _ _ => rfl))) (pg_name (i := 5) sc__law_blended.nd rfl (by first | exact Or.inl rfl | exact Or.inr rfl)) (pss_one (ps_set (i := 4) sc__law_blended.nd rfl (by first | exact Or.inl rfl | exact Or.inr rfl) (pe_op op_modU (pe_callTy call_intU (by rfl) T.b_int bb_int (pa_cons (pe_op op_addU (pe_op op_addU (pe_op op_mulU (pv 4) (pe_int)) (pv 5)) (pv 1)) pa_nil)) (pv 3)))))
    (pss_one (ps_set (i := 2) sc__law_blended.nd rfl (by first | exact Or.inl rfl | exact Or.inr rfl) (pe_op op_addU (pe_op op_mulU (pv 2) (pe_int)) (pe_op op_modU (pe_callTy call_intU (by rfl) T.b_int bb_int (pa_cons (pe_op op_powU (pv 4) (pe_int)) pa_nil)) (pv 3))))))))
    (pss_one (ps_ret (pv 2)))))), ?_⟩
  obtain ⟨st, g, c, cells, left, turn, rfl, hst, hc, t0, t1, q⟩ := hq
  -- turn, found = state['turn'] + 1, 0; state['turn'] = turn
  refine ⟨_, rfl, .inr ⟨st, .int turn, rfl, .inl ⟨_, .inr "turn", .inl hst, rfl, st_turn.symm⟩, .inl ⟨turn, 1, rfl, rfl, ⟨_, _, rfl, ⟨_, rfl, ⟨_, rfl, ⟨st, _, rfl, .inl ⟨_, .inr "turn", hst, rfl, (by show 4 < sizeLine; exact szlt (by decide)), rfl⟩, ?_⟩⟩⟩⟩⟩⟩⟩
  rw [put_turn]
  have hne : c ≠ st := fun z => by rw [z, hst] at hc; cases hc
  have e0 : Env (Wq (upd H st (.dK (stK g c left (turn + 1)))) E) 0 [] [] [some (false, .dic [.inr "great", .inr "cells", .inr "left", .inr "turn"] [.raw g, .lst (cells.map D.int), .int left, .int (turn + 1)]), some (false, .int (turn + 1)), some (false, .int 0), none, none, none] [some (.ref st), some (.int (turn + 1)), some (.int 0), none, none, none] (upd H st (.dK (stK g c left (turn + 1)))) :=
    env_slots ⟨.dic (fun h => h) upd_same rfl (.cons (.raw g) (.cons (.lst (fun h => h) (by rw [upd_ne hne]; exact hc) ints_all) (.cons (.int left) (.cons (.int (turn + 1)) .nil)))), .int (turn + 1), .int 0, trivial⟩ (fun _ _ h _ => h) True.intro
  dsimp only
  refine (show DS (tSeq (tFor _ _ _) (tRet _)) (Wq (upd H st (.dK (stK g c left (turn + 1)))) E) 0 [some (false, .dic [.inr "great", .inr "cells", .inr "left", .inr "turn"] [.raw g, .lst (cells.map D.int), .int left, .int (turn + 1)]), some (false, .int (turn + 1)), some (false, .int 0), none, none, none] (fun _ _ => False) (fun _ b d => b = false ∧ ∃ v, d = .int v ∧ 0 ≤ v) (fun _ _ => False) (fun _ _ => False) from ?c1) [] [] _ _ e0 _ ⟨fun _ _ _ _ h => h.elim, fun _ v d H' ⟨_, z, hd, hz⟩ f _ i => ?_, fun _ _ _ _ _ ⟨h, _⟩ => (by cases h), fun _ _ _ _ h => h.elim, fun _ _ _ _ h => h.elim⟩
  case c1 =>
    refine ds_seq ?_
    refine ds_for (S := [3]) (di_seqL (DF.de (df_lst ?_)))
    refine da_cons (de_int (da_cons (de_int (da_cons (de_int (da_nil ⟨szl (by show 3 ≤ 100000; decide), _, rfl, fun _ _ ρ => ∃ (f : Int) (x3 x4 x5 : Option (Bool × D)), 0 ≤ f ∧ ρ = [some (false, .dic [.inr "great", .inr "cells", .inr "left", .inr "turn"] [.raw g, .lst (cells.map D.int), .int left, .int (turn + 1)]), some (false, .int (turn + 1)), some (false, .int f), x3, x4, x5], ?_, ?_, ?_⟩))))))
    · exact ⟨0, _, _, _, Int.le_refl _, rfl⟩
    · rintro i n d ρ' hd ⟨f, x3, x4, x5, hf, rfl⟩
      have hp : ∃ pr : Int, d = .int pr ∧ 2147483000 < pr ∧ pr < 2147484000 := by
        rcases i with _ | _ | _ | i
        · cases hd; exact ⟨_, rfl, by decide, by decide⟩
        · cases hd; exact ⟨_, rfl, by decide, by decide⟩
        · cases hd; exact ⟨_, rfl, by decide, by decide⟩
        · simp at hd
      obtain ⟨pr, rfl, p1, p2⟩ := hp
      repeat' (walk_at "hd1")
      refine r_fdiv (c_divN (by decide) (by decide)) ?_
      repeat' (walk_at "hd1")
      refine ds_for (S := [5]) (di_seqL (de_op (de_var rfl (de_str (r_ixD (k := .inr "cells") rfl rfl ⟨_, rfl, fun _ _ ρ => ∃ (b : Int) (x5 : Option (Bool × D)), b.natAbs < 2 ^ 64 ∧ ρ = [some (false, .dic [.inr "great", .inr "cells", .inr "left", .inr "turn"] [.raw g, .lst (cells.map D.int), .int left, .int (turn + 1)]), some (false, .int (turn + 1)), some (false, .int f), some (false, .int pr), some (false, .int b), x5], ?_, ?_, ?_⟩)))))
      · refine ⟨_, _, ?_, rfl⟩
        have h1 : (0 : Int) ≤ pr.fdiv 61 := by rw [Int.fdiv_eq_ediv_of_nonneg _ (by decide)]; omega
        have h2 : pr.fdiv 61 ≤ 2147484000 := by rw [Int.fdiv_eq_ediv_of_nonneg _ (by decide)]; omega
        omega
      · rintro i n d ρ' hd ⟨b, x5, hb, rfl⟩
        rw [List.getElem?_map] at hd
        obtain ⟨z, hz, rfl⟩ := Option.map_eq_some_iff.mp hd
        repeat' (walk_at "hd1")
        refine r_mod (by omega) ?_
        refine ⟨_, _, ?_, rfl⟩
        have h1 := Int.fmod_nonneg_of_pos (b * 69621 + z + (turn + 1)) (show 0 < pr by omega)
        have h2 := Int.fmod_lt_of_pos (b * 69621 + z + (turn + 1)) (show 0 < pr by omega)
        omega
      · rintro n ρ' ⟨b, x5, hb, rfl⟩
        repeat' (walk_at "hd1")
        refine r_pow ⟨by decide, by decide, hb⟩ ?_
        repeat' (walk_at "hd1")
        refine r_mod (by omega) ?_
        repeat' (walk_at "hd1")
        refine ⟨_, _, _, _, ?_, rfl⟩
        have h1 := Int.fmod_nonneg_of_pos (b ^ (5 : Int).toNat) (show 0 < pr by omega)
        omega
    · rintro n ρ' ⟨f, x3, x4, x5, hf, rfl⟩
      exact ds_ret (de_var rfl ⟨rfl, f, rfl, hf⟩)
  subst hd
  cases i
  exact q z H' hz (f st _ upd_same (fun h => h)) fun b o hb ho => f b o (by show upd H st _ b = some o; rw [upd_ne hb]; exact ho) (fun h => h)
theorem ok__law_draw (T : Txd mg) (Dd : Def K mg "_law_draw" s__law_draw ["_law_state", "_law_size_here"]) (C__law_blended : Cal P w K mg base 1 "_law_blended" s__law_blended ["_law_state"] spBlend) : Cal P w K mg base 2 "_law_draw" s__law_draw ["_law_state", "_law_size_here"] (spDraw K Tt) := by
  refine Dd.raw sc__law_draw (fun vs H Q E ⟨L, q⟩ => prm_len q) fun f cdv A outer s H vs Q E hr hq => ⟨_, (pss_cons (ps_if (pt_cmpR (op_eqU hr) (pe_ix (ix_U (u1 hr)) (pv 0) (pe_str) (fun _ _ => rfl)) (pe_int) (nomark _)) (pss_one (ps_dput (u1 hr) (pv 0) (pe_str) (pe_ifExp (pt_cmpR (op_neU hr) (pe_ix (ix_U (u1 hr)) (pv 0) (pe_str) (fun _ _ => rfl)) (pe_lst pa_nil) (nomark _)) (pe_bm PySem.F.plainAttrs_list PySem.F.slot_list_pop PySem.F.type_list_pop mt_popAt (pe_ix (ix_U (u1 hr)) (pv 0) (pe_str) (fun _ _ => rfl)) (pa_cons (pe_int) pa_nil)) (pe_cal C__law_blended (hr.mono (by decide)) passD (by rfl) (pa_cons (pv 0) pa_nil))) rfl)) pss_nil)
    (pss_cons (ps_set (i := 2) sc__law_draw.nd rfl (by first | exact Or.inl rfl | exact Or.inr rfl) (pe_op op_modU (pe_callTy call_intU (by rfl) T.b_int bb_int (pa_cons (pe_ix (ix_U (u1 hr)) (pv 0) (pe_str) (fun _ _ => rfl)) pa_nil)) (pv 1)))
    (pss_cons (ps_dput (u1 hr) (pv 0) (pe_str) (pe_op op_fdivU (pe_ix (ix_U (u1 hr)) (pv 0) (pe_str) (fun _ _ => rfl)) (pv 1)) rfl)
    (pss_one (ps_ret (pv 2)))))), ?_⟩
  obtain ⟨L, X, ds, n, hVX, hX, ⟨⟨gr, left, turn, g1, g2, g3, g4, g5, g6, g7⟩, hsc, hta, ngc, nga⟩, hi, hl, ⟨hc, size, rfl, h0, hsz⟩, k1, k2, k3⟩ := hq
  cases hi with
  | cons i1 t =>
  cases t with
  | cons i2 t =>
  cases t
  cases i1
  cases i2
  have nsg : L.g ≠ L.s := fun z => by rw [z, g1] at g2; cases g2
  have nsc : L.c ≠ L.s := fun z => by rw [z, g1] at g3; cases g3
  refine draw_head (K := K) (E := E) (D := { nx := tailTS K { nx := fun _ H' => Q .non H', rt := Q }, rt := Q }) g1 g2 g3 ngc g4 g5 g6 (by omega) fun left1 turn1 gr1 H1 q1 q2 q3 q4 q5 q6 q7 q8 => ?_
  refine draw_tail q1 h0 hsz ?_
  have fr : Frm L.V H (upd H1 L.s (.dK (stK L.g L.c (left1.fdiv size) turn1))) := fun b o hb hv => by
    have b1 : b ≠ L.s := fun z => hv (.inl z)
    have b2 : b ≠ L.g := fun z => hv (.inr (.inl z))
    rw [upd_ne b1]
    exact q8 b o b1 b2 hb
  have kp : ∀ b o, b ≠ L.s → b ≠ L.g → H b = some o → (upd H1 L.s (.dK (stK L.g L.c (left1.fdiv size) turn1))) b = some o := fun b o b1 b2 hb => by
    rw [upd_ne b1]
    exact q8 b o b1 b2 hb
  refine k1 (n - 1) (.int (left1.fmod size)) (.int (left1.fmod size)) _ ⟨by omega, false, _, rfl, ⟨_, rfl, rfl, Int.fmod_nonneg_of_pos _ h0, fun sz e => ?_⟩⟩ fr ⟨⟨gr1, left1.fdiv size, turn1, upd_same, by rw [upd_ne nsg]; exact q2, by rw [upd_ne nsc]; exact q3, ?_, q5, by omega, by omega⟩, ?_, fun p hp => ?_, ngc, nga⟩ (.int _)
  · have e2 : size = sz := by simpa using e
    rw [← e2]
    exact Int.fmod_lt_of_pos _ h0
  · rw [Int.fdiv_eq_ediv_of_nonneg _ (Int.le_of_lt h0)]
    exact Int.ediv_nonneg q4 (Int.le_of_lt h0)
  · rcases hsc with ⟨tr, h⟩ | ⟨tr, ⟨o, h⟩ | h⟩
    · exact .inl ⟨tr, kp _ _ (fun z => by rw [z, g1] at h; cases h) (nga tr) h⟩
    · exact .inr ⟨tr, .inl ⟨o, kp _ _ (fun z => by rw [z, g1] at h; cases h) (fun z => by rw [z, g2] at h; cases h) h⟩⟩
    · exact .inr ⟨tr, .inr h⟩
  · obtain ⟨ps, e1, e2, e3⟩ := hta p hp
    refine ⟨ps, kp _ _ (fun z => by rw [z, g1] at e1; cases e1) (fun z => by rw [z, g2] at e1; cases e1) e1, e2, fun pos cv hcv => ?_⟩
    obtain ⟨c', e4, e5⟩ := e3 pos cv hcv
    exact ⟨c', e4, kp _ _ (fun z => by rw [z, g1] at e5; cases e5) (fun z => by rw [z, g2] at e5; cases e5) e5⟩
theorem ok__law_pick (T : Txd mg) (Dd : Def K mg "_law_pick" s__law_pick ["_law_state", "_law_several"]) (C__law_draw : Cal P w K mg base 2 "_law_draw" s__law_draw ["_law_state", "_law_size_here"] (spDraw K Tt)) : Cal P w K mg base 3 "_law_pick" s__law_pick ["_law_state", "_law_several"] (spPick K Tt) := by
  refine Dd.okL sc__law_pick rfl fun f cdv A outer s H E hr => ⟨_, (pss_one (ps_ret (pe_ix (ix_U (u1 hr)) (pv 1) (pe_cal C__law_draw (hr.mono (by decide)) passD (by rfl) (pa_cons (pv 0) (pa_cons (pe_callB call_lenU (by rfl) T.b_len bb_len (pa_cons (pv 1) pa_nil)) pa_nil))) (fun _ _ => rfl)))), ?_⟩
  rintro L W n ds hV hG hE hl hc ⟨l, e, h1, h2⟩
  rcases e with rfl | rfl
  all_goals
    repeat' (walk_at "hd1")
    refine ⟨by omega, ?_, hc, fun n' k h3 h4 h5 => ?_⟩
    · refine Nat.lt_of_le_of_lt (show _ ≤ 2 ^ 40 by omega) (Nat.pow_lt_pow_right (by decide) (by decide))
    · obtain ⟨d, hd, hm⟩ := atI_mem h4 h5
      first | refine r_ixL hd ?_ | refine r_ixT hd ?_
      refine ⟨h3, rfl, fun l' e => ?_⟩
      have e2 : l = l' := by simpa using e
      rw [← e2]
      exact hm
end

/-! ### errors caught -/
theorem caught_gives {X : Cx} {q : Str} {g CS : Addr} {cdg : Value} (hm : X.mg "PullError" = some (.ref CS)) : LamX.GivesTo X ["_law_work", "_law_caught_here", "error"] "_law_caught" (defScope s__law_caught) g cdg (defBody s__law_caught) "_law_work" q (TCaught X.K CS) := by
  intro f c' s H Q tl act hc h
  refine ⟨_, pss_cons (ps_set (i := 1) sc__law_caught.nd rfl (by first | exact Or.inl rfl | exact Or.inr rfl) pe_non) (pss_cons (ps_try_keep (i := 2) (c := .ref CS)
      (tb := fun W D σ H => ∃ Ech : XK, (∀ cls d σ' H', Ech cls d H' → W cls d σ' H') ∧ σ[0]? = some (some (.ref f)) ∧ H c' = some (LamX.CodeO c' q) ∧ tl Ech H fun _ H' => D.nx σ H')
      rfl rfl rfl sc__law_caught.nd rfl rfl ⟨rfl, rfl, .inl hm⟩ (fun W pn xe tk _ => ?_) (fun a oe cls d pn _ _ => pss_one (ps_set (i := 1) sc__law_caught.nd rfl (by first | exact Or.inl rfl | exact Or.inr rfl) (pv 2)))) (pss_one (ps_ret (pv 1)))), ?_⟩
  · refine ⟨fun pins s' σ H' D I ⟨Ech, hW, h1, h2, h3⟩ => ?_⟩
    exact (pss_one (ps_expr (act W pn xe Ech _ _ tk hW))).run pins s' σ H' D I ⟨h1, h2, h3⟩
  · refine ⟨fun cls d H' => ∃ C : Addr, cls = .ref C ∧ PySem.W.exmOne X.K cls (.ref CS) = some true ∧ ∀ a, H' a = none → Q (.ref a) (upd H' a (excH a C d)), fun cls d σ' H' ⟨C, e1, e2, e3⟩ => ⟨C, e1, e2, fun a hl ha => ?_⟩, rfl, hc, ?_⟩
    · match σ', hl with
      | [x, y, z], _ => exact ⟨_, rfl, ⟨_, rfl, e3 a ha⟩⟩
    · have e : (fun (_ : L2.V) (H' : Hp) => tRet (tVar 1) { nx := fun _ H' => Q .non H', rt := Q } [some (L2.V.ref f), some .non, none] H') = fun _ H' => Q .non H' := by
        funext v H'
        exact propext ⟨fun ⟨v, e1, e2⟩ => by cases e1; exact e2, fun h => ⟨_, rfl, h⟩⟩
      show tl _ H (fun _ H' => tRet (tVar 1) { nx := fun _ H' => Q .non H', rt := Q } [some (L2.V.ref f), some .non, none] H')
      rw [e]
      exact h

structure Txt (K : PySem.W.Frag) (mg : Str → Option Value) (BadNumber BadRows PullError : Addr) : Prop where
  b_isinstance : mg "isinstance" = none
  b_abs : mg "abs" = none
  b_min : mg "min" = none
  b_range : mg "range" = none
  c_PullError : mg "PullError" = some (.ref PullError)
  b_len : mg "len" = none
  b_int : mg "int" = none
  b_bool : mg "bool" = none
  b_tuple : mg "tuple" = none
  b_list : mg "list" = none
  b_all : mg "all" = none
  b_any : mg "any" = none
  g_MOST_ROWS : ∃ t, mg "MOST_ROWS" = some (.int 200 t)
  x_BadNumber : ExcT K mg "BadNumber" BadNumber
  x_BadRows : ExcT K mg "BadRows" BadRows
  c_BadNumber : mg "BadNumber" = some (.ref BadNumber)
  c_BadRows : mg "BadRows" = some (.ref BadRows)
section
variable {P : Program} {w : World} {K : PySem.W.Frag} {mg : Str → Option Value} {base : Heap} {BadNumber BadRows PullError : Addr}
def D.pl (d : D) : Prop := d.tn.isSome = true
def isNum : D → Bool
  | .int _ => true
  | _ => false
def fNum : List D → Out
  | [d] => .ret false (.bl (isNum d))
  | _ => .ret false .non
def pre1 : List D → Prop
  | [d] => d.tn.isSome = true
  | _ => False
abbrev spNum : Sp := PD 1 pre1 fNum
theorem ok_is_number (T : Txt K mg BadNumber BadRows PullError) (Dd : Def K mg "is_number" s_is_number ["value"]) : Cal P w K mg base 1 "is_number" s_is_number ["value"] spNum := by
  refine Dd.ok sc_is_number rfl stab0 fun f cdv A outer s H E hr => ⟨_, (pss_one (ps_ret ((pe_and (pe_callB call_isiU (by rfl) T.b_isinstance bb_isinstance (pa_cons (pv 0) (pa_cons (pe_bltn (v := .ty "int") (by rfl) T.b_int bb_int rfl) pa_nil))) (pe_one (pe_not (pe_callB call_isiU (by rfl) T.b_isinstance bb_isinstance (pa_cons (pv 0) (pa_cons (pe_bltn (v := .ty "bool") (by rfl) T.b_bool bb_bool rfl) pa_nil))))))))), ?_⟩
  rintro W n0 ds hV hG hE hEP hl hp
  match ds, hl with
  | [d], _ =>
  have hd : d.tn.isSome = true := hp
  cases d <;> try exact absurd hd Bool.false_ne_true
  all_goals repeat' (walk_at "hd1")
  all_goals rfl
def rowB : D → Bool
  | .tup [.int a, .int b] => decide (b = 0) || (decide (0 ≤ a) && decide (a < b))
  | _ => false
def fRow : List D → Out
  | [d] => .ret false (.bl (rowB d))
  | _ => .ret false .non
def preRow : List D → Prop
  | [.tup ds] => ∀ d ∈ ds, D.pl d
  | [d] => D.pl d
  | _ => False
abbrev spRow : Sp := PD 1 preRow fRow
theorem num_or (d : D) : (∃ i, d = .int i) ∨ isNum d = false := by
  cases d <;> first | exact .inl ⟨_, rfl⟩ | exact .inr rfl
theorem ok_is_row (T : Txt K mg BadNumber BadRows PullError) (Dd : Def K mg "is_row" s_is_row ["thing"]) (C_is_number : Cal P w K mg base 1 "is_number" s_is_number ["value"] spNum) : Cal P w K mg base 2 "is_row" s_is_row ["thing"] spRow := by
  refine Dd.ok sc_is_row rfl stab0 fun f cdv A outer s H E hr => ⟨_, (pss_cons (ps_if (PW.pt (pw_or (pt_not (pt_val (pe_callB call_isiU (by rfl) T.b_isinstance bb_isinstance (pa_cons (pv 0) (pa_cons (pe_bltn (v := .ty "tuple") (by rfl) T.b_tuple bb_tuple rfl) pa_nil))))) (pw_or (pt_cmpR (op_neU hr) (pe_callB call_lenU (by rfl) T.b_len bb_len (pa_cons (pv 0) pa_nil)) (pe_int) (nomark _)) (pw_or (pt_not (pt_val (pe_cal C_is_number (hr.mono (by decide)) passD (by rfl) (pa_cons (pe_ix (ix_U (u1 hr)) (pv 0) (pe_int) (fun _ _ => rfl)) pa_nil)))) (pw_or1 (pt_not (pt_val (pe_cal C_is_number (hr.mono (by decide)) passD (by rfl) (pa_cons (pe_ix (ix_U (u1 hr)) (pv 0) (pe_int) (fun _ _ => rfl)) pa_nil))))))))) (pss_one (ps_ret (pe_bl))) pss_nil)
    (pss_one (ps_ret ((pe_or (pe_cmpR (op_eqU hr) (pe_ix (ix_U (u1 hr)) (pv 0) (pe_int) (fun _ _ => rfl)) (pe_int) (nomark _)) (pe_one (pe_chain op_leU op_ltU (pe_int) (pe_ix (ix_U (u1 hr)) (pv 0) (pe_int) (fun _ _ => rfl)) (pe_ix (ix_U (u1 hr)) (pv 0) (pe_int) (fun _ _ => rfl))))))))), ?_⟩
  rintro W n0 ds hV hG hE hEP hl hp
  match ds, hl with
  | [d], _ =>
  have hd : d.tn.isSome = true := by
    cases d <;> first | rfl | exact hp
  by_cases ht : ∃ a b, d = .tup [a, b]
  · obtain ⟨a, b, rfl⟩ := ht
    have ha : a.tn.isSome = true := hp a List.mem_cons_self
    have hb : b.tn.isSome = true := hp b (List.mem_cons_of_mem _ List.mem_cons_self)
    rcases num_or a with ⟨i, rfl⟩ | ha0
    · rcases num_or b with ⟨j, rfl⟩ | hb0
      · repeat' (walk_at "hd1")
        all_goals simp_all [fRow, rowB]
        all_goals omega
      · have e : rowB (.tup [.int i, b]) = false := by cases b <;> first | rfl | cases hb0
        repeat' (walk_at "hd1")
        · show Out.ret false (D.bl false) = .ret false (.bl (rowB (.tup [.int i, b])))
          rw [e]
        · simp_all
    · have e : rowB (.tup [a, b]) = false := by cases a <;> first | rfl | cases ha0
      repeat' (walk_at "hd1")
      all_goals first
        | (show Out.ret false (D.bl false) = .ret false (.bl (rowB (.tup [a, b]))); rw [e])
        | simp_all
  · have e : rowB d = false := by
      cases d with
      | tup l =>
        rcases l with _ | ⟨x, _ | ⟨y, _ | ⟨z, r⟩⟩⟩
        · rfl
        · cases x <;> rfl
        · exact absurd ⟨x, y, rfl⟩ ht
        · cases x <;> cases y <;> rfl
      | _ => rfl
    cases d
    case tup l hx =>
      have hl2 : (l.length : Int) ≠ 2 := fun q => by
        rcases l with _ | ⟨x, _ | ⟨y, _ | ⟨z, r⟩⟩⟩
        · cases q
        · cases q
        · exact ht ⟨x, y, rfl⟩
        · simp only [List.length_cons] at q; omega
      have hl3 : (!decide ((l.length : Int) = 2)) = true := by simp [hl2]
      repeat' (walk_at "hd1")
      all_goals first
        | (show Out.ret false (D.bl false) = .ret false (.bl (rowB (.tup l))); rw [e])
        | (rename_i hb'; rw [hl3] at hb'; cases hb')
    all_goals try exact absurd hd Bool.false_ne_true
    all_goals repeat' (walk_at "hd1")
    all_goals rfl
def rowsB : D → Bool
  | .lst ds => decide (ds.length ≤ 200) && ds.all rowB
  | .tup ds => decide (ds.length ≤ 200) && ds.all rowB
  | _ => false
def fRows : List D → Out
  | [d] => .ret false (.bl (rowsB d))
  | _ => .ret false .non
def preD : D → Prop := fun d => preRow [d]
def preRows : D → Prop
  | .lst ds => ds.length ≤ 1000 ∧ ∀ d ∈ ds, preD d
  | .tup ds => ds.length ≤ 1000 ∧ ∀ d ∈ ds, preD d
  | d => d.tn.isSome = true
def preRs : List D → Prop
  | [d] => preRows d
  | _ => False
abbrev spRows : Sp := PD 1 preRs fRows
theorem preRows_pl {d : D} (h : preRows d) : d.tn.isSome = true := by
  cases d <;> first | rfl | exact h
theorem ok_are_rows (T : Txt K mg BadNumber BadRows PullError) (Dd : Def K mg "are_rows" s_are_rows ["thing"]) (C_is_row : Cal P w K mg base 2 "is_row" s_is_row ["thing"] spRow) : Cal P w K mg base 3 "are_rows" s_are_rows ["thing"] spRows := by
  refine Dd.ok sc_are_rows rfl stab0 fun f cdv A outer s H E hr => ⟨_, (pss_cons (ps_if (PW.pt (pw_or (pt_not (pt_val (pe_callB call_isiT (by rfl) T.b_isinstance bb_isinstance (pa_cons (pv 0) (pa_cons (pe_tup (pa_cons (pe_bltn (v := .ty "list") (by rfl) T.b_list bb_list rfl) (pa_cons (pe_bltn (v := .ty "tuple") (by rfl) T.b_tuple bb_tuple rfl) pa_nil))) pa_nil))))) (pw_or1 (pt_cmpR op_gtU (pe_callB call_lenU (by rfl) T.b_len bb_len (pa_cons (pv 0) pa_nil)) (pe_gint (by rfl) T.g_MOST_ROWS) (nomark _))))) (pss_one (ps_ret (pe_bl))) pss_nil)
    (pss_one (ps_ret (pe_callB (cr_all rfl) (by rfl) T.b_all bb_all (pa_cons (pe_lc (own := [("item", 1)]) rfl sc_are_rows.nd (pi_seq (pv 0)) (blkOk_by (own := [("item", 1)]) (N := ["thing", "item"]) (sc := defScope s_are_rows) (by decide +kernel)) (fun _ _ _ _ _ => (pg_name (i := 1) sc_are_rows.nd rfl (by first | exact Or.inl rfl | exact Or.inr rfl))) (fun _ _ _ _ _ => pts_nil) (fun _ _ _ _ _ => (pe_cal C_is_row (hr.mono (by decide)) passL (by rfl) (pa_cons (pv 1) pa_nil)))) pa_nil))))), ?_⟩
  rintro W n0 ds hV hG hE hEP hl hp
  match ds, hl with
  | [d], _ =>
  have hd : d.tn.isSome = true := preRows_pl hp
  cases d
  all_goals try exact absurd hd Bool.false_ne_true
  all_goals repeat' (walk_at "hd1")
  all_goals try exact rfl
  case lst.refine'_2.refine'_2.refine_1 l hx hb | tup.refine'_2.refine'_2.refine_1 l hx hb =>
    have h1 : ¬ (l.length ≤ 200) := by have := of_decide_eq_true hb; omega
    show Out.ret false (.bl false) = .ret false (.bl (decide (l.length ≤ 200) && l.all rowB))
    rw [decide_eq_false h1]; rfl
  case lst.refine'_2.refine'_2.refine_2 l hx hb | tup.refine'_2.refine'_2.refine_2 l hx hb =>
    have h1 : l.length ≤ 200 := by have := of_decide_eq_false hb; omega
    have hp2 : ∀ d ∈ l, preD d := hp.2
    refine DF.de (df_lc_map (fun d => .bl (rowB d)) (noOwn_by rfl) (di_seq (de_var rfl ⟨l, (by first | exact .inl rfl | exact .inr rfl), szl (by omega), fun n1 d hm => dg_name ?_, fun n2 => ?_⟩)) in_self)
    · repeat' (walk_at "hd1")
      exact ⟨rfl, hp2 d hm, _, _, rfl, rfl⟩
    · refine da_nil (b_allM ?_)
      show Out.ret false (.bl (l.all rowB)) = .ret false (.bl (decide (l.length ≤ 200) && l.all rowB))
      rw [decide_eq_true h1]; rfl
/-- need_row_list: nothing or BadRows -/
def fNeedRows (BadRows : Addr) : List D → Out
  | [d] => if rowsB d = true then .ret false .non else .exc BadRows [] []
  | _ => .ret false .non
abbrev spNeedRows (BadRows : Addr) : Sp := PD 1 preRs (fNeedRows BadRows)
theorem ok_need_row_list (T : Txt K mg BadNumber BadRows PullError) (Dd : Def K mg "need_row_list" s_need_row_list ["rows"]) (C_are_rows : Cal P w K mg base 3 "are_rows" s_are_rows ["thing"] spRows) : Cal P w K mg base 4 "need_row_list" s_need_row_list ["rows"] (spNeedRows BadRows) := by
  refine Dd.ok sc_need_row_list rfl stab0 fun f cdv A outer s H E hr => ⟨_, (pss_one (ps_if (pt_not (pt_val (pe_cal C_are_rows (hr.mono (by decide)) passD (by rfl) (pa_cons (pv 0) pa_nil)))) (pss_one (ps_raise rfl (takes_of rfl rfl rfl rfl) (T.x_BadRows.mk' (by rfl)))) pss_nil)), ?_⟩
  rintro W n0 ds hV hG hE hEP hl hp
  match ds, hl with
  | [d], _ =>
  have hp' : preRs [d] := hp
  repeat' (walk_at "hd1")
  · rename_i hb
    rw [hEP]
    show Out.exc BadRows [] [] = if rowsB d = true then _ else _
    rw [if_neg (by simpa using hb)]
  · rename_i hb
    show Out.ret false .non = if rowsB d = true then _ else _
    rw [if_pos (by simpa using hb)]
/-- row_has -/
def hasB : D → D → Bool
  | .tup [.int f, .int s], .int n => if s = 0 then decide (n = f) else decide ((n - f).fdiv s * s = n - f)
  | _, _ => false
def fHas : List D → Out
  | [r, n] => .ret false (.bl (hasB r n))
  | _ => .ret false .non
def big (i : Int) : Prop := i.natAbs < 2 ^ 200
def preHas : List D → Prop
  | [.tup [.int f, .int s], .int n] => 0 ≤ s ∧ big f ∧ big s ∧ big n
  | _ => False
abbrev spHas : Sp := PD 2 preHas fHas
theorem ok_row_has (T : Txt K mg BadNumber BadRows PullError) (Dd : Def K mg "row_has" s_row_has ["row", "number"]) : Cal P w K mg base 1 "row_has" s_row_has ["row", "number"] spHas := by
  refine Dd.ok sc_row_has rfl stab0 fun f cdv A outer s H E hr => ⟨_, (pss_cons (ps_asg (pv 0) (pg_tup (n := 2) rfl (pgs_cons (pg_name (i := 2) sc_row_has.nd rfl (by first | exact Or.inl rfl | exact Or.inr rfl)) (pgs_cons (pg_name (i := 3) sc_row_has.nd rfl (by first | exact Or.inl rfl | exact Or.inr rfl)) pgs_nil))))
    (pss_one (ps_ret (pe_ifExp (pt_cmpR (op_eqU hr) (pv 3) (pe_int) (nomark _)) (pe_cmpR (op_eqU hr) (pv 1) (pv 2) (nomark _)) (pe_cmpR (op_eqU hr) (pe_op op_mulU (pe_op op_fdivU (pe_op op_subU (pv 1) (pv 2)) (pv 3)) (pv 3)) (pe_op op_subU (pv 1) (pv 2)) (nomark _)))))), ?_⟩
  rintro W n0 ds hV hG hE hEP hl hp
  match ds, hl, hp with
  | [.tup [.int f, .int st], .int n], _, hp =>
  obtain ⟨p0, p1, p2, p3⟩ := hp
  repeat' (walk_at "hd1")
  · rename_i hb
    show Out.ret false (.bl (decide (n = f))) = .ret false (.bl (if st = 0 then decide (n = f) else decide ((n - f).fdiv st * st = n - f)))
    rw [if_pos (of_decide_eq_true hb)]
  · rename_i hb
    have hs : 0 < st := by have := of_decide_eq_false hb; omega
    refine r_fdiv (c_div hs p2) ?_
    repeat' (walk_at "hd1")
    refine r_mul (c_mul (Nat.lt_of_le_of_lt (fdiv_le hs) (sub_lt p3 p1)) p2) ?_
    repeat' (walk_at "hd1")
    show Out.ret false (.bl (decide ((n - f).fdiv st * st = n - f))) = .ret false (.bl (if st = 0 then decide (n = f) else decide ((n - f).fdiv st * st = n - f)))
    rw [if_neg (of_decide_eq_false hb)]
/-- in_rows -/
def rowsOf : D → List D
  | .lst l => l
  | .tup l => l
  | _ => []
def fInRows (BadRows BadNumber : Addr) : List D → Out
  | [r, n] => if rowsB r = true then (if isNum n = true then .ret false (.bl ((rowsOf r).any fun x => hasB x n)) else .exc BadNumber [] []) else .exc BadRows [] []
  | _ => .ret false .non
def preIn : List D → Prop
  | [r, n] => preRows r ∧ n.tn.isSome = true ∧ (rowsB r = true → isNum n = true → ∀ x ∈ rowsOf r, preHas [x, n])
  | _ => False
abbrev spInRows (BadRows BadNumber : Addr) : Sp := PD 2 preIn (fInRows BadRows BadNumber)
theorem ok_in_rows (T : Txt K mg BadNumber BadRows PullError) (Dd : Def K mg "in_rows" s_in_rows ["rows", "number"]) (C_is_number : Cal P w K mg base 1 "is_number" s_is_number ["value"] spNum) (C_row_has : Cal P w K mg base 1 "row_has" s_row_has ["row", "number"] spHas)
    (C_need_row_list : Cal P w K mg base 4 "need_row_list" s_need_row_list ["rows"] (spNeedRows BadRows)) : Cal P w K mg base 5 "in_rows" s_in_rows ["rows", "number"] (spInRows BadRows BadNumber) := by
  refine Dd.ok sc_in_rows rfl stab0 fun f cdv A outer s H E hr => ⟨_, (pss_cons (ps_expr (pe_cal C_need_row_list (hr.mono (by decide)) passD (by rfl) (pa_cons (pv 0) pa_nil)))
    (pss_cons (ps_if (pt_not (pt_val (pe_cal C_is_number (hr.mono (by decide)) passD (by rfl) (pa_cons (pv 1) pa_nil)))) (pss_one (ps_raise rfl (takes_of rfl rfl rfl rfl) (T.x_BadNumber.mk' (by rfl)))) pss_nil)
    (pss_one (ps_ret (pe_callB (cr_any rfl) (by rfl) T.b_any bb_any (pa_cons (pe_lc (own := [("row", 2)]) rfl sc_in_rows.nd (pi_seq (pv 0)) (blkOk_by (own := [("row", 2)]) (N := ["rows", "number", "row"]) (sc := defScope s_in_rows) (by decide +kernel)) (fun _ _ _ _ _ => (pg_name (i := 2) sc_in_rows.nd rfl (by first | exact Or.inl rfl | exact Or.inr rfl))) (fun _ _ _ _ _ => pts_nil) (fun _ _ _ _ _ => (pe_cal C_row_has (hr.mono (by decide)) passL (by rfl) (pa_cons (pv 2) (pa_cons (pv 1) pa_nil))))) pa_nil)))))), ?_⟩
  rintro W n0 ds hV hG hE hEP hl hp
  match ds, hl, hp with
  | [r, n], _, hp =>
  obtain ⟨p0, p1, p2⟩ := hp
  refine ds_seq (ds_drop (de_detE hE ?_))
  repeat' (walk_at "hd1")
  refine ⟨rfl, p0, ?_⟩
  by_cases hr1 : rowsB r = true
  · show Outs (W.EP _) _ (if rowsB r = true then .ret false .non else .exc BadRows [] [])
    rw [if_pos hr1]
    show DS _ _ _ _ _ _ _ _
    have rs : r = .lst (rowsOf r) ∨ r = .tup (rowsOf r) := by
      cases r <;> first | exact .inl rfl | exact .inr rfl | cases hr1
    have lr : (rowsOf r).length ≤ 200 := by
      cases r <;> first | cases hr1 | exact of_decide_eq_true (Bool.and_eq_true_iff.mp hr1).1
    repeat' (walk_at "hd1")
    · rename_i hb
      rw [hEP]
      show Out.exc BadNumber [] [] = if rowsB r = true then (if isNum n = true then _ else .exc BadNumber [] []) else _
      rw [if_pos hr1, if_neg (by simpa using hb)]
    · rename_i hb
      have hn : isNum n = true := by simpa using hb
      refine DF.de (df_lc_map (fun x => .bl (hasB x n)) (noOwn_by rfl) (di_seq (de_var rfl ⟨rowsOf r, rs, szl (by omega), fun n1 d hm => dg_name ?_, fun n2 => ?_⟩)) in_self)
      · repeat' (walk_at "hd1")
        exact ⟨rfl, p2 hr1 hn d hm, _, _, rfl, rfl⟩
      · refine da_nil (b_anyM ?_)
        show Out.ret false _ = if rowsB r = true then (if isNum n = true then _ else .exc BadNumber [] []) else _
        rw [if_pos hr1, if_pos hn]
  · show Outs (W.EP _) _ (if rowsB r = true then .ret false .non else .exc BadRows [] [])
    rw [if_neg hr1]
    show W.EP _ BadRows [] []
    rw [hEP]
    show Out.exc BadRows [] [] = if rowsB r = true then _ else _
    rw [if_neg hr1]
end

section
variable {P : Program} {w : World} {K : PySem.W.Frag} {mg : Str → Option Value} {base : Heap} {BadNumber BadRows PullError : Addr} {Tt : List (Addr × Str)}
def preTr : List D → Prop
  | [.bl _, .bl _] => True
  | _ => False
def fTr : List D → Out
  | [.bl f, .bl d] => .ret false (.bl (if d = true then f else !f))
  | _ => .ret false .non
abbrev spTr : Sp := PD 2 preTr fTr
theorem ok__law_is_truth (Dd : Def K mg "_law_is_truth" s__law_is_truth ["_law_found", "_law_due"]) : Cal P w K mg base 1 "_law_is_truth" s__law_is_truth ["_law_found", "_law_due"] spTr := by
  refine Dd.ok sc__law_is_truth rfl stab0 fun f cdv A outer s H E hr => ⟨_, (pss_one (ps_ret (pe_ifExp (pt_val (pv 1)) (pe_cmpR op_isU (pv 0) (pe_bl) (nomark _)) (pe_cmpR op_isU (pv 0) (pe_bl) (nomark _))))), ?_⟩
  rintro W n0 ds hV hG hE hEP hl hp
  match ds, hl, hp with
  | [.bl a, .bl d], _, _ =>
  cases d <;> cases a <;> repeat' (walk_at "hd1")
  all_goals rfl
theorem ok__law_is_whole (T : Txt K mg BadNumber BadRows PullError) (Dd : Def K mg "_law_is_whole" s__law_is_whole ["_law_item"]) : Cal P w K mg base 1 "_law_is_whole" s__law_is_whole ["_law_item"] spNum := by
  refine Dd.ok sc__law_is_whole rfl stab0 fun f cdv A outer s H E hr => ⟨_, (pss_one (ps_ret ((pe_and (pe_callB call_isiU (by rfl) T.b_isinstance bb_isinstance (pa_cons (pv 0) (pa_cons (pe_bltn (v := .ty "int") (by rfl) T.b_int bb_int rfl) pa_nil))) (pe_one (pe_not (pe_callB call_isiU (by rfl) T.b_isinstance bb_isinstance (pa_cons (pv 0) (pa_cons (pe_bltn (v := .ty "bool") (by rfl) T.b_bool bb_bool rfl) pa_nil))))))))), ?_⟩
  rintro W n0 ds hV hG hE hEP hl hp
  match ds, hl with
  | [d], _ =>
  have hd : d.tn.isSome = true := hp
  cases d <;> try exact absurd hd Bool.false_ne_true
  all_goals repeat' (walk_at "hd1")
  all_goals rfl
theorem ok__law_k_is_row (T : Txt K mg BadNumber BadRows PullError) (Dd : Def K mg "_law_k_is_row" s__law_k_is_row ["_law_item_here"]) (C__law_is_whole : Cal P w K mg base 1 "_law_is_whole" s__law_is_whole ["_law_item"] spNum) : Cal P w K mg base 2 "_law_k_is_row" s__law_k_is_row ["_law_item_here"] spRow := by
  refine Dd.ok sc__law_k_is_row rfl stab0 fun f cdv A outer s H E hr => ⟨_, (pss_cons (ps_if (PW.pt (pw_or (pt_not (pt_val (pe_callB call_isiU (by rfl) T.b_isinstance bb_isinstance (pa_cons (pv 0) (pa_cons (pe_bltn (v := .ty "tuple") (by rfl) T.b_tuple bb_tuple rfl) pa_nil))))) (pw_or1 (pt_cmpR (op_neU hr) (pe_callB call_lenU (by rfl) T.b_len bb_len (pa_cons (pv 0) pa_nil)) (pe_int) (nomark _))))) (pss_one (ps_ret (pe_bl))) pss_nil)
    (pss_cons (ps_if (PW.pt (pw_or (pt_not (pt_val (pe_cal C__law_is_whole (hr.mono (by decide)) passD (by rfl) (pa_cons (pe_ix (ix_U (u1 hr)) (pv 0) (pe_int) (fun _ _ => rfl)) pa_nil)))) (pw_or1 (pt_not (pt_val (pe_cal C__law_is_whole (hr.mono (by decide)) passD (by rfl) (pa_cons (pe_ix (ix_U (u1 hr)) (pv 0) (pe_int) (fun _ _ => rfl)) pa_nil))))))) (pss_one (ps_ret (pe_bl))) pss_nil)
    (pss_one (ps_ret ((pe_or (pe_cmpR (op_eqU hr) (pe_ix (ix_U (u1 hr)) (pv 0) (pe_int) (fun _ _ => rfl)) (pe_int) (nomark _)) (pe_one (pe_chain op_leU op_ltU (pe_int) (pe_ix (ix_U (u1 hr)) (pv 0) (pe_int) (fun _ _ => rfl)) (pe_ix (ix_U (u1 hr)) (pv 0) (pe_int) (fun _ _ => rfl)))))))))), ?_⟩
  rintro W n0 ds hV hG hE hEP hl hp
  match ds, hl with
  | [d], _ =>
  have hd : d.tn.isSome = true := by
    cases d <;> first | rfl | exact hp
  by_cases ht : ∃ a b, d = .tup [a, b]
  · obtain ⟨a, b, rfl⟩ := ht
    have ha : a.tn.isSome = true := hp a List.mem_cons_self
    have hb : b.tn.isSome = true := hp b (List.mem_cons_of_mem _ List.mem_cons_self)
    rcases num_or a with ⟨i, rfl⟩ | ha0
    · rcases num_or b with ⟨j, rfl⟩ | hb0
      · repeat' (walk_at "hd1")
        all_goals simp_all [fRow, rowB]
        all_goals omega
      · have e : rowB (.tup [.int i, b]) = false := by cases b <;> first | rfl | cases hb0
        repeat' (walk_at "hd1")
        all_goals first
          | (show Out.ret false (D.bl false) = .ret false (.bl (rowB (.tup [.int i, b]))); rw [e])
          | simp_all
    · have e : rowB (.tup [a, b]) = false := by cases a <;> first | rfl | cases ha0
      repeat' (walk_at "hd1")
      all_goals first
        | (show Out.ret false (D.bl false) = .ret false (.bl (rowB (.tup [a, b]))); rw [e])
        | simp_all
  · have e : rowB d = false := by
      cases d with
      | tup l =>
        rcases l with _ | ⟨x, _ | ⟨y, _ | ⟨z, r⟩⟩⟩
        · rfl
        · cases x <;> rfl
        · exact absurd ⟨x, y, rfl⟩ ht
        · cases x <;> cases y <;> rfl
      | _ => rfl
    cases d
    case tup l hx =>
      have hl2 : (l.length : Int) ≠ 2 := fun q => by
        rcases l with _ | ⟨x, _ | ⟨y, _ | ⟨z, r⟩⟩⟩
        · cases q
        · cases q
        · exact ht ⟨x, y, rfl⟩
        · simp only [List.length_cons] at q; omega
      have hl3 : (!decide ((l.length : Int) = 2)) = true := by simp [hl2]
      repeat' (walk_at "hd1")
      all_goals first
        | (show Out.ret false (D.bl false) = .ret false (.bl (rowB (.tup l))); rw [e])
        | (rename_i hb'; rw [hl3] at hb'; cases hb')
    all_goals try exact absurd hd Bool.false_ne_true
    all_goals repeat' (walk_at "hd1")
    all_goals rfl
def hasK : D → D → Bool
  | .tup [.int f, .int s], .int n => (decide (s = 0) && decide (n = f)) || (decide (0 < s) && decide ((n - f).fmod s = 0))
  | _, _ => false
def fHasK : List D → Out
  | [r, n] => .ret false (.bl ((rowsOf r).any fun x => hasK x n))
  | _ => .ret false .non
def preHasK : List D → Prop
  | [r, .int _] => (r = .lst (rowsOf r) ∨ r = .tup (rowsOf r)) ∧ ∀ x ∈ rowsOf r, ∃ f s, x = .tup [.int f, .int s]
  | _ => False
abbrev spHasK : Sp := PD 2 preHasK fHasK
theorem ok__law_k_has (T : Txt K mg BadNumber BadRows PullError) (Dd : Def K mg "_law_k_has" s__law_k_has ["_law_rows_here", "_law_number_here"]) : Cal P w K mg base 1 "_law_k_has" s__law_k_has ["_law_rows_here", "_law_number_here"] spHasK := by
  refine Dd.ok sc__law_k_has rfl stab0 fun f cdv A outer s H E hr => ⟨_, (pss_cons (ps_for passOwnU rfl (pi_seq (pv 0)) (pg_tup (n := 2) rfl (pgs_cons (pg_name (i := 2) sc__law_k_has.nd rfl (by first | exact Or.inl rfl | exact Or.inr rfl)) (pgs_cons (pg_name (i := 3) sc__law_k_has.nd rfl (by first | exact Or.inl rfl | exact Or.inr rfl)) pgs_nil))) (pss_one (ps_if (PW.pt (pw_or (PW.pt (pw_and (pt_cmpR (op_eqU hr) (pv 3) (pe_int) (nomark _)) (pw_and1 (pt_cmpR (op_eqU hr) (pv 1) (pv 2) (nomark _))))) (pw_or1 (PW.pt (pw_and (pt_cmpR op_gtU (pv 3) (pe_int) (nomark _)) (pw_and1 (pt_cmpR (op_eqU hr) (pe_op op_modU (pe_callTy call_intU (by rfl) T.b_int bb_int (pa_cons (pe_op op_subU (pv 1) (pv 2)) pa_nil)) (pv 3)) (pe_int) (nomark _)))))))) (pss_one (ps_ret (pe_bl))) pss_nil)))
    (pss_one (ps_ret (pe_bl)))), ?_⟩
  rintro W n0 ds hV hG hE hEP hl hp
  match ds, hl, hp with
  | [r, .int n], _, ⟨hr2, hx⟩ =>
  refine ds_seq ?_
  refine ds_for (S := [2] ++ ([3] ++ [])) (di_seq (de_var rfl ⟨rowsOf r, hr2, fun i _ ρ => ((rowsOf r).take i).any (fun x => hasK x (.int n)) = false ∧ ∃ x2 x3, ρ = [some (false, r), some (false, .int n), x2, x3], ⟨by simp, _, _, rfl⟩, ?_, ?_⟩))
  · rintro i _ d ρ' hd ⟨h1, x2, x3, rfl⟩
    have hm := List.mem_of_getElem? hd
    obtain ⟨f, st, rfl⟩ := hx d hm
    have yes : hasK (.tup [.int f, .int st]) (.int n) = true → Out.ret false (.bl true) = fHasK [r, .int n] := fun h => by
      show _ = Out.ret false (.bl ((rowsOf r).any fun x => hasK x (.int n)))
      rw [List.any_eq_true.mpr ⟨_, hm, h⟩]
    have no : hasK (.tup [.int f, .int st]) (.int n) = false → ((rowsOf r).take (i + 1)).any (fun x => hasK x (.int n)) = false := fun h => by
      rw [take_snoc hd, List.any_append, h1, List.any_cons, h]; rfl
    repeat' (walk_at "hd1")
    all_goals first
      | exact yes (by simp_all [hasK]; done)
      | exact ⟨no (by simp_all [hasK]; try (intros; omega)), _, _, rfl⟩
      | (refine r_mod (by rename_i hb; have := of_decide_eq_true hb; omega) ?_; repeat' (walk_at "hd1"))
    all_goals first
      | exact yes (by simp_all [hasK]; done)
      | exact ⟨no (by simp_all [hasK]; try (intros; omega)), _, _, rfl⟩
  · rintro _ ρ' ⟨h1, x2, x3, rfl⟩
    rw [List.take_length] at h1
    repeat' (walk_at "hd1")
    show Out.ret false (.bl false) = .ret false (.bl ((rowsOf r).any fun x => hasK x (.int n)))
    rw [h1]
/-! ### the law's draws -/
def isRow : D → Prop
  | .tup [.int f, .int s] => (s = 0 ∨ (0 ≤ f ∧ f < s)) ∧ big f ∧ big s ∧ 0 ≤ s
  | _ => False
def rowsR (_ : LP K Tt) (_ : List D) (b : Bool) (d : D) : Prop := ∃ l, b = true ∧ d = .lst l ∧ l.length ≤ 4 ∧ ∀ x ∈ l, isRow x
def rowsPre (L : LP K Tt) (ds : List D) : Prop := ∃ ss, ds = [.raw L.s, .int 4, .lst ss] ∧ 0 < ss.length ∧ ss.length ≤ 100 ∧ ∀ x ∈ ss, ∃ s, x = .int s ∧ 0 < s ∧ big s
abbrev spRowsR (K : PySem.W.Frag) (Tt : List (Addr × Str)) : Sp := spL K Tt 3 100 rowsPre rowsR
theorem ok__law_k_rows (T : Txt K mg BadNumber BadRows PullError) (Dd : Def K mg "_law_k_rows" s__law_k_rows ["_law_state", "_law_many", "_law_sizes"]) (C__law_draw : Cal P w K mg base 2 "_law_draw" s__law_draw ["_law_state", "_law_size_here"] (spDraw K Tt))
    (C__law_pick : Cal P w K mg base 3 "_law_pick" s__law_pick ["_law_state", "_law_several"] (spPick K Tt)) : Cal P w K mg base 4 "_law_k_rows" s__law_k_rows ["_law_state", "_law_many", "_law_sizes"] (spRowsR K Tt) := by
  refine Dd.okL sc__law_k_rows rfl fun f cdv A outer s H E hr => ⟨_, (pss_cons (ps_set (i := 3) sc__law_k_rows.nd rfl (by first | exact Or.inl rfl | exact Or.inr rfl) (pe_lst pa_nil))
    (pss_cons (ps_for passOwnU rfl (pi_range1 (by rfl) T.b_range (pa_cons (pe_cal C__law_draw (hr.mono (by decide)) passD (by rfl) (pa_cons (pv 0) (pa_cons (pe_op op_addU (pv 1) (pe_int)) pa_nil))) pa_nil)) (pg_name (i := 4) sc__law_k_rows.nd rfl (by first | exact Or.inl rfl | exact Or.inr rfl)) (pss_cons (ps_set (i := 5) sc__law_k_rows.nd rfl (by first | exact Or.inl rfl | exact Or.inr rfl) (pe_cal C__law_pick (hr.mono (by decide)) passD (by rfl) (pa_cons (pv 0) (pa_cons (pv 2) pa_nil))))
    (pss_one (ps_expr (pe_bm PySem.F.plainAttrs_list PySem.F.slot_list_append PySem.F.type_list_append mt_append (pv 3) (pa_cons (pe_ifExp (pt_cmpR op_gtU (pe_cal C__law_draw (hr.mono (by decide)) passD (by rfl) (pa_cons (pv 0) (pa_cons (pe_int) pa_nil))) (pe_int) (nomark _)) (pe_tup (pa_cons (pe_cal C__law_draw (hr.mono (by decide)) passD (by rfl) (pa_cons (pv 0) (pa_cons (pv 5) pa_nil))) (pa_cons (pv 5) pa_nil))) (pe_tup (pa_cons (pe_op op_subU (pe_cal C__law_draw (hr.mono (by decide)) passD (by rfl) (pa_cons (pv 0) (pa_cons (pe_int) pa_nil))) (pe_int)) (pa_cons (pe_int) pa_nil)))) pa_nil))))))
    (pss_one (ps_ret (pv 3))))), ?_⟩
  rintro L W n ds hV hG hE hl hc ⟨ss, rfl, h1, h2, h3⟩
  repeat' (walk_at "hd1")
  refine ds_for (S := [4]) (di_range1 ?_)
  repeat' (walk_at "hd1")
  rename_i n1 k hn1 hk0 hk1
  refine ⟨by omega, by omega, fun i n' ρ => n1 ≤ n' + 10 * i ∧ ∃ l x4 x5, l.length = i ∧ (∀ x ∈ l, isRow x) ∧ ρ = [some (false, .raw L.s), some (false, .int 4), some (false, .lst ss), some (true, .lst l), x4, x5], ⟨by omega, [], _, _, rfl, (fun _ h => nomatch h), rfl⟩, ?_, ?_⟩
  · rintro i n2 d ρ' hd ⟨hn2, l, x4, x5, hl2, hrow, rfl⟩
    have hi : i < k.toNat := by
      have := (List.getElem?_eq_some_iff.mp hd).1
      rw [upTo_len] at this
      exact this
    repeat' (walk_at "hd1")
    refine ⟨ss, .inl rfl, h1, by omega, by omega, fun n3 d1 hn3 hm => ?_⟩
    obtain ⟨st, rfl, hs0, hsb⟩ := h3 _ hm
    have hll : l.length < sizeLine := szlt (by omega)
    repeat' (walk_at "hd1")
    · refine ⟨hs0, p92 hsb, by omega, fun n5 k5 a b c => ?_⟩
      repeat' (walk_at "hd1")
      refine ⟨hll, by omega, l ++ [.tup [.int k5, .int st]], _, _, by rw [List.length_append, hl2]; rfl, fun x hx => ?_, rfl⟩
      rcases List.mem_append.mp hx with hx | hx
      · exact hrow x hx
      · have : x = .tup [.int k5, .int st] := by simpa using hx
        rw [this]
        have hb : k5.natAbs < 2 ^ 200 := by have := hsb; unfold big at this; omega
        exact ⟨.inr ⟨b, c⟩, hb, hsb, by omega⟩
    · rename_i n6 k6 a b c
      refine ⟨hll, by omega, l ++ [.tup [.int (k6 - 9), .int 0]], _, _, by rw [List.length_append, hl2]; rfl, fun x hx => ?_, rfl⟩
      rcases List.mem_append.mp hx with hx | hx
      · exact hrow x hx
      · have : x = .tup [.int (k6 - 9), .int 0] := by simpa using hx
        rw [this]
        exact ⟨.inl rfl, by unfold big; omega, by unfold big; decide, Int.le_refl _⟩
  · rintro n2 ρ' ⟨hn2, l, x4, x5, hl2, hrow, rfl⟩
    rw [upTo_len] at hn2 hl2
    repeat' (walk_at "hd1")
    exact ⟨by omega, l, rfl, rfl, by omega, hrow⟩
theorem all_pl {ds : List D} (h : ds.all (fun d => d.tn.isSome) = true) : ∀ d ∈ ds, D.pl d := fun d hd => List.all_eq_true.mp h d hd
/-- values near to lists of rows -/
def badR (_ : LP K Tt) (_ : List D) (b : Bool) (d : D) : Prop := b = false ∧ preRows d ∧ rowsB d = false
def stPre (L : LP K Tt) (ds : List D) : Prop := ds = [.raw L.s]
abbrev spBad (K : PySem.W.Frag) (Tt : List (Addr × Str)) : Sp := spL K Tt 1 100 stPre badR
theorem ok__law_k_bad_rows (T : Txt K mg BadNumber BadRows PullError) (Dd : Def K mg "_law_k_bad_rows" s__law_k_bad_rows ["_law_state"]) (C__law_pick : Cal P w K mg base 3 "_law_pick" s__law_pick ["_law_state", "_law_several"] (spPick K Tt)) : Cal P w K mg base 4 "_law_k_bad_rows" s__law_k_bad_rows ["_law_state"] (spBad K Tt) := by
  refine Dd.okL sc__law_k_bad_rows rfl fun f cdv A outer s H E hr => ⟨_, (pss_cons (ps_set (i := 1) sc__law_k_bad_rows.nd rfl (by first | exact Or.inl rfl | exact Or.inr rfl) (pe_lst (pa_cons (pe_tup (pa_cons (pe_int) (pa_cons (pe_un un_neg (pe_int)) pa_nil))) (pa_cons (pe_tup (pa_cons (pe_int) (pa_cons (pe_int) pa_nil))) (pa_cons (pe_tup (pa_cons (pe_un un_neg (pe_int)) (pa_cons (pe_int) pa_nil))) (pa_cons (pe_tup (pa_cons (pe_int) pa_nil)) (pa_cons (pe_lst (pa_cons (pe_int) (pa_cons (pe_int) pa_nil))) (pa_cons (pe_tup (pa_cons (pe_int) (pa_cons (pe_int) (pa_cons (pe_int) pa_nil)))) (pa_cons (pe_tup (pa_cons (pe_bl) (pa_cons (pe_int) pa_nil))) (pa_cons (pe_tup (pa_cons (pe_int) (pa_cons (pe_bl) pa_nil))) (pa_cons (pe_tup (pa_cons (pe_str) (pa_cons (pe_int) pa_nil))) (pa_cons (pe_tup (pa_cons (pe_non) (pa_cons (pe_int) pa_nil))) (pa_cons (pe_int) (pa_cons (pe_tup (pa_cons (pe_int) (pa_cons (pe_int) pa_nil))) pa_nil))))))))))))))
    (pss_cons (ps_set (i := 2) sc__law_k_bad_rows.nd rfl (by first | exact Or.inl rfl | exact Or.inr rfl) (pe_cal C__law_pick (hr.mono (by decide)) passD (by rfl) (pa_cons (pv 0) (pa_cons (pv 1) pa_nil))))
    (pss_one (ps_ret (pe_cal C__law_pick (hr.mono (by decide)) passD (by rfl) (pa_cons (pv 0) (pa_cons (pe_lst (pa_cons (pe_non) (pa_cons (pe_int) (pa_cons (pe_str) (pa_cons (pe_dnewK) (pa_cons (pe_tup (pa_cons (pe_int) (pa_cons (pe_int) pa_nil))) (pa_cons (pe_lst (pa_cons (pv 2) pa_nil)) (pa_cons (pe_lst (pa_cons (pe_tup (pa_cons (pe_int) (pa_cons (pe_int) pa_nil))) (pa_cons (pv 2) pa_nil))) (pa_cons (pe_tup (pa_cons (pv 2) (pa_cons (pe_tup (pa_cons (pe_int) (pa_cons (pe_int) pa_nil))) pa_nil))) (pa_cons (pe_op op_mulU (pe_lst (pa_cons (pe_tup (pa_cons (pe_int) (pa_cons (pe_int) pa_nil))) pa_nil)) (pe_int)) pa_nil)))))))))) pa_nil))))))), ?_⟩
  rintro L W n ds hV hG hE hl hc rfl
  refine ds_seq (ds_set (DF.de (df_lst ?_)))
  repeat' (walk_at "hd1")
  rename_i n1 it a1 hm1 n2 d a2 hm2
  have hit : preD it ∧ rowB it = false := by
    simp only [List.mem_cons, List.not_mem_nil, or_false] at hm1
    rcases hm1 with rfl | rfl | rfl | rfl | rfl | rfl | rfl | rfl | rfl | rfl | rfl | rfl
    all_goals first | exact ⟨rfl, rfl⟩ | exact ⟨all_pl rfl, rfl⟩
  have h02 : preD (.tup [.int 0, .int 2]) := all_pl rfl
  have h10 : preD (.tup [.int 1, .int 0]) := all_pl rfl
  refine ⟨by omega, rfl, ?_⟩
  simp only [List.mem_cons, List.not_mem_nil, or_false] at hm2
  rcases hm2 with rfl | rfl | rfl | rfl | rfl | rfl | rfl | rfl | rfl
  all_goals first
    | exact ⟨rfl, rfl⟩
    | exact ⟨⟨by decide, fun x hx => by
        simp only [List.mem_cons, List.not_mem_nil, or_false] at hx
        rcases hx with rfl | rfl
        all_goals rfl⟩, rfl⟩
    | skip
  · refine ⟨⟨Nat.le_of_ble_eq_true rfl, fun x hx => ?_⟩, by show (decide (1 ≤ 200) && (rowB it && true)) = false; rw [hit.2]; rfl⟩
    have : x = it := by simpa using hx
    rw [this]; exact hit.1
  · refine ⟨⟨Nat.le_of_ble_eq_true rfl, fun x hx => ?_⟩, by show (decide (2 ≤ 200) && (true && (rowB it && true))) = false; rw [hit.2]; rfl⟩
    simp only [List.mem_cons, List.not_mem_nil, or_false] at hx
    rcases hx with rfl | rfl
    · exact h02
    · exact hit.1
  · refine ⟨⟨Nat.le_of_ble_eq_true rfl, fun x hx => ?_⟩, by show (decide (2 ≤ 200) && (rowB it && (true && true))) = false; rw [hit.2]; rfl⟩
    simp only [List.mem_cons, List.not_mem_nil, or_false] at hx
    rcases hx with rfl | rfl
    · exact hit.1
    · exact h10
  · refine ⟨⟨by decide, fun x hx => ?_⟩, rfl⟩
    obtain ⟨l, hl1, hl2⟩ := List.mem_flatten.mp hx
    have e1 := List.eq_of_mem_replicate hl1
    subst e1
    have : x = .tup [.int 0, .int 2] := by simpa using hl2
    rw [this]; exact h02
/-- values near to a row -/
def nearR (_ : LP K Tt) (_ : List D) (b : Bool) (d : D) : Prop := b = false ∧ preD d
abbrev spNear (K : PySem.W.Frag) (Tt : List (Addr × Str)) : Sp := spL K Tt 1 100 stPre nearR
theorem ok__law_near_row (T : Txt K mg BadNumber BadRows PullError) (Dd : Def K mg "_law_near_row" s__law_near_row ["_law_state"]) (C__law_draw : Cal P w K mg base 2 "_law_draw" s__law_draw ["_law_state", "_law_size_here"] (spDraw K Tt))
    (C__law_pick : Cal P w K mg base 3 "_law_pick" s__law_pick ["_law_state", "_law_several"] (spPick K Tt)) : Cal P w K mg base 4 "_law_near_row" s__law_near_row ["_law_state"] (spNear K Tt) := by
  refine Dd.okL sc__law_near_row rfl fun f cdv A outer s H E hr => ⟨_, (pss_cons (ps_par (i := 1) (j := 2) rfl sc__law_near_row.nd rfl rfl (by decide) rfl rfl (pa_cons (pe_op op_subU (pe_cal C__law_draw (hr.mono (by decide)) passD (by rfl) (pa_cons (pv 0) (pa_cons (pe_int) pa_nil))) (pe_int)) (pa_cons (pe_op op_subU (pe_cal C__law_draw (hr.mono (by decide)) passD (by rfl) (pa_cons (pv 0) (pa_cons (pe_int) pa_nil))) (pe_int)) pa_nil)) (by rfl))
    (pss_cons (ps_set (i := 3) sc__law_near_row.nd rfl (by first | exact Or.inl rfl | exact Or.inr rfl) (pe_lst (pa_cons (pe_tup (pa_cons (pv 1) (pa_cons (pv 2) pa_nil))) (pa_cons (pe_tup (pa_cons (pv 1) (pa_cons (pv 2) pa_nil))) (pa_cons (pe_tup (pa_cons (pv 1) (pa_cons (pe_int) pa_nil))) (pa_cons (pe_lst (pa_cons (pv 1) (pa_cons (pv 2) pa_nil))) (pa_cons (pe_tup (pa_cons (pv 1) pa_nil)) (pa_cons (pe_tup (pa_cons (pv 1) (pa_cons (pv 2) (pa_cons (pe_int) pa_nil)))) (pa_cons (pe_tup (pa_cons (pe_bl) (pa_cons (pe_int) pa_nil))) pa_nil)))))))))
    (pss_cons (ps_set (i := 3) sc__law_near_row.nd rfl (by first | exact Or.inl rfl | exact Or.inr rfl) (pe_op op_addU (pv 3) (pe_lst (pa_cons (pe_tup (pa_cons (pv 1) (pa_cons (pe_bl) pa_nil))) (pa_cons (pe_tup (pa_cons (pe_non) (pa_cons (pv 2) pa_nil))) (pa_cons (pe_tup (pa_cons (pe_str) (pa_cons (pe_int) pa_nil))) (pa_cons (pv 1) (pa_cons (pe_tup (pa_cons (pv 2) (pa_cons (pv 2) pa_nil))) (pa_cons (pe_tup (pa_cons (pe_op op_subU (pv 2) (pe_int)) (pa_cons (pv 2) pa_nil))) pa_nil)))))))))
    (pss_cons (ps_set (i := 3) sc__law_near_row.nd rfl (by first | exact Or.inl rfl | exact Or.inr rfl) (pe_op op_addU (pv 3) (pe_lst (pa_cons (pe_tup (pa_cons (pe_op op_powU (pe_int) (pe_int)) (pa_cons (pe_op op_addU (pe_op op_powU (pe_int) (pe_int)) (pe_int)) pa_nil))) (pa_cons (pe_tup (pa_cons (pe_un un_neg (pe_int)) (pa_cons (pe_op op_powU (pe_int) (pe_int)) pa_nil))) pa_nil)))))
    (pss_one (ps_ret (pe_cal C__law_pick (hr.mono (by decide)) passD (by rfl) (pa_cons (pv 0) (pa_cons (pv 3) pa_nil))))))))), ?_⟩
  rintro L W n ds hV hG hE hl hc rfl
  repeat' (walk_at "hd1")
  rename_i n3 d a3 hm
  refine ⟨by omega, rfl, ?_⟩
  simp only [List.mem_append, List.mem_cons, List.not_mem_nil, or_false] at hm
  rcases hm with ((rfl | rfl | rfl | rfl | rfl | rfl | rfl) | rfl | rfl | rfl | rfl | rfl | rfl) | rfl | rfl
  all_goals first | exact rfl | exact all_pl rfl
theorem each_all {R : D → Prop} : ∀ {ds ys : List D}, Each (fun _ y => R y) ds ys → ∀ y ∈ ys, R y
  | _, _, .nil, _, h => nomatch h
  | _, _, .cons r t, y, h => (List.mem_cons.mp h).elim (fun e => by rw [e]; exact r) (each_all t y)
def trueR (_ : LP K Tt) (_ : List D) (b : Bool) (d : D) : Prop := b = false ∧ d = .bl true
abbrev spTrue (K : PySem.W.Frag) (Tt : List (Addr × Str)) : Sp := spL K Tt 1 1000 stPre trueR
theorem ok__law_lists_right (T : Txt K mg BadNumber BadRows PullError) (Dd : Def K mg "_law_lists_right" s__law_lists_right ["_law_state"]) (C__law_draw : Cal P w K mg base 2 "_law_draw" s__law_draw ["_law_state", "_law_size_here"] (spDraw K Tt))
    (C__law_near_row : Cal P w K mg base 4 "_law_near_row" s__law_near_row ["_law_state"] (spNear K Tt)) (C__law_is_truth : Cal P w K mg base 1 "_law_is_truth" s__law_is_truth ["_law_found", "_law_due"] spTr)
    (C__law_k_is_row : Cal P w K mg base 2 "_law_k_is_row" s__law_k_is_row ["_law_item_here"] spRow) (C_are_rows : Cal P w K mg base 3 "are_rows" s_are_rows ["thing"] spRows) : Cal P w K mg base 5 "_law_lists_right" s__law_lists_right ["_law_state"] (spTrue K Tt) := by
  have CK_are_rows_0_thing := C_are_rows.kw 0 ["thing"] [0] (fun _ _ _ _ _ _ us ws h1 h2 => match us, ws, h1, h2 with | [], [_], _, _ => rfl)
  refine Dd.okL sc__law_lists_right rfl fun f cdv A outer s H E hr => ⟨_, (pss_cons (ps_setLc (i := 1) (own := [("_law_turn", 2)]) rfl sc__law_lists_right.nd rfl rfl (sw_true rfl rfl rfl (by decide +kernel)) (pi_range1 (by rfl) T.b_range (pa_cons (pe_cal C__law_draw (hr.mono (by decide)) passD (by rfl) (pa_cons (pv 0) (pa_cons (pe_int) pa_nil))) pa_nil)) (blkOk_by (own := [("_law_turn", 2)]) (N := ["_law_state", "_law_some", "_law_turn", "_law_due", "_law_item"]) (sc := defScope s__law_lists_right) (by decide +kernel)) (fun _ _ _ _ _ => (pg_name (i := 2) sc__law_lists_right.nd rfl (by first | exact Or.inl rfl | exact Or.inr rfl))) (fun _ _ _ _ _ => pts_nil) (fun _ _ _ _ _ => (pe_cal C__law_near_row (hr.mono (by decide)) passL (by rfl) (pa_cons (pv 0) pa_nil))))
    (pss_cons (ps_set (i := 3) sc__law_lists_right.nd rfl (by first | exact Or.inl rfl | exact Or.inr rfl) (pe_cmpR (op_eqU hr) (pe_lc (own := [("_law_item", 4)]) rfl sc__law_lists_right.nd (pi_seq (pv 1)) (blkOk_by (own := [("_law_item", 4)]) (N := ["_law_state", "_law_some", "_law_turn", "_law_due", "_law_item"]) (sc := defScope s__law_lists_right) (by decide +kernel)) (fun _ _ _ _ _ => (pg_name (i := 4) sc__law_lists_right.nd rfl (by first | exact Or.inl rfl | exact Or.inr rfl))) (fun _ _ _ _ _ => (pts_one (pt_not (pt_val (pe_cal C__law_k_is_row (hr.mono (by decide)) passL (by rfl) (pa_cons (pv 4) pa_nil)))))) (fun _ _ _ _ _ => (pe_int))) (pe_lst pa_nil) (nomark _)))
    (pss_cons (ps_if (PW.pt (pw_or (pt_not (pt_val (pe_cal C__law_is_truth (hr.mono (by decide)) passD (by rfl) (pa_cons (pe_cal C_are_rows (hr.mono (by decide)) passD (by rfl) (pa_cons (pv 1) pa_nil)) (pa_cons (pv 3) pa_nil))))) (pw_or1 (pt_not (pt_val (pe_cal C__law_is_truth (hr.mono (by decide)) passD (by rfl) (pa_cons (pe_calK0 CK_are_rows_0_thing (hr.mono (by decide)) passD (by rfl) (pk_cons (pe_callTy call_tupleU (by rfl) T.b_tuple bb_tuple (pa_cons (pv 1) pa_nil)) pk_nil)) (pa_cons (pv 3) pa_nil)))))))) (pss_one (ps_ret (pe_bl))) pss_nil)
    (pss_cons (ps_if (PW.pt (pw_or (pt_cmpR op_isnU (pe_cal C_are_rows (hr.mono (by decide)) passD (by rfl) (pa_cons (pe_op op_mulU (pe_lst (pa_cons (pe_tup (pa_cons (pe_int) (pa_cons (pe_int) pa_nil))) pa_nil)) (pe_int)) pa_nil)) (pe_bl) (nomark _)) (pw_or1 (pt_cmpR op_isnU (pe_cal C_are_rows (hr.mono (by decide)) passD (by rfl) (pa_cons (pe_op op_mulU (pe_lst (pa_cons (pe_tup (pa_cons (pe_int) (pa_cons (pe_int) pa_nil))) pa_nil)) (pe_int)) pa_nil)) (pe_bl) (nomark _))))) (pss_one (ps_ret (pe_bl))) pss_nil)
    (pss_cons (ps_for passOwnU rfl (pi_seq (pe_lst (pa_cons (pe_non) (pa_cons (pe_int) (pa_cons (pe_str) (pa_cons (pe_dnewK) (pa_cons (pe_tup (pa_cons (pe_int) (pa_cons (pe_int) pa_nil))) (pa_cons (pe_dispT1 (u1 hr) (pe_tup (pa_cons (pe_int) (pa_cons (pe_int) pa_nil))) (pe_int)) pa_nil)))))))) (pg_name (i := 4) sc__law_lists_right.nd rfl (by first | exact Or.inl rfl | exact Or.inr rfl)) (pss_one (ps_if (PW.pt (pw_or (pt_cmpR op_isnU (pe_cal C_are_rows (hr.mono (by decide)) passD (by rfl) (pa_cons (pv 4) pa_nil)) (pe_bl) (nomark _)) (pw_or1 (pt_not (pt_val (pe_cal C__law_is_truth (hr.mono (by decide)) passD (by rfl) (pa_cons (pe_cal C_are_rows (hr.mono (by decide)) passD (by rfl) (pa_cons (pe_lst (pa_cons (pv 4) (pa_cons (pe_tup (pa_cons (pe_int) (pa_cons (pe_int) pa_nil))) pa_nil))) pa_nil)) (pa_cons (pe_cal C__law_k_is_row (hr.mono (by decide)) passD (by rfl) (pa_cons (pv 4) pa_nil)) pa_nil)))))))) (pss_one (ps_ret (pe_bl))) pss_nil)))
    (pss_one (ps_ret (pe_bl)))))))), ?_⟩
  rintro L W n ds hV hG hE hl hc rfl
  repeat' (walk_at "hd1")
  refine DF.de (df_lc_cost 100 (fun _ y => preD y) (noOwn_by rfl) (di_range1 ?_) in_self)
  repeat' (walk_at "hd1")
  rename_i n1 k a1 k0 k1
  refine ⟨by omega, by omega, szl (by rw [upTo_len]; omega), by rw [upTo_len]; omega, fun n2 d hd hc2 => dg_name ?_, fun n2 ys hn2 hsome => ?_⟩
  · refine de_lawL L hV hG ?_
    repeat' (walk_at "hd1")
    exact ⟨rfl, hc2, rfl, fun n3 b d h4 h5 => ⟨h4, h5.2⟩⟩
  have hyl := hsome.len
  rw [upTo_len] at hyl hn2
  have hyp : ∀ y ∈ ys, preD y := each_all hsome
  have hbig : rowsB (.lst ys) = ys.all rowB := by
    show (decide (ys.length ≤ 200) && ys.all rowB) = _
    rw [decide_eq_true (by omega)]; rfl
  have hbig2 : rowsB (.tup ys) = ys.all rowB := hbig
  have hpre : preRows (.lst ys) := ⟨by omega, hyp⟩
  have hpre2 : preRows (.tup ys) := ⟨by omega, hyp⟩
  refine ds_seq (ds_set (de_op (DF.de (df_lc_filterN (fun d => !rowB d) (fun _ => .int 1) (noOwn_by rfl) (di_seq (de_var rfl ⟨ys, .inl rfl, szl (by omega), fun n3 d hd hn3 => dg_name ?_, fun n3 hn3 => ?_⟩)) in_self))))
  · have hpd := hyp d hd
    repeat' (walk_at "hd1")
    exact ⟨rfl, hn3, fun _ => de_int ⟨hn3, rfl⟩⟩
  have em : (ys.filter fun d => !rowB d).map (fun _ => D.int 1) = ((ys.filter fun d => !rowB d).map fun _ => (1 : Int)).map D.int := by rw [List.map_map]; rfl
  rw [em]
  repeat' (walk_at "hd1")
  refine r_eqNil ?_
  rw [filter_none]
  have t1 : (if ys.all rowB = true then rowsB (.lst ys) else !rowsB (.lst ys)) = true := by rw [hbig]; cases ys.all rowB <;> rfl
  have t2 : (if ys.all rowB = true then rowsB (.tup ys) else !rowsB (.tup ys)) = true := t1
  have h02 : ∀ m, preRows (.lst (List.replicate m [D.tup [.int 0, .int 2]]).flatten) ∨ 1000 < m := fun m => by
    by_cases hm : 1000 < m
    · exact .inr hm
    · refine .inl ⟨?_, fun x hx => ?_⟩
      · rw [List.length_flatten, List.map_replicate]
        simp; omega
      · obtain ⟨l, hl1, hl2⟩ := List.mem_flatten.mp hx
        have e1 := List.eq_of_mem_replicate hl1
        subst e1
        have : x = .tup [.int 0, .int 2] := by simpa using hl2
        rw [this]; exact all_pl rfl
  repeat' (walk_at "hd1")
  · rename_i hb
    rw [t1] at hb; cases hb
  · rename_i hb
    have hb : (!if ys.all rowB = true then rowsB (.tup ys) else !rowsB (.tup ys)) = true := hb
    rw [t2] at hb; cases hb
  · refine ⟨rfl, (h02 200).resolve_right (by decide), _, _, rfl, ?_⟩
    repeat' (walk_at "hd1")
    refine ⟨rfl, (h02 201).resolve_right (by decide), _, _, rfl, ?_⟩
    repeat' (walk_at "hd1")
    refine ds_for (S := [4]) (di_seqL (DF.de (df_lst ?_)))
    repeat' (walk_at "hd1")
    refine ⟨⟨[.inl 0, .inl 2], rfl⟩, ?_⟩
    repeat' (walk_at "hd1")
    refine ⟨fun i n ρ => n3 ≤ n ∧ ∃ x4, ρ = [some (false, .raw L.s), some (false, .lst ys), none, some (false, .bl (ys.all rowB)), x4], ⟨Nat.le_refl _, _, rfl⟩, ?_, ?_⟩
    · rintro i n4 d ρ' hd ⟨hn4, x4, rfl⟩
      have hf : preRs [d] ∧ rowsB d = false ∧ preRow [d] := by
        have hm := List.mem_of_getElem? hd
        simp only [List.mem_cons, List.not_mem_nil, or_false] at hm
        rcases hm with rfl | rfl | rfl | rfl | rfl | rfl
        all_goals first
          | exact ⟨rfl, rfl, rfl⟩
          | exact ⟨⟨by decide, fun x hx => by
              simp only [List.mem_cons, List.not_mem_nil, or_false] at hx
              rcases hx with rfl | rfl
              all_goals rfl⟩, rfl, all_pl rfl⟩
      obtain ⟨f1, f2, f3⟩ := hf
      have f4 : preRs [.lst [d, .tup [.int 0, .int 2]]] := ⟨Nat.le_of_ble_eq_true rfl, fun x hx => by
        simp only [List.mem_cons, List.not_mem_nil, or_false] at hx
        rcases hx with rfl | rfl
        · exact f3
        · exact all_pl rfl⟩
      have t3 : (if rowB d = true then rowsB (.lst [d, .tup [.int 0, .int 2]]) else !rowsB (.lst [d, .tup [.int 0, .int 2]])) = true := by
        show (if rowB d = true then (true && (rowB d && (true && true))) else !(true && (rowB d && (true && true)))) = true
        cases rowB d <;> rfl
      repeat' (walk_at "hd1")
      · rename_i hb
        rw [f2] at hb; cases hb
      · rename_i hb
        rw [t3] at hb; cases hb
      · exact ⟨hn4, _, rfl⟩
    · rintro n4 ρ' ⟨hn4, x4, rfl⟩
      exact ds_ret (de_bl ⟨by omega, rfl, rfl⟩)
end

section
variable {P : Program} {w : World} {K : PySem.W.Frag} {mg : Str → Option Value} {base : Heap} {BadNumber BadRows PullError : Addr} {c Pt : Addr}
structure Txx (K : PySem.W.Frag) (BadNumber BadRows PullError : Addr) : Prop where
  eN : ExcC K BadNumber
  eR : ExcC K BadRows
  kN : PySem.W.kitOne K (.ref BadNumber) (.ref BadNumber) = some true
  kR : PySem.W.kitOne K (.ref BadRows) (.ref BadRows) = some true
  mN : PySem.W.exmOne K (.ref BadNumber) (.ref PullError) = some true
  mR : PySem.W.exmOne K (.ref BadRows) (.ref PullError) = some true
abbrev lawTt (Pt : Addr) : List (Addr × Str) := [(Pt, "law.<locals>.<lambda>")]
theorem rows_shaped : ∀ {l : List D}, (∀ x ∈ l, isRow x) → ∃ ps, toPs l = some ps ∧ PyData.canLayAll0 ps = true ∧ PyData.depthAll ps ≤ 1
  | [], _ => ⟨[], rfl, rfl, Nat.zero_le _⟩
  | d :: r, h => by
    obtain ⟨ps, h1, h2, h3⟩ := rows_shaped (l := r) fun x hx => h x (List.mem_cons_of_mem _ hx)
    have hd := h d List.mem_cons_self
    match d, hd with
    | .tup [.int f, .int s], _ =>
      refine ⟨.tuple [.int f, .int s] :: ps, by unfold toPs; rw [h1]; rfl, ?_, ?_⟩
      · show (PyData.canLay0 (.tuple [.int f, .int s]) && PyData.canLayAll0 ps) = true
        rw [h2]; rfl
      · show max (PyData.depth (.tuple [.int f, .int s])) (PyData.depthAll ps) ≤ 1
        exact Nat.max_le.mpr ⟨Nat.le_refl 1, h3⟩
theorem rows_ne {W : Wd} {n : Nat} {ρ : Rho} {Q : Nat → D → Prop} {l : List D} (h : ∀ x ∈ l, isRow x) (p : Q n (.bl false)) : DR (rNeD K) W n ρ (.lst l) (.lst l) Q := by
  obtain ⟨ps, h1, h2, h3⟩ := rows_shaped h
  have e : D.toP (.lst l) = some (.list ps) := by unfold D.toP; rw [h1]
  have hs : SeqAt.shaped (.list ps) = true := by
    show (PyData.canLayAll0 ps && decide (PyData.depthAll ps + 1 ≤ 64)) = true
    rw [h2, decide_eq_true (by omega)]; rfl
  refine dr_ne e e hs hs ?_
  have r := SeqAt.eqv_refl (.list ps) h2
  rw [r]
  exact p
theorem row_facts {l : List D} (h : ∀ x ∈ l, isRow x) (hl : l.length ≤ 4) : rowsB (.lst l) = true ∧ preRows (.lst l) ∧ ∀ n : Int, big n → (∀ x ∈ l, preHas [x, .int n]) ∧ (l.any fun x => hasB x (.int n)) = l.any fun x => hasK x (.int n) := by
  have one : ∀ x ∈ l, ∃ f s, x = .tup [.int f, .int s] ∧ (s = 0 ∨ (0 ≤ f ∧ f < s)) ∧ big f ∧ big s ∧ 0 ≤ s := fun x hx => by
    have := h x hx
    match x, this with
    | .tup [.int f, .int s], q => exact ⟨f, s, rfl, q⟩
  refine ⟨?_, ⟨by omega, fun x hx => ?_⟩, fun n hn => ⟨fun x hx => ?_, ?_⟩⟩
  · show (decide (l.length ≤ 200) && l.all rowB) = true
    rw [decide_eq_true (by omega), Bool.true_and]
    refine List.all_eq_true.mpr fun x hx => ?_
    obtain ⟨f, s, rfl, q, _⟩ := one x hx
    show (decide (s = 0) || (decide (0 ≤ f) && decide (f < s))) = true
    rcases q with q | ⟨q1, q2⟩
    · rw [decide_eq_true q]; rfl
    · rw [decide_eq_true q1, decide_eq_true q2]; simp
  · obtain ⟨f, s, rfl, _⟩ := one x hx
    exact all_pl rfl
  · obtain ⟨f, s, rfl, _, q2, q3, q4⟩ := one x hx
    exact ⟨q4, q2, q3, hn⟩
  · have pt : ∀ x ∈ l, hasB x (.int n) = hasK x (.int n) := fun x hx => by
      obtain ⟨f, s, rfl, q, _, _, q4⟩ := one x hx
      show (if s = 0 then decide (n = f) else decide ((n - f).fdiv s * s = n - f)) = ((decide (s = 0) && decide (n = f)) || (decide (0 < s) && decide ((n - f).fmod s = 0)))
      by_cases hs : s = 0
      · subst hs; simp
      · have hp : 0 < s := by omega
        have e1 := Int.mul_fdiv_add_fmod (n - f) s
        rw [if_neg hs, decide_eq_false hs, decide_eq_true hp, Bool.false_and, Bool.false_or, Bool.true_and]
        refine decide_eq_decide.mpr ⟨fun q => ?_, fun q => ?_⟩
        · rw [Int.mul_comm] at q; omega
        · rw [Int.mul_comm]; omega
    rw [Bool.eq_iff_iff, List.any_eq_true, List.any_eq_true]
    exact ⟨fun ⟨x, hx, q⟩ => ⟨x, hx, by rw [← pt x hx]; exact q⟩, fun ⟨x, hx, q⟩ => ⟨x, hx, by rw [pt x hx]; exact q⟩⟩
theorem ok_law (T : Txt K mg BadNumber BadRows PullError) (TX : Txx K BadNumber BadRows PullError) (Dd : DefC K mg "law" s_law ["_law_script"] c) (Dc : Def K mg "_law_caught" s__law_caught ["_law_work"]) (TB : LamX.TabB base mg c Pt)
    (C__law_begun : Cal P w K mg base 1 "_law_begun" s__law_begun ["_law_script"] (spBegun K)) (C__law_near_row : Cal P w K mg base 4 "_law_near_row" s__law_near_row ["_law_state"] (spNear K (lawTt Pt)))
    (C__law_is_truth : Cal P w K mg base 1 "_law_is_truth" s__law_is_truth ["_law_found", "_law_due"] spTr) (C__law_k_is_row : Cal P w K mg base 2 "_law_k_is_row" s__law_k_is_row ["_law_item_here"] spRow)
    (C_is_row : Cal P w K mg base 2 "is_row" s_is_row ["thing"] spRow) (C__law_lists_right : Cal P w K mg base 5 "_law_lists_right" s__law_lists_right ["_law_state"] (spTrue K (lawTt Pt)))
    (C__law_k_rows : Cal P w K mg base 4 "_law_k_rows" s__law_k_rows ["_law_state", "_law_many", "_law_sizes"] (spRowsR K (lawTt Pt))) (C__law_pick : Cal P w K mg base 3 "_law_pick" s__law_pick ["_law_state", "_law_several"] (spPick K (lawTt Pt)))
    (C_in_rows : Cal P w K mg base 5 "in_rows" s_in_rows ["rows", "number"] (spInRows BadRows BadNumber)) (C__law_k_has : Cal P w K mg base 1 "_law_k_has" s__law_k_has ["_law_rows_here", "_law_number_here"] spHasK)
    (C__law_k_bad_rows : Cal P w K mg base 4 "_law_k_bad_rows" s__law_k_bad_rows ["_law_state"] (spBad K (lawTt Pt))) : Cal P w K mg base 13 "law" s_law ["_law_script"] (spLaw K (lawTt Pt)) := by
  have CK_in_rows_0_number_rows := C_in_rows.kw 0 ["number", "rows"] [1, 0] (fun _ _ _ _ _ _ us ws h1 h2 => match us, ws, h1, h2 with | [], [_, _], _, _ => rfl)
  have CK_is_row_0_thing := C_is_row.kw 0 ["thing"] [0] (fun _ _ _ _ _ _ us ws h1 h2 => match us, ws, h1, h2 with | [], [_], _, _ => rfl)
  refine Dd.raw sc_law (fun vs H Q E ⟨a, ns, h, _⟩ => by rw [h]; rfl) fun f A outer s H vs Q E hr hq => ?_
  have M_caught : LamD (cxD P w K mg base ["_law_script", "_law_state", "_law_turn", "_law_item", "_law_rows_here", "_law_kept", "_law_spot", "_law_asked", "_law_bad", "_law_odd"] "law" s_law f (.ref c) A outer s H E) (lawTt Pt) "_law_caught" "_law_work" c Pt (TCaught K PullError) :=
    LamD.of Dc sc__law_caught rfl (Or.inl rfl) (fun g cdv => caught_gives T.c_PullError) TB rfl List.mem_cons_self (fun p hp _ => by
      have := List.mem_singleton.mp hp
      rw [this]; rfl)
  refine ⟨_, (pss_cons (ps_set (i := 1) sc_law.nd rfl (by first | exact Or.inl rfl | exact Or.inr rfl) (pe_cal C__law_begun (hr.mono (by decide)) passD (by rfl) (pa_cons (pv 0) pa_nil)))
    (pss_cons (ps_for passOwnU rfl (pi_range1 (by rfl) T.b_range (pa_cons (pe_op op_addU (pe_int) (pe_callB (call_min2U rfl) (by rfl) T.b_min bb_min (pa_cons (pe_callB call_lenU (by rfl) T.b_len bb_len (pa_cons (pv 0) pa_nil)) (pa_cons (pe_int) pa_nil)))) pa_nil)) (pg_name (i := 2) sc_law.nd rfl (by first | exact Or.inl rfl | exact Or.inr rfl)) (pss_cons (ps_set (i := 3) sc_law.nd rfl (by first | exact Or.inl rfl | exact Or.inr rfl) (pe_cal C__law_near_row (hr.mono (by decide)) passD (by rfl) (pa_cons (pv 1) pa_nil)))
    (pss_cons (ps_if (PW.pt (pw_or (pt_not (pt_val (pe_cal C__law_is_truth (hr.mono (by decide)) passD (by rfl) (pa_cons (pe_calK0 CK_is_row_0_thing (hr.mono (by decide)) passD (by rfl) (pk_cons (pv 3) pk_nil)) (pa_cons (pe_cal C__law_k_is_row (hr.mono (by decide)) passD (by rfl) (pa_cons (pv 3) pa_nil)) pa_nil))))) (pw_or1 (pt_not (pt_val (pe_cal C__law_lists_right (hr.mono (by decide)) passD (by rfl) (pa_cons (pv 1) pa_nil))))))) (pss_one (ps_ret (pe_bl))) pss_nil)
    (pss_cons (ps_set (i := 4) sc_law.nd rfl (by first | exact Or.inl rfl | exact Or.inr rfl) (pe_cal C__law_k_rows (hr.mono (by decide)) passD (by rfl) (pa_cons (pv 1) (pa_cons (pe_int) (pa_cons (pe_lst (pa_cons (pe_int) (pa_cons (pe_int) (pa_cons (pe_int) (pa_cons (pe_int) (pa_cons (pe_int) (pa_cons (pe_int) (pa_cons (pe_op op_powU (pe_int) (pe_int)) pa_nil)))))))) pa_nil)))))
    (pss_cons (ps_set (i := 5) sc_law.nd rfl (by first | exact Or.inl rfl | exact Or.inr rfl) (pe_callTy call_listU (by rfl) T.b_list bb_list (pa_cons (pv 4) pa_nil)))
    (pss_cons (ps_for passOwnU rfl (pi_range2 (by rfl) T.b_range (pa_cons (pe_un un_neg (pe_int)) (pa_cons (pe_int) pa_nil))) (pg_name (i := 6) sc_law.nd rfl (by first | exact Or.inl rfl | exact Or.inr rfl)) (pss_cons (ps_set (i := 7) sc_law.nd rfl (by first | exact Or.inl rfl | exact Or.inr rfl) (pe_op op_mulU (pv 6) (pe_cal C__law_pick (hr.mono (by decide)) passD (by rfl) (pa_cons (pv 1) (pa_cons (pe_lst (pa_cons (pe_int) (pa_cons (pe_int) (pa_cons (pe_int) (pa_cons (pe_op op_powU (pe_int) (pe_int)) pa_nil))))) pa_nil)))))
    (pss_one (ps_if (pt_not (pt_val (pe_cal C__law_is_truth (hr.mono (by decide)) passD (by rfl) (pa_cons (pe_cal C_in_rows (hr.mono (by decide)) passD (by rfl) (pa_cons (pv 4) (pa_cons (pv 7) pa_nil))) (pa_cons (pe_cal C__law_k_has (hr.mono (by decide)) passD (by rfl) (pa_cons (pv 4) (pa_cons (pv 7) pa_nil))) pa_nil))))) (pss_one (ps_ret (pe_bl))) pss_nil))))
    (pss_cons (ps_if (pt_not (pt_val (pe_cal C__law_is_truth (hr.mono (by decide)) passD (by rfl) (pa_cons (pe_calK0 CK_in_rows_0_number_rows (hr.mono (by decide)) passD (by rfl) (pk_cons (pv 7) (pk_cons (pe_callTy call_tupleU (by rfl) T.b_tuple bb_tuple (pa_cons (pv 4) pa_nil)) pk_nil))) (pa_cons (pe_cal C__law_k_has (hr.mono (by decide)) passD (by rfl) (pa_cons (pv 4) (pa_cons (pv 7) pa_nil))) pa_nil))))) (pss_one (ps_ret (pe_bl))) pss_nil)
    (pss_cons (ps_if (pt_cmpR (op_neU hr) (pv 4) (pv 5) (nomark _)) (pss_one (ps_ret (pe_bl))) pss_nil)
    (pss_cons (ps_asg (pe_tup (pa_cons (pe_cal C__law_k_bad_rows (hr.mono (by decide)) passD (by rfl) (pa_cons (pv 1) pa_nil)) (pa_cons (pe_cal C__law_pick (hr.mono (by decide)) passD (by rfl) (pa_cons (pv 1) (pa_cons (pe_lst (pa_cons (pe_non) (pa_cons (pe_bl) (pa_cons (pe_str) (pa_cons (pe_tup (pa_cons (pe_int) pa_nil)) (pa_cons (pe_lst (pa_cons (pe_int) pa_nil)) pa_nil)))))) pa_nil))) pa_nil))) (pg_tup (n := 2) rfl (pgs_cons (pg_name (i := 8) sc_law.nd rfl (by first | exact Or.inl rfl | exact Or.inr rfl)) (pgs_cons (pg_name (i := 9) sc_law.nd rfl (by first | exact Or.inl rfl | exact Or.inr rfl)) pgs_nil))))
    (pss_cons (ps_if (pt_not (pt_val (pe_callB call_isiU (by rfl) T.b_isinstance bb_isinstance (pa_cons (pe_lam1 (k := 9) (t := fun E => (tCall _ [] E (tCons (tVar 8) (tCons (tVar 9) tNil)))) M_caught (by rfl) (hr.mono (by decide)) (LamX.lamS_by (sc := defScope s_law) (by decide +kernel)) rfl (fun _ _ _ _ _ => rfl) (fun _ _ _ _ _ _ _ hr => (pe_cal C_in_rows (hr.mono (by decide)) passLam (by rfl) (pa_cons (pv 8) (pa_cons (pv 9) pa_nil))))) (pa_cons (pe_glob (v := .ref _) (by rfl) T.c_BadRows rfl) pa_nil))))) (pss_one (ps_ret (pe_bl))) pss_nil)
    (pss_one (ps_if (pt_not (pt_val (pe_callB call_isiU (by rfl) T.b_isinstance bb_isinstance (pa_cons (pe_lam1 (k := 9) (t := fun E => (tCall _ [] E (tCons (tVar 4) (tCons (tVar 9) tNil)))) M_caught (by rfl) (hr.mono (by decide)) (LamX.lamS_by (sc := defScope s_law) (by decide +kernel)) rfl (fun _ _ _ _ _ => rfl) (fun _ _ _ _ _ _ _ hr => (pe_cal C_in_rows (hr.mono (by decide)) passLam (by rfl) (pa_cons (pv 4) (pa_cons (pv 9) pa_nil))))) (pa_cons (pe_glob (v := .ref _) (by rfl) T.c_BadNumber rfl) pa_nil))))) (pss_one (ps_ret (pe_bl))) pss_nil))))))))))))
    (pss_one (ps_ret (pe_bl))))), ?_⟩
  refine law_run (n0 := "_law_script") (n1 := "_law_state") (N := ["_law_turn", "_law_item", "_law_rows_here", "_law_kept", "_law_spot", "_law_asked", "_law_bad", "_law_odd"]) hq fun L W ns hV hG hE hl hs => ?_
  refine ds_seq ?_
  refine ds_for (S := [2]) (di_range1 ?_)
  repeat' (walk_at "hd1")
  refine b_lenR hs ?_
  repeat' (walk_at "hd1")
  have hmx : (2 + if (6 : Int) < ((List.map L2.V.int ns).length : Int) then 6 else ((List.map L2.V.int ns).length : Int)) ≤ 8 ∧ 0 ≤ (2 + if (6 : Int) < ((List.map L2.V.int ns).length : Int) then 6 else ((List.map L2.V.int ns).length : Int)) := by
    split <;> omega
  refine ⟨by omega, by omega, fun i n ρ => 2 ^ 30 ≤ n + 5000 * i ∧ ∃ x2 x3 x4 x5 x6 x7 x8 x9, ρ = [some (false, .raw L.a), some (false, .raw L.s), x2, x3, x4, x5, x6, x7, x8, x9], ⟨by omega, _, _, _, _, _, _, _, _, rfl⟩, ?_, ?_⟩
  · rintro i n d ρ' hd ⟨hn, x2, x3, x4, x5, x6, x7, x8, x9, rfl⟩
    have hi : i < 8 := by
      have := (List.getElem?_eq_some_iff.mp hd).1
      rw [upTo_len] at this
      omega
    refine dg_name ?_
    refine ds_seq (ds_set (de_lawL L hV hG ?_))
    repeat' (walk_at "hd1")
    refine ⟨rfl, by omega, rfl, fun n1 b item h1 ⟨_, hitem⟩ => ?_⟩
    have q : preRow [item] := hitem
    have t1 : (if rowB item = true then rowB item else !rowB item) = true := by cases rowB item <;> rfl
    repeat' (walk_at "hd1")
    · rename_i hb
      have hb : (!if rowB item = true then rowB item else !rowB item) = true := hb
      rw [t1] at hb; cases hb
    refine de_lawL L hV hG ?_
    repeat' (walk_at "hd1")
    refine ⟨rfl, by omega, rfl, fun n2 b d2 h2 ⟨_, hd2⟩ => ?_⟩
    subst hd2
    repeat' (walk_at "hd1")
    refine de_lawL L hV hG ?_
    repeat' (walk_at "hd1")
    refine ⟨rfl, by omega, ⟨_, rfl, Nat.zero_lt_succ _, Nat.le_of_ble_eq_true rfl, fun x hx => ?_⟩, fun n3 b d3 h3 ⟨l, _, hd3, hl4, hrow⟩ => ?_⟩
    · simp only [List.mem_cons, List.not_mem_nil, or_false] at hx
      rcases hx with rfl | rfl | rfl | rfl | rfl | rfl | rfl
      all_goals exact ⟨_, rfl, by decide, by unfold big; decide⟩
    subst hd3
    obtain ⟨f1, f2, f3⟩ := row_facts hrow hl4
    have one : ∀ x ∈ l, ∃ f s, x = .tup [.int f, .int s] := fun x hx => by
      have := hrow x hx
      match x, this with
      | .tup [.int f, .int s], _ => exact ⟨f, s, rfl⟩
    have hin : ∀ k : Int, fInRows BadRows BadNumber [.lst l, .int k] = .ret false (.bl (l.any fun x => hasB x (.int k))) := fun k => by
      show (if rowsB (.lst l) = true then (if true = true then _ else _) else _) = _
      rw [if_pos f1, if_pos rfl]; rfl
    have hin2 : ∀ k : Int, fInRows BadRows BadNumber [.tup l, .int k] = .ret false (.bl (l.any fun x => hasB x (.int k))) := fun k => by
      show (if rowsB (.tup l) = true then (if true = true then _ else _) else _) = _
      rw [if_pos (show rowsB (.tup l) = true from f1), if_pos rfl]; rfl
    have tt : ∀ x : Bool, (!if x = true then x else !x) = false := fun x => by cases x <;> rfl
    repeat' (walk_at "hd1")
    refine ds_for (S := [6]) (di_range2 ?_)
    repeat' (walk_at "hd1")
    refine ⟨by decide, fun j n ρ => n3 ≤ n + 2 * j ∧ ∃ x6 x7 x8 x9, (0 < j → ∃ k, x7 = some (false, .int k) ∧ big k) ∧ ρ = [some (false, .raw L.a), some (false, .raw L.s), some (false, d), some (false, item), some (false, .lst l), some (false, .lst l), x6, x7, x8, x9], ⟨by omega, _, _, _, _, (fun h => absurd h (Nat.lt_irrefl _)), rfl⟩, ?_, ?_⟩
    · rintro j n4 d4 ρ' hd4 ⟨hn4, y6, y7, y8, y9, hy, rfl⟩
      have hj : j < 25 := by
        have := (List.getElem?_eq_some_iff.mp hd4).1
        rw [upTo_len] at this
        exact this
      have e4 := upTo_get (lo := -8) (n := 25) hj
      have hd4 : (HD.upTo (-8) 25)[j]? = some d4 := hd4
      rw [e4] at hd4
      cases hd4
      refine dg_name ?_
      repeat' (walk_at "hd1")
      rename_i n5 v h5 hm5
      have hv : ∃ z : Int, v = .int z ∧ z.natAbs ≤ 10 ^ 25 := by
        simp only [List.mem_cons, List.not_mem_nil, or_false] at hm5
        rcases hm5 with rfl | rfl | rfl | rfl
        all_goals exact ⟨_, rfl, by decide⟩
      obtain ⟨z, rfl, hz⟩ := hv
      refine r_mul (c_smallL (by omega)) ?_
      have hb : big ((-8 + (j : Int)) * z) := by
        unfold big
        rw [Int.natAbs_mul]
        exact Nat.lt_of_le_of_lt (Nat.mul_le_mul (show (-8 + (j : Int)).natAbs ≤ 16 by omega) hz) (by decide)
      obtain ⟨g1, g2⟩ := f3 _ hb
      have hpk : preHasK [.lst l, .int ((-8 + (j : Int)) * z)] := ⟨.inl rfl, one⟩
      repeat' (walk_at "hd1")
      refine ⟨rfl, ⟨f2, rfl, fun _ _ => g1⟩, _, _, hin _, ?_⟩
      repeat' (walk_at "hd1")
      · rename_i hb5
        have hb5 : (!if (l.any fun x => hasK x (.int ((-8 + (j : Int)) * z))) = true then (l.any fun x => hasB x (.int ((-8 + (j : Int)) * z))) else !(l.any fun x => hasB x (.int ((-8 + (j : Int)) * z)))) = true := hb5
        rw [g2, tt] at hb5; cases hb5
      · exact ⟨by omega, _, _, _, _, fun _ => ⟨_, rfl, hb⟩, rfl⟩
    · rintro n4 ρ' ⟨hn4, y6, y7, y8, y9, hy, rfl⟩
      have hn4 : n3 ≤ n4 + 2 * 25 := hn4
      obtain ⟨k, rfl, hb⟩ := hy (by decide)
      obtain ⟨g1, g2⟩ := f3 _ hb
      have hpk : preHasK [.lst l, .int k] := ⟨.inl rfl, one⟩
      repeat' (walk_at "hd1")
      refine ⟨rfl, rfl, ⟨f2, rfl, fun _ _ => g1⟩, _, _, hin2 k, ?_⟩
      repeat' (walk_at "hd1")
      · rename_i hb5
        have hb5 : (!if (l.any fun x => hasK x (.int k)) = true then (l.any fun x => hasB x (.int k)) else !(l.any fun x => hasB x (.int k))) = true := hb5
        rw [g2, tt] at hb5; cases hb5
      refine rows_ne hrow ?_
      repeat' (walk_at "hd1")
      rotate_left
      refine de_lawL L hV hG ?_
      repeat' (walk_at "hd1")
      refine ⟨rfl, by omega, rfl, fun n6 b bad h6 ⟨_, bp, bf⟩ => ?_⟩
      repeat' (walk_at "hd1")
      rename_i n7 odd h7 hm7
      have hodd : odd.tn.isSome = true ∧ isNum odd = false := by
        simp only [List.mem_cons, List.not_mem_nil, or_false] at hm7
        rcases hm7 with rfl | rfl | rfl | rfl | rfl
        all_goals exact ⟨rfl, rfl⟩
      have x1 : fInRows BadRows BadNumber [bad, odd] = .exc BadRows [] [] := by
        show (if rowsB bad = true then _ else _) = _
        rw [if_neg (by rw [bf]; decide)]
      have x2 : fInRows BadRows BadNumber [.lst l, odd] = .exc BadNumber [] [] := by
        show (if rowsB (.lst l) = true then (if isNum odd = true then _ else _) else _) = _
        rw [if_pos f1, if_neg (by rw [hodd.2]; decide)]
      refine de_caught L hV hG List.mem_cons_self fun W' E' wV wG wE wEP => ?_
      refine de_detE wE (da_cons (de_var rfl (da_cons (de_var rfl (da_nil ⟨rfl, ⟨bp, hodd.1, fun h => absurd h (by rw [bf]; decide)⟩, ?_⟩)))))
      rw [x1]
      show W'.EP n7 BadRows [] []
      rw [wEP]
      refine ⟨rfl, rfl, TX.mR, ?_⟩
      repeat' (walk_at "hd1")
      refine u_isiX TX.eR TX.kR ?_
      repeat' (walk_at "hd1")
      refine de_caught L hV hG List.mem_cons_self fun W' E' wV wG wE wEP => ?_
      refine de_detE wE (da_cons (de_var rfl (da_cons (de_var rfl (da_nil ⟨rfl, ⟨f2, hodd.1, fun _ h => absurd h (by rw [hodd.2]; decide)⟩, ?_⟩)))))
      rw [x2]
      show W'.EP n7 BadNumber [] []
      rw [wEP]
      refine ⟨rfl, rfl, TX.mN, ?_⟩
      repeat' (walk_at "hd1")
      refine u_isiX TX.eN TX.kN ?_
      repeat' (walk_at "hd1")
      exact ⟨by omega, _, _, _, _, _, _, _, _, rfl⟩
  · rintro n ρ' ⟨hn, x2, x3, x4, x5, x6, x7, x8, x9, rfl⟩
    exact ds_ret (de_bl rfl)
end

def hd_is_number : He.DefD := ⟨("is_number", none), "is_number", "is_number", defArgs s_is_number, defBody s_is_number, defScope s_is_number, [], []⟩
def hd_is_row : He.DefD := ⟨("is_row", none), "is_row", "is_row", defArgs s_is_row, defBody s_is_row, defScope s_is_row, [], []⟩
def hd_are_rows : He.DefD := ⟨("are_rows", none), "are_rows", "are_rows", defArgs s_are_rows, defBody s_are_rows, defScope s_are_rows, [], []⟩
def hd_need_row_list : He.DefD := ⟨("need_row_list", none), "need_row_list", "need_row_list", defArgs s_need_row_list, defBody s_need_row_list, defScope s_need_row_list, [], []⟩
def hd_row_has : He.DefD := ⟨("row_has", none), "row_has", "row_has", defArgs s_row_has, defBody s_row_has, defScope s_row_has, [], []⟩
def hd_in_rows : He.DefD := ⟨("in_rows", none), "in_rows", "in_rows", defArgs s_in_rows, defBody s_in_rows, defScope s_in_rows, [], []⟩
def hd__law_begun : He.DefD := ⟨("_law_begun", none), "_law_begun", "_law_begun", defArgs s__law_begun, defBody s__law_begun, defScope s__law_begun, [], []⟩
def hd__law_blended : He.DefD := ⟨("_law_blended", none), "_law_blended", "_law_blended", defArgs s__law_blended, defBody s__law_blended, defScope s__law_blended, [], []⟩
def hd__law_draw : He.DefD := ⟨("_law_draw", none), "_law_draw", "_law_draw", defArgs s__law_draw, defBody s__law_draw, defScope s__law_draw, [], []⟩
def hd__law_pick : He.DefD := ⟨("_law_pick", none), "_law_pick", "_law_pick", defArgs s__law_pick, defBody s__law_pick, defScope s__law_pick, [], []⟩
def hd__law_caught : He.DefD := ⟨("_law_caught", none), "_law_caught", "_law_caught", defArgs s__law_caught, defBody s__law_caught, defScope s__law_caught, [], []⟩
def hd__law_is_truth : He.DefD := ⟨("_law_is_truth", none), "_law_is_truth", "_law_is_truth", defArgs s__law_is_truth, defBody s__law_is_truth, defScope s__law_is_truth, [], []⟩
def hd__law_is_whole : He.DefD := ⟨("_law_is_whole", none), "_law_is_whole", "_law_is_whole", defArgs s__law_is_whole, defBody s__law_is_whole, defScope s__law_is_whole, [], []⟩
def hd__law_k_is_row : He.DefD := ⟨("_law_k_is_row", none), "_law_k_is_row", "_law_k_is_row", defArgs s__law_k_is_row, defBody s__law_k_is_row, defScope s__law_k_is_row, [], []⟩
def hd__law_k_has : He.DefD := ⟨("_law_k_has", none), "_law_k_has", "_law_k_has", defArgs s__law_k_has, defBody s__law_k_has, defScope s__law_k_has, [], []⟩
def hd__law_k_rows : He.DefD := ⟨("_law_k_rows", none), "_law_k_rows", "_law_k_rows", defArgs s__law_k_rows, defBody s__law_k_rows, defScope s__law_k_rows, [], []⟩
def hd__law_k_bad_rows : He.DefD := ⟨("_law_k_bad_rows", none), "_law_k_bad_rows", "_law_k_bad_rows", defArgs s__law_k_bad_rows, defBody s__law_k_bad_rows, defScope s__law_k_bad_rows, [], []⟩
def hd__law_near_row : He.DefD := ⟨("_law_near_row", none), "_law_near_row", "_law_near_row", defArgs s__law_near_row, defBody s__law_near_row, defScope s__law_near_row, [], []⟩
def hd__law_lists_right : He.DefD := ⟨("_law_lists_right", none), "_law_lists_right", "_law_lists_right", defArgs s__law_lists_right, defBody s__law_lists_right, defScope s__law_lists_right, [], []⟩
def hd_law : He.DefD := ⟨("law", none), "law", "law", defArgs s_law, defBody s_law, defScope s_law, [], []⟩
def hfn : List He.DefD := [hd_is_number, hd_is_row, hd_are_rows, hd_need_row_list, hd_row_has, hd_in_rows, hd__law_begun, hd__law_blended, hd__law_draw, hd__law_pick, hd__law_caught, hd__law_is_truth, hd__law_is_whole, hd__law_k_is_row, hd__law_k_has, hd__law_k_rows, hd__law_k_bad_rows, hd__law_near_row, hd__law_lists_right, hd_law]
def hfa : List He.Fa := [.glo "is_number", .glo "is_row", .glo "are_rows", .glo "need_row_list", .glo "row_has", .glo "in_rows", .glo "_law_begun", .glo "_law_blended", .glo "_law_draw", .glo "_law_pick", .glo "_law_caught", .glo "_law_is_truth", .glo "_law_is_whole", .glo "_law_k_is_row", .glo "_law_k_has", .glo "_law_k_rows", .glo "_law_k_bad_rows", .glo "_law_near_row", .glo "_law_lists_right", .glo "law", .free "ValueError", .free "abs", .free "all", .free "any", .free "bool", .free "int", .free "isinstance", .free "len", .free "list", .free "min", .free "range", .free "tuple", .glo "BadNumber", .glo "BadRows", .glo "PullError", .exc "BadNumber", .exc "BadRows", .exm "BadNumber" "PullError" true, .exm "BadRows" "PullError" true, .int "MOST_ROWS" 200]
def hloose : List Str := ["is_number", "PullError", "BadNumber", "BadRows", "MOST_ROWS", "is_row", "are_rows", "need_row_list", "row_has", "in_rows", "_law_begun", "_law_blended", "_law_draw", "_law_pick", "_law_caught", "_law_is_truth", "_law_is_whole", "_law_k_is_row", "_law_k_has", "_law_k_rows", "_law_k_bad_rows", "_law_near_row", "_law_lists_right"]
abbrev lawIx : Nat := 27
section
variable {K : PySem.W.Frag} {h : Heap} {mg : Str → Option Value} (X : K.In h) (G : h.Ns mainGlobals mg) (c : He.SaysD hfa hfn K)
include X G c
theorem hg_is_number : mg "is_number" = some (.ref (He.ga K "is_number")) := He.glo_ok X G (c.fact 0 (f := .glo "is_number") rfl)
theorem hdf_is_number : Def K mg "is_number" s_is_number ["value"] := (c.def_ 0 (d := hd_is_number) rfl).elim fun fd F => def_of F (hg_is_number X G c) fun _ _ _ _ _ _ us hl => match us, hl with | [_], _ => rfl
theorem hg_is_row : mg "is_row" = some (.ref (He.ga K "is_row")) := He.glo_ok X G (c.fact 1 (f := .glo "is_row") rfl)
theorem hdf_is_row : Def K mg "is_row" s_is_row ["thing"] := (c.def_ 1 (d := hd_is_row) rfl).elim fun fd F => def_of F (hg_is_row X G c) fun _ _ _ _ _ _ us hl => match us, hl with | [_], _ => rfl
theorem hg_are_rows : mg "are_rows" = some (.ref (He.ga K "are_rows")) := He.glo_ok X G (c.fact 2 (f := .glo "are_rows") rfl)
theorem hdf_are_rows : Def K mg "are_rows" s_are_rows ["thing"] := (c.def_ 2 (d := hd_are_rows) rfl).elim fun fd F => def_of F (hg_are_rows X G c) fun _ _ _ _ _ _ us hl => match us, hl with | [_], _ => rfl
theorem hg_need_row_list : mg "need_row_list" = some (.ref (He.ga K "need_row_list")) := He.glo_ok X G (c.fact 3 (f := .glo "need_row_list") rfl)
theorem hdf_need_row_list : Def K mg "need_row_list" s_need_row_list ["rows"] := (c.def_ 3 (d := hd_need_row_list) rfl).elim fun fd F => def_of F (hg_need_row_list X G c) fun _ _ _ _ _ _ us hl => match us, hl with | [_], _ => rfl
theorem hg_row_has : mg "row_has" = some (.ref (He.ga K "row_has")) := He.glo_ok X G (c.fact 4 (f := .glo "row_has") rfl)
theorem hdf_row_has : Def K mg "row_has" s_row_has ["row", "number"] := (c.def_ 4 (d := hd_row_has) rfl).elim fun fd F => def_of F (hg_row_has X G c) fun _ _ _ _ _ _ us hl => match us, hl with | [_, _], _ => rfl
theorem hg_in_rows : mg "in_rows" = some (.ref (He.ga K "in_rows")) := He.glo_ok X G (c.fact 5 (f := .glo "in_rows") rfl)
theorem hdf_in_rows : Def K mg "in_rows" s_in_rows ["rows", "number"] := (c.def_ 5 (d := hd_in_rows) rfl).elim fun fd F => def_of F (hg_in_rows X G c) fun _ _ _ _ _ _ us hl => match us, hl with | [_, _], _ => rfl
theorem hg__law_begun : mg "_law_begun" = some (.ref (He.ga K "_law_begun")) := He.glo_ok X G (c.fact 6 (f := .glo "_law_begun") rfl)
theorem hdf__law_begun : Def K mg "_law_begun" s__law_begun ["_law_script"] := (c.def_ 6 (d := hd__law_begun) rfl).elim fun fd F => def_of F (hg__law_begun X G c) fun _ _ _ _ _ _ us hl => match us, hl with | [_], _ => rfl
theorem hg__law_blended : mg "_law_blended" = some (.ref (He.ga K "_law_blended")) := He.glo_ok X G (c.fact 7 (f := .glo "_law_blended") rfl)
theorem hdf__law_blended : Def K mg "_law_blended" s__law_blended ["_law_state"] := (c.def_ 7 (d := hd__law_blended) rfl).elim fun fd F => def_of F (hg__law_blended X G c) fun _ _ _ _ _ _ us hl => match us, hl with | [_], _ => rfl
theorem hg__law_draw : mg "_law_draw" = some (.ref (He.ga K "_law_draw")) := He.glo_ok X G (c.fact 8 (f := .glo "_law_draw") rfl)
theorem hdf__law_draw : Def K mg "_law_draw" s__law_draw ["_law_state", "_law_size_here"] := (c.def_ 8 (d := hd__law_draw) rfl).elim fun fd F => def_of F (hg__law_draw X G c) fun _ _ _ _ _ _ us hl => match us, hl with | [_, _], _ => rfl
theorem hg__law_pick : mg "_law_pick" = some (.ref (He.ga K "_law_pick")) := He.glo_ok X G (c.fact 9 (f := .glo "_law_pick") rfl)
theorem hdf__law_pick : Def K mg "_law_pick" s__law_pick ["_law_state", "_law_several"] := (c.def_ 9 (d := hd__law_pick) rfl).elim fun fd F => def_of F (hg__law_pick X G c) fun _ _ _ _ _ _ us hl => match us, hl with | [_, _], _ => rfl
theorem hg__law_caught : mg "_law_caught" = some (.ref (He.ga K "_law_caught")) := He.glo_ok X G (c.fact 10 (f := .glo "_law_caught") rfl)
theorem hdf__law_caught : Def K mg "_law_caught" s__law_caught ["_law_work"] := (c.def_ 10 (d := hd__law_caught) rfl).elim fun fd F => def_of F (hg__law_caught X G c) fun _ _ _ _ _ _ us hl => match us, hl with | [_], _ => rfl
theorem hg__law_is_truth : mg "_law_is_truth" = some (.ref (He.ga K "_law_is_truth")) := He.glo_ok X G (c.fact 11 (f := .glo "_law_is_truth") rfl)
theorem hdf__law_is_truth : Def K mg "_law_is_truth" s__law_is_truth ["_law_found", "_law_due"] := (c.def_ 11 (d := hd__law_is_truth) rfl).elim fun fd F => def_of F (hg__law_is_truth X G c) fun _ _ _ _ _ _ us hl => match us, hl with | [_, _], _ => rfl
theorem hg__law_is_whole : mg "_law_is_whole" = some (.ref (He.ga K "_law_is_whole")) := He.glo_ok X G (c.fact 12 (f := .glo "_law_is_whole") rfl)
theorem hdf__law_is_whole : Def K mg "_law_is_whole" s__law_is_whole ["_law_item"] := (c.def_ 12 (d := hd__law_is_whole) rfl).elim fun fd F => def_of F (hg__law_is_whole X G c) fun _ _ _ _ _ _ us hl => match us, hl with | [_], _ => rfl
theorem hg__law_k_is_row : mg "_law_k_is_row" = some (.ref (He.ga K "_law_k_is_row")) := He.glo_ok X G (c.fact 13 (f := .glo "_law_k_is_row") rfl)
theorem hdf__law_k_is_row : Def K mg "_law_k_is_row" s__law_k_is_row ["_law_item_here"] := (c.def_ 13 (d := hd__law_k_is_row) rfl).elim fun fd F => def_of F (hg__law_k_is_row X G c) fun _ _ _ _ _ _ us hl => match us, hl with | [_], _ => rfl
theorem hg__law_k_has : mg "_law_k_has" = some (.ref (He.ga K "_law_k_has")) := He.glo_ok X G (c.fact 14 (f := .glo "_law_k_has") rfl)
theorem hdf__law_k_has : Def K mg "_law_k_has" s__law_k_has ["_law_rows_here", "_law_number_here"] := (c.def_ 14 (d := hd__law_k_has) rfl).elim fun fd F => def_of F (hg__law_k_has X G c) fun _ _ _ _ _ _ us hl => match us, hl with | [_, _], _ => rfl
theorem hg__law_k_rows : mg "_law_k_rows" = some (.ref (He.ga K "_law_k_rows")) := He.glo_ok X G (c.fact 15 (f := .glo "_law_k_rows") rfl)
theorem hdf__law_k_rows : Def K mg "_law_k_rows" s__law_k_rows ["_law_state", "_law_many", "_law_sizes"] := (c.def_ 15 (d := hd__law_k_rows) rfl).elim fun fd F => def_of F (hg__law_k_rows X G c) fun _ _ _ _ _ _ us hl => match us, hl with | [_, _, _], _ => rfl
theorem hg__law_k_bad_rows : mg "_law_k_bad_rows" = some (.ref (He.ga K "_law_k_bad_rows")) := He.glo_ok X G (c.fact 16 (f := .glo "_law_k_bad_rows") rfl)
theorem hdf__law_k_bad_rows : Def K mg "_law_k_bad_rows" s__law_k_bad_rows ["_law_state"] := (c.def_ 16 (d := hd__law_k_bad_rows) rfl).elim fun fd F => def_of F (hg__law_k_bad_rows X G c) fun _ _ _ _ _ _ us hl => match us, hl with | [_], _ => rfl
theorem hg__law_near_row : mg "_law_near_row" = some (.ref (He.ga K "_law_near_row")) := He.glo_ok X G (c.fact 17 (f := .glo "_law_near_row") rfl)
theorem hdf__law_near_row : Def K mg "_law_near_row" s__law_near_row ["_law_state"] := (c.def_ 17 (d := hd__law_near_row) rfl).elim fun fd F => def_of F (hg__law_near_row X G c) fun _ _ _ _ _ _ us hl => match us, hl with | [_], _ => rfl
theorem hg__law_lists_right : mg "_law_lists_right" = some (.ref (He.ga K "_law_lists_right")) := He.glo_ok X G (c.fact 18 (f := .glo "_law_lists_right") rfl)
theorem hdf__law_lists_right : Def K mg "_law_lists_right" s__law_lists_right ["_law_state"] := (c.def_ 18 (d := hd__law_lists_right) rfl).elim fun fd F => def_of F (hg__law_lists_right X G c) fun _ _ _ _ _ _ us hl => match us, hl with | [_], _ => rfl
theorem hg_law : mg "law" = some (.ref (He.ga K "law")) := He.glo_ok X G (c.fact 19 (f := .glo "law") rfl)
theorem hfree_ValueError : mg "ValueError" = none := He.free_ok X G (c.fact 20 (f := .free "ValueError") rfl)
theorem hfree_abs : mg "abs" = none := He.free_ok X G (c.fact 21 (f := .free "abs") rfl)
theorem hfree_all : mg "all" = none := He.free_ok X G (c.fact 22 (f := .free "all") rfl)
theorem hfree_any : mg "any" = none := He.free_ok X G (c.fact 23 (f := .free "any") rfl)
theorem hfree_bool : mg "bool" = none := He.free_ok X G (c.fact 24 (f := .free "bool") rfl)
theorem hfree_int : mg "int" = none := He.free_ok X G (c.fact 25 (f := .free "int") rfl)
theorem hfree_isinstance : mg "isinstance" = none := He.free_ok X G (c.fact 26 (f := .free "isinstance") rfl)
theorem hfree_len : mg "len" = none := He.free_ok X G (c.fact 27 (f := .free "len") rfl)
theorem hfree_list : mg "list" = none := He.free_ok X G (c.fact 28 (f := .free "list") rfl)
theorem hfree_min : mg "min" = none := He.free_ok X G (c.fact 29 (f := .free "min") rfl)
theorem hfree_range : mg "range" = none := He.free_ok X G (c.fact 30 (f := .free "range") rfl)
theorem hfree_tuple : mg "tuple" = none := He.free_ok X G (c.fact 31 (f := .free "tuple") rfl)
theorem hx_0 : (He.Fa.ok K (.glo "BadNumber")) = true := c.fact 32 rfl
theorem hx_1 : (He.Fa.ok K (.glo "BadRows")) = true := c.fact 33 rfl
theorem hx_2 : (He.Fa.ok K (.glo "PullError")) = true := c.fact 34 rfl
theorem hx_3 : (He.Fa.ok K (.exc "BadNumber")) = true := c.fact 35 rfl
theorem hx_4 : (He.Fa.ok K (.exc "BadRows")) = true := c.fact 36 rfl
theorem hx_5 : (He.Fa.ok K (.exm "BadNumber" "PullError" true)) = true := c.fact 37 rfl
theorem hx_6 : (He.Fa.ok K (.exm "BadRows" "PullError" true)) = true := c.fact 38 rfl
theorem hx_7 : (He.Fa.ok K (.int "MOST_ROWS" 200)) = true := c.fact 39 rfl
end
/-! ### the head -/
def exB (K : PySem.W.Frag) : Bool := excCB K (He.ga K "BadNumber") && (excCB K (He.ga K "BadRows") && (decide (PySem.W.kitOne K (.ref (He.ga K "BadNumber")) (.ref (He.ga K "BadNumber")) = some true) && decide (PySem.W.kitOne K (.ref (He.ga K "BadRows")) (.ref (He.ga K "BadRows")) = some true)))
abbrev Rr : PySem.W.OpenRow := PySem.W.OpenLaw.row PySem.Challenge.rw_pulledrooms_k41_rows_judged_and_their_nu
def lawP : List He.Defn := [("law", none)]
abbrev hkX : PySem.W.Hook := He.hookX 4 hfa hfn [] lawP exB
def obK (s : PySem.W.SharedT) : He.AlX := He.obsX 4 hfa hfn [] lawP exB (HandSHeadRun.getT s)
theorem obK_eq (s : PySem.W.SharedT) : obK s = hkX.obs s.abs := He.obsX_eq (HandSHeadRun.getT_eq s)
theorem runK (w : World) : HandSHeadRun.RunEq Rr (PySem.W.view Rr.prog [lawIx]) hkX obK 4000 hloose w := by
  intro os
  kernel_rfl
theorem lawAt {w : World} {K : PySem.W.Frag} {h : Heap} {mg : Str → Option Value} {fa : Addr} (KX : K.In h) (G : h.Ns mainGlobals mg) (hmg : mg "law" = some (.ref fa)) (c : He.SaysX hfa hfn [] lawP exB w h K) :
    LamX.LawAtS PySem.Challenge.rw_pulledrooms_k41_rows_judged_and_their_nu w K (L2.CX (PySem.Challenge.rw_pulledrooms_k41_rows_judged_and_their_nu).prog w) 13 63 "_law_script" mg fa h := by
  have d := c.t.d
  have e := hmg.symm.trans (hg_law KX G d)
  cases e
  have T : Txt K mg (He.ga K "BadNumber") (He.ga K "BadRows") (He.ga K "PullError") := {
    b_isinstance := hfree_isinstance KX G d, b_abs := hfree_abs KX G d, b_min := hfree_min KX G d, b_range := hfree_range KX G d, b_len := hfree_len KX G d, b_int := hfree_int KX G d, b_bool := hfree_bool KX G d,
    b_tuple := hfree_tuple KX G d, b_list := hfree_list KX G d, b_all := hfree_all KX G d, b_any := hfree_any KX G d, g_MOST_ROWS := He.int_ok KX G (hx_7 KX G d),
    c_PullError := He.glo_ok KX G (hx_2 KX G d), c_BadNumber := He.glo_ok KX G (hx_0 KX G d), c_BadRows := He.glo_ok KX G (hx_1 KX G d),
    x_BadNumber := excT_of KX G (hx_0 KX G d) (hx_3 KX G d), x_BadRows := excT_of KX G (hx_1 KX G d) (hx_4 KX G d) }
  have TD : Txd mg := ⟨T.b_len, T.b_int, T.b_abs⟩
  have m := c.more
  unfold exB at m
  simp only [Bool.and_eq_true] at m
  obtain ⟨m1, m2, m3, m4⟩ := m
  have TX : Txx K (He.ga K "BadNumber") (He.ga K "BadRows") (He.ga K "PullError") := ⟨excC_of m1, excC_of m2, of_decide_eq_true m3, of_decide_eq_true m4, He.exm_ok (hx_5 KX G d), He.exm_ok (hx_6 KX G d)⟩
  obtain ⟨fd, F⟩ := d.def_ 19 (d := hd_law) rfl
  have bnd : ∀ (kV doc pm : Value) (an : Option Addr) (cdv ct : Value) (us : List Value), us.length = (["_law_script"] : List Str).length → bindArgs (PySem.W.fnOf "law" "law" (defArgs s_law) (defBody s_law) (defScope s_law) .none kV doc pm an cdv ct) ⟨us, []⟩ = pure ((["_law_script"] : List Str).zip us) := fun _ _ _ _ _ _ us hl => match us, hl with | [_], _ => rfl
  have Dl := defC_of (p := ("law", none)) F (hg_law KX G d) bnd
  refine ⟨fd, [He.cT K ("law", none)], spLaw K (lawTt (He.cT K ("law", none)).2), fun p hp => ?_, fun p hp => ?_, fun p hp => ?_, fun s u => FunD.bindsA F bnd s [u] rfl, fun H a ns hl _ hT hS => ⟨a, ns, rfl, hS, hl, fun p hp => ?_, fun _ => rfl⟩, fun base KB GB TB => ?_⟩
  · rw [List.mem_singleton.mp hp]; exact c.empty _ List.mem_cons_self
  · rw [List.mem_singleton.mp hp]; exact c.out _ List.mem_cons_self
  · rw [List.mem_singleton.mp hp]; exact PySem.W.codeHd_of_K KX (c.hd _ List.mem_cons_self)
  · rw [List.mem_singleton.mp hp]; exact LamX.TabS.nil (hT _ List.mem_cons_self)
  · have k1 := ok_is_number (P := (PySem.Challenge.rw_pulledrooms_k41_rows_judged_and_their_nu).prog) (w := w) (base := base) T (hdf_is_number KX G d)
    have k2 := ok_is_row T (hdf_is_row KX G d) k1
    have k3 := ok_are_rows T (hdf_are_rows KX G d) k2
    have k4 := ok_need_row_list T (hdf_need_row_list KX G d) k3
    have k5 := ok_row_has (P := (PySem.Challenge.rw_pulledrooms_k41_rows_judged_and_their_nu).prog) (w := w) (base := base) T (hdf_row_has KX G d)
    have k6 := ok_in_rows T (hdf_in_rows KX G d) k1 k5 k4
    have l1 := ok__law_begun (P := (PySem.Challenge.rw_pulledrooms_k41_rows_judged_and_their_nu).prog) (w := w) (base := base) TD (hdf__law_begun KX G d)
    have l2 := ok__law_blended (P := (PySem.Challenge.rw_pulledrooms_k41_rows_judged_and_their_nu).prog) (w := w) (base := base) TD (hdf__law_blended KX G d)
    have l3 := ok__law_draw (Tt := lawTt (He.cT K ("law", none)).2) TD (hdf__law_draw KX G d) l2
    have l4 := ok__law_pick TD (hdf__law_pick KX G d) l3
    have l5 := ok__law_is_truth (P := (PySem.Challenge.rw_pulledrooms_k41_rows_judged_and_their_nu).prog) (w := w) (base := base) (hdf__law_is_truth KX G d)
    have l6 := ok__law_is_whole (P := (PySem.Challenge.rw_pulledrooms_k41_rows_judged_and_their_nu).prog) (w := w) (base := base) T (hdf__law_is_whole KX G d)
    have l7 := ok__law_k_is_row T (hdf__law_k_is_row KX G d) l6
    have l8 := ok__law_k_has (P := (PySem.Challenge.rw_pulledrooms_k41_rows_judged_and_their_nu).prog) (w := w) (base := base) T (hdf__law_k_has KX G d)
    have l9 := ok__law_k_rows T (hdf__law_k_rows KX G d) l3 l4
    have l10 := ok__law_k_bad_rows T (hdf__law_k_bad_rows KX G d) l4
    have l11 := ok__law_near_row T (hdf__law_near_row KX G d) l3 l4
    have l12 := ok__law_lists_right T (hdf__law_lists_right KX G d) l3 l11 l5 l7 k3
    exact Cal.fnok (ok_law T TX Dl (hdf__law_caught KX G d) (TB _ List.mem_cons_self) l1 l11 l5 l7 k2 l12 l9 l4 k6 l8 l10) F (hg_law KX G d)
end Kx
open PySem PySem.W PySem.Calls PyProof.Rows
theorem PySem.Challenge.cw_pulledrooms_k41_rows_judged_and_their_nu_holds : PySem.Challenge.rw_pulledrooms_k41_rows_judged_and_their_nu.Holds := by
  w_on; o_law
  refine HandSHeadRun.head_any (r := OpenLaw.row PySem.Challenge.rw_pulledrooms_k41_rows_judged_and_their_nu) (q := view (OpenLaw.row PySem.Challenge.rw_pulledrooms_k41_rows_judged_and_their_nu).prog [Kx.lawIx]) (H := Kx.hkX) (ob := Kx.obK) (M := 4000) (loose := Kx.hloose) (d := HandSHeadRun.topDef (OpenLaw.row PySem.Challenge.rw_pulledrooms_k41_rows_judged_and_their_nu).prog Kx.lawIx) (kwd := []) Kx.obK_eq
    (by kernel_rfl) (fun s => by kernel_rfl) Kx.runK (by kernel_rfl) (by kernel_rfl) (by kernel_rfl) (by rfl) (by first | assumption | decide +kernel) (by decide +kernel) ⟨rfl, rfl, rfl, rfl, rfl, by decide +kernel⟩ ?hw ?hc
  case hw => w_witness2
  case hc =>
    refine LamX.walk_ofTsE (l := PySem.Challenge.rw_pulledrooms_k41_rows_judged_and_their_nu) (n := 63) (k := 13) (x := "_law_script") (CX := fun w => L2.CX (PySem.Challenge.rw_pulledrooms_k41_rows_judged_and_their_nu).prog w) rfl (by decide) (by kernel_rfl) ⟨rfl, by decide, by decide⟩ ?F fun w H s e s' h => ?N
    case N =>
      obtain ⟨_, _, _, _, _, _, _, _, _, _, _, _, z⟩ := h
      exact z.elim
    case F =>
      intro w mg fa h Y G hmg0
      obtain ⟨K, KX, c⟩ := Y
      have hmg : mg ("law" : PySem.Str) = some (.ref fa) := by
        have e : (HandSHeadRun.topDef (OpenLaw.row PySem.Challenge.rw_pulledrooms_k41_rows_judged_and_their_nu).prog Kx.lawIx).name = ("law" : PySem.Str) := by kernel_rfl
        rw [← e]
        exact hmg0
      exact ⟨K, KX, Kx.lawAt KX G hmg c⟩
#print axioms PySem.Challenge.cw_pulledrooms_k41_rows_judged_and_their_nu_holds

