import PyProof.Rows.All
import Wide.All
import OpenK.AllK
import Wide.FinOn
import HandS.ForMost
import HandS.ForExc
import HandS.Lambda
import HandS.EndTab
import HandS.IsInst
import HandS.Wide
import HandS.TupAny
import HandS.TupMul
import HandS.TupLe
import HandS.Deep
import HandS.Gcd
import HandS.Flow
import HandS.SortInts
import HandS.Defaults
import HandS.MakeKwOnly
import HandS.Style
import HandS.ExcIs
import KE.KStateDown
import HandS.Head0
import HandS.Head1
import HandS.Head2
import HandS.HeadEnd
import HandS.HeadHook4
import HandS.HeadWalk
import HandS.MakeKw
import PySem.Challenge.RW_pulledrooms_k93_houses_of_one_door
set_option Elab.async false
set_option linter.all false
set_option maxRecDepth 100000
set_option maxHeartbeats 4000000
/-! The data layer: values as trees of data, environments, the rules of the hand layer told without heaps. -/
namespace HD
open PySem PySem.Spec PyProof.Rows L2

/-- data -/
inductive D where
  | non | bl (b : Bool) | int (i : Int) | str (x : Str) | ty (n : String) | raw (a : Addr)
  | lst (l : List D) | tup (l : List D)
  | dic (ks : List Key) (l : List D)
  | ins (C : Addr) (ns : List Str) (l : List D)
  | exc (C : Addr) (ns : List Str) (l : List D)
  | dct

abbrev AP := Addr → Prop
/-- an exception object that was caught -/
def excH (a C : Addr) (od : Option Addr) : HO := .ext fun h => ∃ (oe : Obj) (vs : Array Value), h.get? a = some oe ∧ Zc (.ref C) od oe ∧ oe.data = .fields vs

mutual
inductive Is (X : AP) (H : Hp) : V → D → Prop
  | non : Is X H .non .non
  | bl (b : Bool) : Is X H (.bl b) (.bl b)
  | int (i : Int) : Is X H (.int i) (.int i)
  | str (x : Str) : Is X H (.str x) (.str x)
  | ty (n : String) : Is X H (.ty n) (.ty n)
  | raw (a : Addr) : Is X H (.ref a) (.raw a)
  | lst {a : Addr} {xs : List V} {ds : List D} : ¬ X a → H a = some (.lst xs) → IsAll X H xs ds → Is X H (.ref a) (.lst ds)
  | tup {a : Addr} {xs : List V} {ds : List D} : ¬ X a → H a = some (.tup xs) → IsAll X H xs ds → Is X H (.ref a) (.tup ds)
  | dic {a : Addr} {kvs : List (Key × V)} {ks : List Key} {ds : List D} : ¬ X a → H a = some (.dK kvs) → kvs.map (·.1) = ks → IsAll X H (kvs.map (·.2)) ds → Is X H (.ref a) (.dic ks ds)
  | ins {a C dx : Addr} {fs : List (Str × V)} {ns : List Str} {ds : List D} : ¬ X a → H a = some (.ins C dx fs) → fs.map (·.1) = ns → IsAll X H (fs.map (·.2)) ds → Is X H (.ref a) (.ins C ns ds)
  | dct {a : Addr} {kvs : List (List Key × V)} : ¬ X a → H a = some (.dT kvs) → Is X H (.ref a) .dct
  | exc0 {a C : Addr} : ¬ X a → H a = some (excH a C none) → Is X H (.ref a) (.exc C [] [])
  | exc {a C dd : Addr} {fs : List (Str × V)} {ns : List Str} {ds : List D} : ns ≠ [] → ¬ X a → H a = some (excH a C (some dd)) → ¬ X dd → H dd = some (.xd fs) → fs.map (·.1) = ns → IsAll X H (fs.map (·.2)) ds → Is X H (.ref a) (.exc C ns ds)
inductive IsAll (X : AP) (H : Hp) : List V → List D → Prop
  | nil : IsAll X H [] []
  | cons {v : V} {vs : List V} {d : D} {ds : List D} : Is X H v d → IsAll X H vs ds → IsAll X H (v :: vs) (d :: ds)
end

/-- what stands outside X is kept and stays outside -/
def Mv (X : AP) (H : Hp) (X' : AP) (H' : Hp) : Prop := ∀ a o, H a = some o → ¬ X a → H' a = some o ∧ ¬ X' a
theorem Mv.rd {X X' : AP} {H H' : Hp} (k : Mv X H X' H') {a : Addr} {u : HO} (hx : ¬ X a) (r : Rd H a u) : Rd H' a u ∧ ¬ X' a := by
  rcases r with r | ⟨o, r⟩
  · exact ⟨.inl (k _ _ r hx).1, (k _ _ r hx).2⟩
  · exact ⟨.inr ⟨o, (k _ _ r hx).1⟩, (k _ _ r hx).2⟩
mutual
theorem Is.mv {X X' : AP} {H H' : Hp} (k : Mv X H X' H') : ∀ (d : D) {v : V}, Is X H v d → Is X' H' v d
  | .non, _, .non => .non
  | .bl b, _, .bl _ => .bl b
  | .int i, _, .int _ => .int i
  | .str x, _, .str _ => .str x
  | .ty n, _, .ty _ => .ty n
  | .raw a, _, .raw _ => .raw a
  | .lst ds, _, .lst hx hr ha => .lst (k _ _ hr hx).2 (k _ _ hr hx).1 (IsAll.mv k ds ha)
  | .tup ds, _, .tup hx hr ha => .tup (k _ _ hr hx).2 (k _ _ hr hx).1 (IsAll.mv k ds ha)
  | .dic ks ds, _, .dic hx hr hk ha => .dic (k _ _ hr hx).2 (k _ _ hr hx).1 hk (IsAll.mv k ds ha)
  | .ins C ns ds, _, .ins hx hr hk ha => .ins (k _ _ hr hx).2 (k _ _ hr hx).1 hk (IsAll.mv k ds ha)
  | .dct, _, .dct hx hr => .dct (k _ _ hr hx).2 (k _ _ hr hx).1
  | .exc C _ _, _, .exc0 hx hr => .exc0 (k _ _ hr hx).2 (k _ _ hr hx).1
  | .exc C ns ds, _, .exc hne hx hr hy hs hk ha => .exc hne (k _ _ hr hx).2 (k _ _ hr hx).1 (k _ _ hs hy).2 (k _ _ hs hy).1 hk (IsAll.mv k ds ha)
theorem IsAll.mv {X X' : AP} {H H' : Hp} (k : Mv X H X' H') : ∀ (ds : List D) {vs : List V}, IsAll X H vs ds → IsAll X' H' vs ds
  | [], _, .nil => .nil
  | d :: ds, _, .cons h t => .cons (Is.mv k d h) (IsAll.mv k ds t)
end
theorem IsAll.len {X : AP} {H : Hp} : ∀ {vs : List V} {ds : List D}, IsAll X H vs ds → vs.length = ds.length
  | _, _, .nil => rfl
  | _, _, .cons _ t => by rw [List.length_cons, List.length_cons, t.len]
theorem IsAll.get {X : AP} {H : Hp} : ∀ {vs : List V} {ds : List D} {i : Nat} {v : V}, IsAll X H vs ds → vs[i]? = some v → ∃ d, ds[i]? = some d ∧ Is X H v d
  | _, _, _, _, .nil, e => by simp at e
  | _, _, 0, _, .cons h _, e => by simp at e; subst e; exact ⟨_, rfl, h⟩
  | _, _, i + 1, v, .cons _ t, e => by
    obtain ⟨d, h1, h2⟩ := t.get (i := i) (v := v) (by simpa using e)
    exact ⟨d, by simpa using h1, h2⟩
theorem IsAll.got {X : AP} {H : Hp} : ∀ {vs : List V} {ds : List D} {i : Nat} {d : D}, IsAll X H vs ds → ds[i]? = some d → ∃ v, vs[i]? = some v ∧ Is X H v d
  | _, _, _, _, .nil, e => by simp at e
  | _, _, 0, _, .cons h _, e => by simp at e; subst e; exact ⟨_, rfl, h⟩
  | _, _, i + 1, v, .cons _ t, e => by
    obtain ⟨d, h1, h2⟩ := t.got (i := i) (by simpa using e)
    exact ⟨d, by simpa using h1, h2⟩
theorem IsAll.append {X : AP} {H : Hp} : ∀ {vs ws : List V} {ds es : List D}, IsAll X H vs ds → IsAll X H ws es → IsAll X H (vs ++ ws) (ds ++ es)
  | _, _, _, _, .nil, s => s
  | _, _, _, _, .cons h t, s => .cons h (t.append s)
theorem IsAll.take {X : AP} {H : Hp} : ∀ (n : Nat) {vs : List V} {ds : List D}, IsAll X H vs ds → IsAll X H (vs.take n) (ds.take n)
  | 0, _, _, _ => .nil
  | _ + 1, _, _, .nil => .nil
  | n + 1, _, _, .cons h t => .cons h (IsAll.take n t)
theorem IsAll.drop {X : AP} {H : Hp} : ∀ (n : Nat) {vs : List V} {ds : List D}, IsAll X H vs ds → IsAll X H (vs.drop n) (ds.drop n)
  | 0, _, _, h => h
  | _ + 1, _, _, .nil => .nil
  | n + 1, _, _, .cons _ t => IsAll.drop n t
theorem IsAll.set {X : AP} {H : Hp} {v : V} {d : D} (h : Is X H v d) : ∀ (n : Nat) {vs : List V} {ds : List D}, IsAll X H vs ds → IsAll X H (vs.set n v) (ds.set n d)
  | _, _, _, .nil => .nil
  | 0, _, _, .cons _ t => .cons h t
  | n + 1, _, _, .cons q t => .cons q (IsAll.set h n t)
theorem IsAll.snoc {X : AP} {H : Hp} {v : V} {d : D} {vs : List V} {ds : List D} (h : IsAll X H vs ds) (q : Is X H v d) : IsAll X H (vs ++ [v]) (ds ++ [d]) := h.append (.cons q .nil)
theorem IsAll.eraseIdx {X : AP} {H : Hp} : ∀ (n : Nat) {vs : List V} {ds : List D}, IsAll X H vs ds → IsAll X H (vs.eraseIdx n) (ds.eraseIdx n)
  | _, _, _, .nil => .nil
  | 0, _, _, .cons _ t => t
  | n + 1, _, _, .cons q t => .cons q (IsAll.eraseIdx n t)
theorem IsAll.reverse {X : AP} {H : Hp} : ∀ {vs : List V} {ds : List D}, IsAll X H vs ds → IsAll X H vs.reverse ds.reverse
  | _, _, .nil => .nil
  | _, _, .cons h t => by rw [List.reverse_cons, List.reverse_cons]; exact t.reverse.snoc h
/-- the content of a mutable object -/
inductive Ob (X : AP) (H : Hp) : HO → D → Prop
  | lst {xs : List V} {ds : List D} : IsAll X H xs ds → Ob X H (.lst xs) (.lst ds)
  | dic {kvs : List (Key × V)} {ks : List Key} {ds : List D} : kvs.map (·.1) = ks → IsAll X H (kvs.map (·.2)) ds → Ob X H (.dK kvs) (.dic ks ds)
  | ins {C dx : Addr} {fs : List (Str × V)} {ns : List Str} {ds : List D} : fs.map (·.1) = ns → IsAll X H (fs.map (·.2)) ds → Ob X H (.ins C dx fs) (.ins C ns ds)
theorem Ob.mv {X X' : AP} {H H' : Hp} (k : Mv X H X' H') {o : HO} {d : D} : Ob X H o d → Ob X' H' o d
  | .lst h => .lst (h.mv k _)
  | .dic e h => .dic e (h.mv k _)
  | .ins e h => .ins e (h.mv k _)
/-- frozen -/
theorem Ob.is {X X' : AP} {H : Hp} {a : Addr} {o : HO} {d : D} (e : H a = some o) (hx : ¬ X' a) (k : Mv X H X' H) : Ob X H o d → Is X' H (.ref a) d
  | .lst h => .lst hx e (h.mv k _)
  | .dic q h => .dic hx e q (h.mv k _)
  | .ins q h => .ins hx e q (h.mv k _)

/-! ### what is fixed through a def's body -/
/-- how an exception of the class C with its fields is held: od its dict -/
def ExF (X : AP) (H : Hp) (od : Option Addr) (ns : List Str) (l : List D) : Prop := (ns = [] ∧ l = [] ∧ od = none) ∨ ∃ (dd : Addr) (fs : List (Str × V)), ns ≠ [] ∧ od = some dd ∧ ¬ X dd ∧ H dd = some (.xd fs) ∧ fs.map (·.1) = ns ∧ IsAll X H (fs.map (·.2)) l
def Frm (V : AP) (H H' : Hp) : Prop := ∀ a o, H a = some o → ¬ V a → H' a = some o
/-- never changed -/
def KeepO : HO → Prop
  | .lst _ => False
  | .dK _ => False
  | .dT _ => False
  | .set _ _ => False
  | .ins _ _ _ => False
  | _ => True
structure Wd where
  V : AP
  X0 : AP
  G : Nat → Hp → Prop
  H0 : Hp
  E : XK
  EP : Nat → Addr → List Str → List D → Prop
  vx : ∀ a, V a → X0 a
  xd : ∀ a, X0 a → H0 a ≠ none
  vd : ∀ n H, G n H → ∀ a, V a → H a ≠ none
  stab : ∀ n H H', (∀ a o, H a = some o → V a ∨ KeepO o → H' a = some o) → G n H → G n H'
  hE : ∀ n C ns l od H', EP n C ns l → Frm V H0 H' → G n H' → ExF X0 H' od ns l → E (.ref C) od H'

abbrev Rho := List (Option (Bool × D))
abbrev ZL := List (Addr × HO)
abbrev TL := List (V × D)
/-- the slots' own objects -/
def Own (ρ : Rho) (σ : L2.St) (a : Addr) : Prop := ∃ (i : Nat) (d : D), ρ[i]? = some (some (true, d)) ∧ σ[i]? = some (some (.ref a))
def XX (W : Wd) (Z : ZL) (ρ : Rho) (σ : L2.St) (a : Addr) : Prop := W.X0 a ∨ Own ρ σ a ∨ ∃ o, (a, o) ∈ Z
structure Env (W : Wd) (n : Nat) (Z : ZL) (T : TL) (ρ : Rho) (σ : L2.St) (H : Hp) : Prop where
  len : σ.length = ρ.length
  sh : ∀ (i : Nat) (d : D), ρ[i]? = some (some (false, d)) → ∃ v, σ[i]? = some (some v) ∧ Is (XX W Z ρ σ) H v d
  ow : ∀ (i : Nat) (d : D), ρ[i]? = some (some (true, d)) → ∃ (a : Addr) (o : HO), σ[i]? = some (some (.ref a)) ∧ H a = some o ∧ Ob (XX W Z ρ σ) H o d ∧ W.H0 a = none ∧ ¬ ∃ o, (a, o) ∈ Z
  inj : ∀ (i j : Nat) (d e : D) (a : Addr), ρ[i]? = some (some (true, d)) → ρ[j]? = some (some (true, e)) → σ[i]? = some (some (.ref a)) → σ[j]? = some (some (.ref a)) → i = j
  z : ∀ p, p ∈ Z → H p.1 = some p.2 ∧ W.H0 p.1 = none
  zn : (Z.map (·.1)).Nodup
  t : ∀ p, p ∈ T → Is (XX W Z ρ σ) H p.1 p.2
  fr : Frm W.V W.H0 H
  g : W.G n H

theorem Ob.mut {X : AP} {H : Hp} {o : HO} {d : D} : Ob X H o d → ¬ KeepO o
  | .lst _ => fun h => h
  | .dic _ _ => fun h => h
  | .ins _ _ => fun h => h
section
variable {W : Wd} {n n' : Nat} {Z : ZL} {T : TL} {ρ : Rho} {σ : L2.St} {H H' : Hp}
theorem Env.dom0 (e : Env W n Z T ρ σ H) {a : Addr} (h : H a = none) : W.H0 a = none := by
  cases q : W.H0 a with
  | none => rfl
  | some o =>
    by_cases hv : W.V a
    · exact absurd h (W.vd n H e.g a hv)
    · rw [e.fr a o q hv] at h; cases h
theorem Env.nx0 {a : Addr} (h : W.H0 a = none) : ¬ W.X0 a := fun x => W.xd a x h
theorem Env.nv0 {a : Addr} (h : W.H0 a = none) : ¬ W.V a := fun x => W.xd a (W.vx a x) h
theorem XX.nv {a : Addr} (h : ¬ XX W Z ρ σ a) : ¬ W.V a := fun x => h (.inl (W.vx a x))
theorem Env.xdom (e : Env W n Z T ρ σ H) {a : Addr} (h : XX W Z ρ σ a) : H a ≠ none := by
  rcases h with h | ⟨i, d, h1, h2⟩ | ⟨o, h⟩
  · intro q
    exact W.xd a h (e.dom0 q)
  · obtain ⟨b, o, h3, h4, _⟩ := e.ow i d h1
    rw [h2] at h3; cases h3
    rw [h4]; exact fun z => nomatch z
  · rw [(e.z _ h).1]; exact fun z => nomatch z
/-- the heap outside V is kept -/
theorem Env.heap (e : Env W n Z T ρ σ H) (k : Frm W.V H H') (g : W.G n' H') : Env W n' Z T ρ σ H' := by
  have m : Mv (XX W Z ρ σ) H (XX W Z ρ σ) H' := fun a o h hx => ⟨k a o h (XX.nv hx), hx⟩
  refine ⟨e.len, fun i d h => ?_, fun i d h => ?_, e.inj, fun p hp => ?_, e.zn, fun p hp => (e.t p hp).mv m, fun a o h hv => k a o (e.fr a o h hv) hv, g⟩
  · obtain ⟨v, h1, h2⟩ := e.sh i d h
    exact ⟨v, h1, h2.mv m⟩
  · obtain ⟨a, o, h1, h2, h3, h4, h5⟩ := e.ow i d h
    exact ⟨a, o, h1, k a o h2 (Env.nv0 h4), h3.mv m, h4, h5⟩
  · obtain ⟨h1, h2⟩ := e.z p hp
    exact ⟨k _ _ h1 (Env.nv0 h2), h2⟩
/-- what is tracked is kept -/
theorem Env.same (e : Env W n Z T ρ σ H) (k : ∀ a o, H a = some o → H' a = some o) : Env W n Z T ρ σ H' := by
  exact e.heap (fun a o h _ => k a o h) (W.stab n H H' (fun a o q _ => k a o q) e.g)
theorem Env.new (e : Env W n Z T ρ σ H) {p : Addr} {o : HO} (h : H p = none) : Env W n Z T ρ σ (upd H p o) := e.same fun a u q => by
  rw [upd_ne (ne_of_none q h)]; exact q
theorem Env.push (e : Env W n Z T ρ σ H) {v : V} {d : D} (h : Is (XX W Z ρ σ) H v d) : Env W n Z ((v, d) :: T) ρ σ H :=
  ⟨e.len, e.sh, e.ow, e.inj, e.z, e.zn, fun p hp => (List.mem_cons.mp hp).elim (fun q => by rw [q]; exact h) (e.t p), e.fr, e.g⟩
theorem Env.pop {T' : TL} (e : Env W n Z T' ρ σ H) (h : ∀ p, p ∈ T → p ∈ T') : Env W n Z T ρ σ H := ⟨e.len, e.sh, e.ow, e.inj, e.z, e.zn, fun p hp => e.t p (h p hp), e.fr, e.g⟩
theorem Env.pop1 {p : V × D} (e : Env W n Z (p :: T) ρ σ H) : Env W n Z T ρ σ H := e.pop fun _ h => List.mem_cons_of_mem _ h
theorem Env.top {v : V} {d : D} (e : Env W n Z ((v, d) :: T) ρ σ H) : Is (XX W Z ρ σ) H v d := e.t (v, d) List.mem_cons_self
def zipT (vs : List V) (ds : List D) : TL := vs.zip ds
theorem zip_all {X : AP} {H : Hp} : ∀ {vs : List V} {ds : List D}, IsAll X H vs ds → ∀ p, p ∈ zipT vs ds → Is X H p.1 p.2
  | _, _, .nil, p, hp => by simp [zipT] at hp
  | _, _, .cons h t, p, hp => by
    unfold zipT at hp
    rw [List.zip_cons_cons] at hp
    rcases List.mem_cons.mp hp with e | e
    · rw [e]; exact h
    · exact zip_all t p e
theorem all_zip {X : AP} {H : Hp} : ∀ {vs : List V} {ds : List D}, vs.length = ds.length → (∀ p, p ∈ zipT vs ds → Is X H p.1 p.2) → IsAll X H vs ds
  | [], [], _, _ => .nil
  | [], _ :: _, h, _ => by simp at h
  | _ :: _, [], h, _ => by simp at h
  | v :: vs, d :: ds, h, k => by
    have k' : ∀ p, p ∈ (v, d) :: zipT vs ds → Is X H p.1 p.2 := k
    exact .cons (k' (v, d) List.mem_cons_self) (all_zip (by simpa using h) fun p hp => k' p (List.mem_cons_of_mem _ hp))
theorem Env.pushAll (e : Env W n Z T ρ σ H) {vs : List V} {ds : List D} (h : IsAll (XX W Z ρ σ) H vs ds) : Env W n Z (zipT vs ds ++ T) ρ σ H :=
  ⟨e.len, e.sh, e.ow, e.inj, e.z, e.zn, fun p hp => (List.mem_append.mp hp).elim (zip_all h p) (e.t p), e.fr, e.g⟩
theorem Env.topAll {vs : List V} {ds : List D} (e : Env W n Z (zipT vs ds ++ T) ρ σ H) (hl : vs.length = ds.length) : IsAll (XX W Z ρ σ) H vs ds := all_zip hl fun p hp => e.t p (List.mem_append_left _ hp)
theorem Env.popAll {T' : TL} (e : Env W n Z (T' ++ T) ρ σ H) : Env W n Z T ρ σ H := e.pop fun _ h => List.mem_append_right _ h

/-! ### pending objects -/
theorem Env.znew (e : Env W n Z T ρ σ H) {p : Addr} (h : H p = none) : ¬ ∃ o, (p, o) ∈ Z := fun ⟨o, q⟩ => by
  rw [(e.z _ q).1] at h; cases h
/-- a new object is laid, pending -/
theorem Env.lay (e : Env W n Z T ρ σ H) {p : Addr} {o : HO} (h : H p = none) : Env W n ((p, o) :: Z) T ρ σ (upd H p o) := by
  have m : Mv (XX W Z ρ σ) H (XX W ((p, o) :: Z) ρ σ) (upd H p o) := fun a u q hx => by
    have ne : a ≠ p := ne_of_none q h
    refine ⟨by rw [upd_ne ne]; exact q, fun x => hx ?_⟩
    rcases x with x | x | ⟨u', x⟩
    · exact .inl x
    · exact .inr (.inl x)
    · rcases List.mem_cons.mp x with y | y
      · cases y; exact absurd rfl ne
      · exact .inr (.inr ⟨u', y⟩)
  have e' := e.new (o := o) h
  refine ⟨e.len, fun i d q => ?_, fun i d q => ?_, e.inj, fun q hq => ?_, ?_, fun q hq => (e.t q hq).mv m, e'.fr, e'.g⟩
  · obtain ⟨v, h1, h2⟩ := e.sh i d q
    exact ⟨v, h1, h2.mv m⟩
  · obtain ⟨a, u, h1, h2, h3, h4, h5⟩ := e.ow i d q
    have ne : a ≠ p := ne_of_none h2 h
    refine ⟨a, u, h1, by rw [upd_ne ne]; exact h2, h3.mv m, h4, fun ⟨u', x⟩ => ?_⟩
    rcases List.mem_cons.mp x with y | y
    · cases y; exact ne rfl
    · exact h5 ⟨u', y⟩
  · rcases List.mem_cons.mp hq with y | y
    · rw [y]; exact ⟨upd_same, e.dom0 h⟩
    · obtain ⟨h1, h2⟩ := e.z q y
      exact ⟨by rw [upd_ne (ne_of_none h1 h)]; exact h1, h2⟩
  · rw [List.map_cons]
    refine List.nodup_cons.mpr ⟨fun x => ?_, e.zn⟩
    obtain ⟨q, hq, eq⟩ := List.mem_map.mp x
    exact e.znew h ⟨q.2, by have eq' : q.1 = p := eq; rw [← eq']; exact hq⟩
/-- a pending object changes its content -/
theorem Env.zput {p : Addr} {o o' : HO} (hk : ¬ KeepO o) (e : Env W n ((p, o) :: Z) T ρ σ H) : Env W n ((p, o') :: Z) T ρ σ (upd H p o') := by
  have hp := e.z (p, o) List.mem_cons_self
  have hz : ∀ q ∈ Z, q.1 ≠ p := fun q hq x => (List.nodup_cons.mp e.zn).1 (List.mem_map.mpr ⟨q, hq, x⟩)
  have m : Mv (XX W ((p, o) :: Z) ρ σ) H (XX W ((p, o') :: Z) ρ σ) (upd H p o') := fun a u q hx => by
    have ne : a ≠ p := fun z => hx (.inr (.inr ⟨o, by rw [z]; exact List.mem_cons_self⟩))
    refine ⟨by rw [upd_ne ne]; exact q, fun x => hx ?_⟩
    rcases x with x | x | ⟨u', x⟩
    · exact .inl x
    · exact .inr (.inl x)
    · rcases List.mem_cons.mp x with y | y
      · cases y; exact absurd rfl ne
      · exact .inr (.inr ⟨u', List.mem_cons_of_mem _ y⟩)
  have nV : ∀ a, W.V a → a ≠ p := fun a hv z => Env.nv0 hp.2 (by rw [← z]; exact hv)
  refine ⟨e.len, fun i d q => ?_, fun i d q => ?_, e.inj, fun q hq => ?_, e.zn, fun q hq => (e.t q hq).mv m, fun a u h hv => ?_, W.stab n H _ (fun a u q hv => by
    have ne : a ≠ p := fun z => by
      rcases hv with hv | hv
      · exact nV a hv z
      · rw [z, hp.1] at q
        cases q
        exact hk hv
    rw [upd_ne ne]; exact q) e.g⟩
  · obtain ⟨v, h1, h2⟩ := e.sh i d q
    exact ⟨v, h1, h2.mv m⟩
  · obtain ⟨a, u, h1, h2, h3, h4, h5⟩ := e.ow i d q
    have ne : a ≠ p := fun z => h5 ⟨o, by rw [z]; exact List.mem_cons_self⟩
    refine ⟨a, u, h1, by rw [upd_ne ne]; exact h2, h3.mv m, h4, fun ⟨u', x⟩ => ?_⟩
    rcases List.mem_cons.mp x with y | y
    · cases y; exact ne rfl
    · exact h5 ⟨u', List.mem_cons_of_mem _ y⟩
  · rcases List.mem_cons.mp hq with y | y
    · rw [y]; exact ⟨upd_same, hp.2⟩
    · obtain ⟨h1, h2⟩ := e.z q (List.mem_cons_of_mem _ y)
      exact ⟨by rw [upd_ne (hz q y)]; exact h1, h2⟩
  · have ne : a ≠ p := fun z => by rw [z, hp.2] at h; cases h
    rw [upd_ne ne]; exact e.fr a u h hv
theorem Env.zmv {p : Addr} {o : HO} (e : Env W n ((p, o) :: Z) T ρ σ H) : Mv (XX W ((p, o) :: Z) ρ σ) H (XX W Z ρ σ) H ∧ ¬ XX W Z ρ σ p := by
  have hp := e.z (p, o) List.mem_cons_self
  refine ⟨fun a u q hx => ⟨q, fun x => hx ?_⟩, fun x => ?_⟩
  · rcases x with x | x | ⟨u', x⟩
    · exact .inl x
    · exact .inr (.inl x)
    · exact .inr (.inr ⟨u', List.mem_cons_of_mem _ x⟩)
  · rcases x with x | ⟨i, d, h1, h2⟩ | ⟨u', x⟩
    · exact Env.nx0 hp.2 x
    · obtain ⟨a, u, h3, h4, _, _, h5⟩ := e.ow i d h1
      rw [h2] at h3; cases h3
      exact h5 ⟨o, List.mem_cons_self⟩
    · exact (List.nodup_cons.mp e.zn).1 (List.mem_map.mpr ⟨(p, u'), x, rfl⟩)
/-- pending no more -/
theorem Env.zpop {p : Addr} {o : HO} (e : Env W n ((p, o) :: Z) T ρ σ H) : Env W n Z T ρ σ H := by
  obtain ⟨m, _⟩ := e.zmv
  refine ⟨e.len, fun i d q => ?_, fun i d q => ?_, e.inj, fun q hq => e.z q (List.mem_cons_of_mem _ hq), (List.nodup_cons.mp e.zn).2, fun q hq => (e.t q hq).mv m, e.fr, e.g⟩
  · obtain ⟨v, h1, h2⟩ := e.sh i d q
    exact ⟨v, h1, h2.mv m⟩
  · obtain ⟨a, u, h1, h2, h3, h4, h5⟩ := e.ow i d q
    exact ⟨a, u, h1, h2, h3.mv m, h4, fun ⟨u', x⟩ => h5 ⟨u', List.mem_cons_of_mem _ x⟩⟩
theorem Env.zis {p : Addr} {o : HO} {d : D} (e : Env W n ((p, o) :: Z) T ρ σ H) (h : Ob (XX W ((p, o) :: Z) ρ σ) H o d) : Is (XX W Z ρ σ) H (.ref p) d :=
  h.is (e.z (p, o) List.mem_cons_self).1 e.zmv.2 e.zmv.1

/-! ### slots -/
theorem set_get {α : Type} {l : List α} {i j : Nat} {x y : α} (h : (l.set i x)[j]? = some y) : (i = j ∧ y = x ∧ i < l.length) ∨ (i ≠ j ∧ l[j]? = some y) := by
  by_cases e : i = j
  · subst e
    by_cases hl : i < l.length
    · rw [List.getElem?_set_self hl] at h
      exact .inl ⟨rfl, (Option.some.inj h).symm, hl⟩
    · rw [List.getElem?_eq_none (by simpa using hl)] at h; cases h
  · rw [List.getElem?_set_ne e] at h
    exact .inr ⟨e, h⟩
/-- own slots behind a store of something that isn't own -/
theorem Own.back {i : Nat} {s : Option (Bool × D)} {v : Option V} (hs : ∀ d, s ≠ some (true, d)) {a : Addr} (h : Own (ρ.set i s) (σ.set i v) a) : Own ρ σ a := by
  obtain ⟨j, d, h1, h2⟩ := h
  rcases set_get h1 with ⟨_, q, _⟩ | ⟨ne, q⟩
  · exact absurd q.symm (hs d)
  · rw [List.getElem?_set_ne ne] at h2
    exact ⟨j, d, q, h2⟩
theorem Env.drops (e : Env W n Z T ρ σ H) (i : Nat) (s : Option (Bool × D)) (v : Option V) (hs : ∀ d, s ≠ some (true, d)) : Mv (XX W Z ρ σ) H (XX W Z (ρ.set i s) (σ.set i v)) H := fun a u q hx => ⟨q, fun x => hx (by
  rcases x with x | x | x
  · exact .inl x
  · exact .inr (.inl (Own.back hs x))
  · exact .inr (.inr x))⟩
theorem Env.setG (e : Env W n Z T ρ σ H) (i : Nat) (s : Option (Bool × D)) (v : Option V) (hs : ∀ d, s ≠ some (true, d)) (hv : ∀ d, s = some (false, d) → ∃ x, v = some x ∧ Is (XX W Z ρ σ) H x d) : Env W n Z T (ρ.set i s) (σ.set i v) H := by
  have m := e.drops i s v hs
  refine ⟨by rw [List.length_set, List.length_set]; exact e.len, fun j d h => ?_, fun j d h => ?_, fun j k d1 d2 a h1 h2 h3 h4 => ?_, e.z, e.zn, fun p hp => (e.t p hp).mv m, e.fr, e.g⟩
  · rcases set_get h with ⟨ij, q, hl⟩ | ⟨ne, q⟩
    · subst ij
      obtain ⟨x, hx, hi⟩ := hv d q.symm
      refine ⟨x, ?_, hi.mv m⟩
      rw [List.getElem?_set_self (by rw [e.len]; exact hl), hx]
    · obtain ⟨x, h1, h2⟩ := e.sh j d q
      exact ⟨x, by rw [List.getElem?_set_ne ne]; exact h1, h2.mv m⟩
  · rcases set_get h with ⟨ij, q, hl⟩ | ⟨ne, q⟩
    · exact absurd q.symm (hs d)
    · obtain ⟨a, u, h1, h2, h3, h4⟩ := e.ow j d q
      exact ⟨a, u, by rw [List.getElem?_set_ne ne]; exact h1, h2, h3.mv m, h4⟩
  · rcases set_get h1 with ⟨_, q, _⟩ | ⟨ne1, q1⟩
    · exact absurd q.symm (hs d1)
    · rcases set_get h2 with ⟨_, q, _⟩ | ⟨ne2, q2⟩
      · exact absurd q.symm (hs d2)
      · rw [List.getElem?_set_ne ne1] at h3
        rw [List.getElem?_set_ne ne2] at h4
        exact e.inj j k d1 d2 a q1 q2 h3 h4
/-- a value is stored -/
theorem Env.set (e : Env W n Z T ρ σ H) {i : Nat} {v : V} {d : D} (h : Is (XX W Z ρ σ) H v d) : Env W n Z T (ρ.set i (some (false, d))) (σ.set i (some v)) H :=
  e.setG i _ _ (fun d q => by cases q) fun d' q => by cases q; exact ⟨v, rfl, h⟩
/-- a slot's value is forgotten -/
theorem Env.forget (e : Env W n Z T ρ σ H) (i : Nat) : Env W n Z T (ρ.set i none) σ H := by
  have e' := e.setG i none (σ.getD i none) (fun d q => by cases q) (fun d q => by cases q)
  have q : σ.set i (σ.getD i none) = σ := by
    apply List.ext_getElem?
    intro j
    by_cases ij : i = j
    · subst ij
      by_cases hl : i < σ.length
      · rw [List.getElem?_set_self hl, List.getD_eq_getElem?_getD, List.getElem?_eq_getElem hl]; rfl
      · rw [List.getElem?_eq_none (by simpa using hl), List.getElem?_eq_none (by simpa using hl)]
    · rw [List.getElem?_set_ne ij]
  rw [q] at e'
  exact e'
/-- a slot's own object is read only from now on -/
theorem Env.freeze (e : Env W n Z T ρ σ H) {i : Nat} {d : D} (h : ρ[i]? = some (some (true, d))) : Env W n Z T (ρ.set i (some (false, d))) σ H := by
  obtain ⟨a, o, h1, h2, h3, h4, h5⟩ := e.ow i d h
  have hi : i < ρ.length := (List.getElem?_eq_some_iff.mp h).1
  have back : ∀ b, Own (ρ.set i (some (false, d))) σ b → Own ρ σ b ∧ b ≠ a := fun b ⟨j, d', q1, q2⟩ => by
    rcases set_get q1 with ⟨_, q, _⟩ | ⟨ne, q⟩
    · cases q
    · exact ⟨⟨j, d', q, q2⟩, fun z => ne (e.inj i j d d' a h q h1 (by rw [← z]; exact q2))⟩
  have m : Mv (XX W Z ρ σ) H (XX W Z (ρ.set i (some (false, d))) σ) H := fun b u q hx => ⟨q, fun x => hx (by
    rcases x with x | x | x
    · exact .inl x
    · exact .inr (.inl (back b x).1)
    · exact .inr (.inr x))⟩
  have na : ¬ XX W Z (ρ.set i (some (false, d))) σ a := fun x => by
    rcases x with x | x | x
    · exact Env.nx0 h4 x
    · exact (back a x).2 rfl
    · exact h5 x
  refine ⟨by rw [List.length_set]; exact e.len, fun j d' q => ?_, fun j d' q => ?_, fun j k d1 d2 b q1 q2 q3 q4 => ?_, e.z, e.zn, fun p hp => (e.t p hp).mv m, e.fr, e.g⟩
  · rcases set_get q with ⟨ij, q', _⟩ | ⟨ne, q⟩
    · subst ij
      cases q'
      exact ⟨V.ref a, h1, h3.is h2 na m⟩
    · obtain ⟨x, q1, q2⟩ := e.sh j d' q
      exact ⟨x, q1, q2.mv m⟩
  · rcases set_get q with ⟨_, q, _⟩ | ⟨ne, q⟩
    · cases q
    · obtain ⟨b, u, q1, q2, q3, q4⟩ := e.ow j d' q
      exact ⟨b, u, q1, q2, q3.mv m, q4⟩
  · rcases set_get q1 with ⟨_, q, _⟩ | ⟨ne1, q1⟩
    · cases q
    · rcases set_get q2 with ⟨_, q, _⟩ | ⟨ne2, q2⟩
      · cases q
      · exact e.inj j k d1 d2 b q1 q2 q3 q4
/-- a pending object goes to a slot -/
theorem Env.take {p : Addr} {o : HO} {d : D} {i : Nat} (e : Env W n ((p, o) :: Z) T ρ σ H) (h : Ob (XX W ((p, o) :: Z) ρ σ) H o d) : Env W n Z T (ρ.set i (some (true, d))) (σ.set i (some (.ref p))) H := by
  have hp := e.z (p, o) List.mem_cons_self
  have np : ∀ j d, ρ[j]? = some (some (true, d)) → σ[j]? = some (some (V.ref p)) → False := fun j d h1 h2 => by
    obtain ⟨a, u, h3, _, _, _, h5⟩ := e.ow j d h1
    rw [h2] at h3; cases h3
    exact h5 ⟨o, List.mem_cons_self⟩
  have m : Mv (XX W ((p, o) :: Z) ρ σ) H (XX W Z (ρ.set i (some (true, d))) (σ.set i (some (.ref p)))) H := fun a u q hx => ⟨q, fun x => hx (by
    rcases x with x | ⟨j, d', q1, q2⟩ | ⟨u', x⟩
    · exact .inl x
    · rcases set_get q1 with ⟨ij, _, _⟩ | ⟨ne, q1⟩
      · subst ij
        rcases set_get q2 with ⟨_, q, _⟩ | ⟨ne, _⟩
        · cases q
          exact .inr (.inr ⟨o, List.mem_cons_self⟩)
        · exact absurd rfl ne
      · rw [List.getElem?_set_ne ne] at q2
        exact .inr (.inl ⟨j, d', q1, q2⟩)
    · exact .inr (.inr ⟨u', List.mem_cons_of_mem _ x⟩))⟩
  refine ⟨by rw [List.length_set, List.length_set]; exact e.len, fun j d' q => ?_, fun j d' q => ?_, fun j k d1 d2 b q1 q2 q3 q4 => ?_, fun q hq => e.z q (List.mem_cons_of_mem _ hq), (List.nodup_cons.mp e.zn).2, fun q hq => (e.t q hq).mv m, e.fr, e.g⟩
  · rcases set_get q with ⟨_, q, _⟩ | ⟨ne, q⟩
    · cases q
    · obtain ⟨x, q1, q2⟩ := e.sh j d' q
      exact ⟨x, by rw [List.getElem?_set_ne ne]; exact q1, q2.mv m⟩
  · rcases set_get q with ⟨ij, q', hl⟩ | ⟨ne, q⟩
    · subst ij
      cases q'
      refine ⟨p, o, by rw [List.getElem?_set_self (by rw [e.len]; exact hl)], hp.1, h.mv m, hp.2, fun ⟨u, x⟩ => (List.nodup_cons.mp e.zn).1 (List.mem_map.mpr ⟨_, x, rfl⟩)⟩
    · obtain ⟨a, u, h1, h2, h3, h4, h5⟩ := e.ow j d' q
      exact ⟨a, u, by rw [List.getElem?_set_ne ne]; exact h1, h2, h3.mv m, h4, fun ⟨u', x⟩ => h5 ⟨u', List.mem_cons_of_mem _ x⟩⟩
  · rcases set_get q1 with ⟨ij, _, hl⟩ | ⟨ne1, q1⟩
    · subst ij
      rcases set_get q2 with ⟨ik, _, _⟩ | ⟨ne2, q2⟩
      · exact ik
      · rw [List.getElem?_set_self (by rw [e.len]; exact hl)] at q3
        cases q3
        rw [List.getElem?_set_ne ne2] at q4
        exact (np k d2 q2 q4).elim
    · rw [List.getElem?_set_ne ne1] at q3
      rcases set_get q2 with ⟨ik, _, hl⟩ | ⟨ne2, q2⟩
      · subst ik
        rw [List.getElem?_set_self (by rw [e.len]; exact hl)] at q4
        cases q4
        exact (np j d1 q1 q3).elim
      · rw [List.getElem?_set_ne ne2] at q4
        exact e.inj j k d1 d2 b q1 q2 q3 q4
/-- a slot's own object is changed -/
theorem Env.put (e : Env W n Z T ρ σ H) {i : Nat} {a : Addr} {d d' : D} {o' : HO} (h : ρ[i]? = some (some (true, d))) (hs : σ[i]? = some (some (.ref a))) (ho : Ob (XX W Z ρ σ) H o' d') : Env W n Z T (ρ.set i (some (true, d'))) σ (upd H a o') := by
  obtain ⟨a', o, h1, h2, h3, h4, h5⟩ := e.ow i d h
  rw [hs] at h1; cases h1
  have xa : XX W Z ρ σ a := .inr (.inl ⟨i, d, h, hs⟩)
  have own : ∀ b, Own (ρ.set i (some (true, d'))) σ b → Own ρ σ b := fun b ⟨j, d1, q1, q2⟩ => by
    rcases set_get q1 with ⟨ij, _, _⟩ | ⟨ne, q⟩
    · subst ij; exact ⟨i, d, h, q2⟩
    · exact ⟨j, d1, q, q2⟩
  have m : Mv (XX W Z ρ σ) H (XX W Z (ρ.set i (some (true, d'))) σ) (upd H a o') := fun b u q hx => by
    have ne : b ≠ a := fun z => hx (by rw [z]; exact xa)
    refine ⟨by rw [upd_ne ne]; exact q, fun x => hx ?_⟩
    rcases x with x | x | x
    · exact .inl x
    · exact .inr (.inl (own b x))
    · exact .inr (.inr x)
  refine ⟨by rw [List.length_set]; exact e.len, fun j d1 q => ?_, fun j d1 q => ?_, fun j k d1 d2 b q1 q2 q3 q4 => ?_, fun q hq => ?_, e.zn, fun p hp => (e.t p hp).mv m, fun b u q hv => ?_, W.stab n H _ (fun b u q hv => by
    have ne : b ≠ a := fun z => by
      rcases hv with hv | hv
      · exact Env.nv0 h4 (by rw [← z]; exact hv)
      · rw [z, h2] at q
        cases q
        exact h3.mut hv
    rw [upd_ne ne]; exact q) e.g⟩
  · rcases set_get q with ⟨_, q, _⟩ | ⟨ne, q⟩
    · cases q
    · obtain ⟨x, q1, q2⟩ := e.sh j d1 q
      exact ⟨x, q1, q2.mv m⟩
  · rcases set_get q with ⟨ij, q', _⟩ | ⟨ne, q⟩
    · subst ij
      cases q'
      exact ⟨a, o', hs, upd_same, ho.mv m, h4, h5⟩
    · obtain ⟨b, u, q1, q2, q3, q4⟩ := e.ow j d1 q
      have nb : b ≠ a := fun z => ne (e.inj i j d d1 a h q hs (by rw [← z]; exact q1))
      exact ⟨b, u, q1, by rw [upd_ne nb]; exact q2, q3.mv m, q4⟩
  · have back : ∀ j d1, (ρ.set i (some (true, d')))[j]? = some (some (true, d1)) → ∃ d2, ρ[j]? = some (some (true, d2)) := fun j d1 q => by
      rcases set_get q with ⟨ij, _, _⟩ | ⟨ne, q⟩
      · subst ij; exact ⟨d, h⟩
      · exact ⟨d1, q⟩
    obtain ⟨x1, y1⟩ := back j d1 q1
    obtain ⟨x2, y2⟩ := back k d2 q2
    exact e.inj j k x1 x2 b y1 y2 q3 q4
  · obtain ⟨q1, q2⟩ := e.z q hq
    have ne : q.1 ≠ a := fun z => h5 ⟨q.2, by rw [← z]; exact hq⟩
    exact ⟨by rw [upd_ne ne]; exact q1, q2⟩
  · have ne : b ≠ a := fun z => by rw [z, h4] at q; cases q
    rw [upd_ne ne]; exact e.fr b u q hv
end
end HD

namespace HD
open PySem PySem.Spec PyProof.Rows L2

/-! ### what a reading evaluates to -/
/-- data at v, shared or a slot's own -/
def IsW (X : AP) (H : Hp) (v : V) (d : D) : Prop := Is X H v d ∨ ∃ (a : Addr) (o : HO), v = .ref a ∧ H a = some o ∧ Ob X H o d
def RetK (W : Wd) (Z : ZL) (T : TL) (ρ : Rho) (σ : L2.St) (P : Nat → D → Prop) (Q : VK) : Prop := ∀ (n : Nat) (v : V) (d : D) (H' : Hp), P n d → Env W n Z T ρ σ H' → Is (XX W Z ρ σ) H' v d → Q v H'
def RetF (W : Wd) (Z : ZL) (T : TL) (ρ : Rho) (σ : L2.St) (P : Nat → D → Prop) (Q : VK) : Prop := ∀ (n : Nat) (a : Addr) (o : HO) (d : D) (H' : Hp), P n d → Env W n ((a, o) :: Z) T ρ σ H' → Ob (XX W ((a, o) :: Z) ρ σ) H' o d → Q (.ref a) H'
def DE (te : TE) (W : Wd) (n : Nat) (ρ : Rho) (P : Nat → D → Prop) : Prop := ∀ (Z : ZL) (T : TL) (σ : L2.St) (H : Hp), Env W n Z T ρ σ H → ∀ Q : VK, RetK W Z T ρ σ P Q → te σ H Q
def DF (te : TE) (W : Wd) (n : Nat) (ρ : Rho) (P : Nat → D → Prop) : Prop := ∀ (Z : ZL) (T : TL) (σ : L2.St) (H : Hp), Env W n Z T ρ σ H → ∀ Q : VK, RetF W Z T ρ σ P Q → te σ H Q
def DA (ta : TA) (W : Wd) (n : Nat) (ρ : Rho) (P : Nat → List D → Prop) : Prop := ∀ (Z : ZL) (T : TL) (σ : L2.St) (H : Hp), Env W n Z T ρ σ H → ∀ Q : List V → Hp → Prop, (∀ (n : Nat) (vs : List V) (ds : List D) (H' : Hp), P n ds → Env W n Z T ρ σ H' → IsAll (XX W Z ρ σ) H' vs ds → Q vs H') → ta σ H Q
def DT (tt : TT) (W : Wd) (n : Nat) (ρ : Rho) (P : Nat → Bool → Prop) : Prop := ∀ (Z : ZL) (T : TL) (σ : L2.St) (H : Hp), Env W n Z T ρ σ H → ∀ Q : Bool → Hp → Prop, (∀ (n : Nat) (b : Bool) (H' : Hp), P n b → Env W n Z T ρ σ H' → Q b H') → tt σ H Q
def DO (to : TO) (W : Wd) (n : Nat) (ρ : Rho) (P : Nat → Option Int → Prop) : Prop := ∀ (Z : ZL) (T : TL) (σ : L2.St) (H : Hp), Env W n Z T ρ σ H → ∀ Q : Option Int → Hp → Prop, (∀ (n : Nat) (b : Option Int) (H' : Hp), P n b → Env W n Z T ρ σ H' → Q b H') → to σ H Q
/-- operations on values -/
def DR (r : R2) (W : Wd) (n : Nat) (ρ : Rho) (d1 d2 : D) (P : Nat → D → Prop) : Prop := ∀ (Z : ZL) (T : TL) (σ : L2.St) (H : Hp) (v1 v2 : V), Env W n Z T ρ σ H → IsW (XX W Z ρ σ) H v1 d1 → IsW (XX W Z ρ σ) H v2 d2 → ∀ Q : VK, RetK W Z T ρ σ P Q → r v1 v2 H Q
def DRF (r : R2) (W : Wd) (n : Nat) (ρ : Rho) (d1 d2 : D) (P : Nat → D → Prop) : Prop := ∀ (Z : ZL) (T : TL) (σ : L2.St) (H : Hp) (v1 v2 : V), Env W n Z T ρ σ H → IsW (XX W Z ρ σ) H v1 d1 → IsW (XX W Z ρ σ) H v2 d2 → ∀ Q : VK, RetF W Z T ρ σ P Q → r v1 v2 H Q
def DU (r : V → Hp → VK → Prop) (W : Wd) (n : Nat) (ρ : Rho) (d : D) (P : Nat → D → Prop) : Prop := ∀ (Z : ZL) (T : TL) (σ : L2.St) (H : Hp) (v : V), Env W n Z T ρ σ H → IsW (XX W Z ρ σ) H v d → ∀ Q : VK, RetK W Z T ρ σ P Q → r v H Q
def IsWs (X : AP) (H : Hp) (vs : List V) (ds : List D) : Prop := Paired (IsW X H) vs ds
def DC (r : List V → Hp → VK → Prop) (W : Wd) (n : Nat) (ρ : Rho) (ds : List D) (P : Nat → D → Prop) : Prop := ∀ (Z : ZL) (T : TL) (σ : L2.St) (H : Hp) (vs : List V), Env W n Z T ρ σ H → IsWs (XX W Z ρ σ) H vs ds → ∀ Q : VK, RetK W Z T ρ σ P Q → r vs H Q
def DCF (r : List V → Hp → VK → Prop) (W : Wd) (n : Nat) (ρ : Rho) (ds : List D) (P : Nat → D → Prop) : Prop := ∀ (Z : ZL) (T : TL) (σ : L2.St) (H : Hp) (vs : List V), Env W n Z T ρ σ H → IsWs (XX W Z ρ σ) H vs ds → ∀ Q : VK, RetF W Z T ρ σ P Q → r vs H Q
def DSl (r : V → Option Int → Option Int → Hp → VK → Prop) (W : Wd) (n : Nat) (ρ : Rho) (d : D) (lo hi : Option Int) (P : Nat → D → Prop) : Prop := ∀ (Z : ZL) (T : TL) (σ : L2.St) (H : Hp) (v : V), Env W n Z T ρ σ H → IsW (XX W Z ρ σ) H v d → ∀ Q : VK, RetK W Z T ρ σ P Q → r v lo hi H Q

section
variable {W : Wd} {n : Nat} {Z : ZL} {T : TL} {ρ : Rho} {σ : L2.St} {H : Hp} {P P' : Nat → D → Prop} {Q : VK} {te ta tb tc : TE} {tt tu : TT} {r r' : R2} {d d1 d2 : D} {X : AP} {v : V} {K : PySem.W.Frag}

theorem IsAll.ws : ∀ {vs : List V} {ds : List D}, IsAll X H vs ds → IsWs X H vs ds
  | _, _, .nil => .nil
  | _, _, .cons h t => .cons (.inl h) t.ws
theorem RetF.sh (h : RetK W Z T ρ σ P Q) : RetF W Z T ρ σ P Q := fun n a o d H' p e ho => h _ _ d H' p e.zpop (e.zis ho)
theorem DF.de (h : DF te W n ρ P) : DE te W n ρ P := fun Z T σ H e Q k => h Z T σ H e Q (RetF.sh k)
theorem DRF.dr (h : DRF r W n ρ d1 d2 P) : DR r W n ρ d1 d2 P := fun Z T σ H v1 v2 e i1 i2 Q k => h Z T σ H v1 v2 e i1 i2 Q (RetF.sh k)
theorem DCF.dc {r : List V → Hp → VK → Prop} {ds : List D} (h : DCF r W n ρ ds P) : DC r W n ρ ds P := fun Z T σ H vs e i Q k => h Z T σ H vs e i Q (RetF.sh k)
theorem DE.imp (h : DE te W n ρ P) (k : ∀ n d, P n d → P' n d) : DE te W n ρ P' := fun Z T σ H e Q q => h Z T σ H e Q fun n v d H' p => q _ v d H' (k _ d p)
theorem DF.imp (h : DF te W n ρ P) (k : ∀ n d, P n d → P' n d) : DF te W n ρ P' := fun Z T σ H e Q q => h Z T σ H e Q fun n a o d H' p => q _ a o d H' (k _ d p)
theorem DA.imp {ta : TA} {P P' : Nat → List D → Prop} (h : DA ta W n ρ P) (k : ∀ n d, P n d → P' n d) : DA ta W n ρ P' := fun Z T σ H e Q q => h Z T σ H e Q fun n v d H' p => q _ v d H' (k _ d p)
theorem DT.imp {P P' : Nat → Bool → Prop} (h : DT tt W n ρ P) (k : ∀ n d, P n d → P' n d) : DT tt W n ρ P' := fun Z T σ H e Q q => h Z T σ H e Q fun n b H' p => q _ b H' (k _ b p)

/-! inversions -/
theorem isw_non (h : IsW X H v .non) : v = .non := by
  rcases h with h | ⟨a, o, _, _, h⟩
  · cases h; rfl
  · cases h
theorem isw_bl {b : Bool} (h : IsW X H v (.bl b)) : v = .bl b := by
  rcases h with h | ⟨a, o, _, _, h⟩
  · cases h; rfl
  · cases h
theorem isw_int {i : Int} (h : IsW X H v (.int i)) : v = .int i := by
  rcases h with h | ⟨a, o, _, _, h⟩
  · cases h; rfl
  · cases h
theorem isw_str {x : Str} (h : IsW X H v (.str x)) : v = .str x := by
  rcases h with h | ⟨a, o, _, _, h⟩
  · cases h; rfl
  · cases h
theorem isw_ty {c : String} (h : IsW X H v (.ty c)) : v = .ty c := by
  rcases h with h | ⟨a, o, _, _, h⟩
  · cases h; rfl
  · cases h
theorem isw_raw {a : Addr} (h : IsW X H v (.raw a)) : v = .ref a := by
  rcases h with h | ⟨a, o, _, _, h⟩
  · cases h; rfl
  · cases h
theorem isw_lst {ds : List D} (h : IsW X H v (.lst ds)) : ∃ a xs, v = .ref a ∧ H a = some (.lst xs) ∧ IsAll X H xs ds := by
  rcases h with h | ⟨a, o, e, ho, h⟩
  · cases h with
    | lst hx hr ha => exact ⟨_, _, rfl, hr, ha⟩
  · cases h with
    | lst ha => exact ⟨a, _, e, ho, ha⟩
theorem isw_tup {ds : List D} (h : IsW X H v (.tup ds)) : ∃ a xs, v = .ref a ∧ H a = some (.tup xs) ∧ IsAll X H xs ds ∧ ¬ X a := by
  rcases h with h | ⟨a, o, e, ho, h⟩
  · cases h with
    | tup hx hr ha => exact ⟨_, _, rfl, hr, ha, hx⟩
  · cases h
theorem isw_dic {ks : List Key} {ds : List D} (h : IsW X H v (.dic ks ds)) : ∃ a kvs, v = .ref a ∧ H a = some (.dK kvs) ∧ kvs.map (·.1) = ks ∧ IsAll X H (kvs.map (·.2)) ds := by
  rcases h with h | ⟨a, o, e, ho, h⟩
  · cases h with
    | dic hx hr hk ha => exact ⟨_, _, rfl, hr, hk, ha⟩
  · cases h with
    | dic hk ha => exact ⟨a, _, e, ho, hk, ha⟩
theorem isw_ins {C : Addr} {ns : List Str} {ds : List D} (h : IsW X H v (.ins C ns ds)) : ∃ a dx fs, v = .ref a ∧ H a = some (.ins C dx fs) ∧ fs.map (·.1) = ns ∧ IsAll X H (fs.map (·.2)) ds := by
  rcases h with h | ⟨a, o, e, ho, h⟩
  · cases h with
    | ins hx hr hk ha => exact ⟨_, _, _, rfl, hr, hk, ha⟩
  · cases h with
    | ins hk ha => exact ⟨a, _, _, e, ho, hk, ha⟩
theorem all_ints {xs : List V} : ∀ {ns : List Int}, IsAll X H xs (ns.map D.int) → xs = ns.map V.int := by
  intro ns
  induction ns generalizing xs with
  | nil => intro h; cases h; rfl
  | cons n ns ih =>
    intro h
    rw [List.map_cons] at h
    cases h with
    | cons h t => cases h; rw [ih t]; rfl
theorem all_bls {xs : List V} : ∀ {ns : List Bool}, IsAll X H xs (ns.map D.bl) → xs = ns.map V.bl := by
  intro ns
  induction ns generalizing xs with
  | nil => intro h; cases h; rfl
  | cons n ns ih =>
    intro h
    rw [List.map_cons] at h
    cases h with
    | cons h t => cases h; rw [ih t]; rfl
theorem ints_all : ∀ {ns : List Int}, IsAll X H (ns.map V.int) (ns.map D.int)
  | [] => .nil
  | n :: ns => .cons (.int n) ints_all

/-! ### names, constants -/
theorem de_var {i : Nat} (h : ρ[i]? = some (some (false, d))) (p : P n d) : DE (tVar i) W n ρ P := fun Z T σ H e Q k => by
  obtain ⟨v, h1, h2⟩ := e.sh i d h
  exact ⟨v, h1, k _ v d H p e h2⟩
theorem de_non (p : P n .non) : DE (tC .non) W n ρ P := fun Z T σ H e Q k => k _ _ _ H p e .non
theorem de_bl {b : Bool} (p : P n (.bl b)) : DE (tC (.bl b)) W n ρ P := fun Z T σ H e Q k => k _ _ _ H p e (.bl b)
theorem de_int {i : Int} (p : P n (.int i)) : DE (tC (.int i)) W n ρ P := fun Z T σ H e Q k => k _ _ _ H p e (.int i)
theorem de_str {x : Str} (p : P n (.str x)) : DE (tC (.str x)) W n ρ P := fun Z T σ H e Q k => k _ _ _ H p e (.str x)
theorem de_ty {c : String} (p : P n (.ty c)) : DE (tC (.ty c)) W n ρ P := fun Z T σ H e Q k => k _ _ _ H p e (.ty c)
theorem de_raw {a : Addr} (p : P n (.raw a)) : DE (tC (.ref a)) W n ρ P := fun Z T σ H e Q k => k _ _ _ H p e (.raw a)

/-! ### operators -/
theorem de_op (h : DE ta W n ρ fun n d1 => DE tb W n ρ fun n d2 => DR r W n ρ d1 d2 P) : DE (tOp r ta tb) W n ρ P := fun Z T σ H e Q k =>
  h Z T σ H e _ fun n v1 d1 H1 p1 e1 i1 => p1 Z ((v1, d1) :: T) σ H1 (e1.push i1) _ fun n v2 d2 H2 p2 e2 i2 => p2 Z T σ H2 v1 v2 e2.pop1 (.inl e2.top) (.inl i2) Q k
theorem df_op (h : DE ta W n ρ fun n d1 => DE tb W n ρ fun n d2 => DRF r W n ρ d1 d2 P) : DF (tOp r ta tb) W n ρ P := fun Z T σ H e Q k =>
  h Z T σ H e _ fun n v1 d1 H1 p1 e1 i1 => p1 Z ((v1, d1) :: T) σ H1 (e1.push i1) _ fun n v2 d2 H2 p2 e2 i2 => p2 Z T σ H2 v1 v2 e2.pop1 (.inl e2.top) (.inl i2) Q k
/-- the first operand a slot's own object -/
theorem Env.own_w {i : Nat} (e : Env W n Z T ρ σ H) (h : ρ[i]? = some (some (true, d))) : ∃ v, σ[i]? = some (some v) ∧ IsW (XX W Z ρ σ) H v d := by
  obtain ⟨a, o, h1, h2, h3, _⟩ := e.ow i d h
  exact ⟨.ref a, h1, .inr ⟨a, o, rfl, h2, h3⟩⟩
theorem de_op_o {i : Nat} (h1 : ρ[i]? = some (some (true, d1))) (h : DE tb W n ρ fun n d2 => DR r W n ρ d1 d2 P) : DE (tOp r (tVar i) tb) W n ρ P := fun Z T σ H e Q k => by
  obtain ⟨v, q, _⟩ := e.own_w h1
  refine ⟨v, q, h Z T σ H e _ fun n v2 d2 H2 p2 e2 i2 => ?_⟩
  obtain ⟨v', q', w'⟩ := e2.own_w h1
  rw [q] at q'; cases q'
  exact p2 Z T σ H2 v v2 e2 w' (.inl i2) Q k
theorem df_op_o {i : Nat} (h1 : ρ[i]? = some (some (true, d1))) (h : DE tb W n ρ fun n d2 => DRF r W n ρ d1 d2 P) : DF (tOp r (tVar i) tb) W n ρ P := fun Z T σ H e Q k => by
  obtain ⟨v, q, _⟩ := e.own_w h1
  refine ⟨v, q, h Z T σ H e _ fun n v2 d2 H2 p2 e2 i2 => ?_⟩
  obtain ⟨v', q', w'⟩ := e2.own_w h1
  rw [q] at q'; cases q'
  exact p2 Z T σ H2 v v2 e2 w' (.inl i2) Q k
theorem de_op_2o {i : Nat} (h1 : ρ[i]? = some (some (true, d2))) (h : DE ta W n ρ fun n d1 => DR r W n ρ d1 d2 P) : DE (tOp r ta (tVar i)) W n ρ P := fun Z T σ H e Q k =>
  h Z T σ H e _ fun n v1 d1 H1 p1 e1 i1 => by
    obtain ⟨v, q, w'⟩ := e1.own_w h1
    exact ⟨v, q, p1 Z T σ H1 v1 v e1 (.inl i1) w' Q k⟩
theorem de_un {r : V → Hp → VK → Prop} (h : DE ta W n ρ fun n d1 => DU r W n ρ d1 P) : DE (tUn r ta) W n ρ P := fun Z T σ H e Q k =>
  h Z T σ H e _ fun n v1 d1 H1 p1 e1 i1 => p1 Z T σ H1 v1 e1 (.inl i1) Q k
theorem dr_orl (h : DR r W n ρ d1 d2 P) : DR (fun x y H Q => r x y H Q ∨ r' x y H Q) W n ρ d1 d2 P := fun Z T σ H v1 v2 e i1 i2 Q k => .inl (h Z T σ H v1 v2 e i1 i2 Q k)
theorem dr_orr (h : DR r' W n ρ d1 d2 P) : DR (fun x y H Q => r x y H Q ∨ r' x y H Q) W n ρ d1 d2 P := fun Z T σ H v1 v2 e i1 i2 Q k => .inr (h Z T σ H v1 v2 e i1 i2 Q k)
theorem drf_orl (h : DRF r W n ρ d1 d2 P) : DRF (fun x y H Q => r x y H Q ∨ r' x y H Q) W n ρ d1 d2 P := fun Z T σ H v1 v2 e i1 i2 Q k => .inl (h Z T σ H v1 v2 e i1 i2 Q k)
theorem drf_orr (h : DRF r' W n ρ d1 d2 P) : DRF (fun x y H Q => r x y H Q ∨ r' x y H Q) W n ρ d1 d2 P := fun Z T σ H v1 v2 e i1 i2 Q k => .inr (h Z T σ H v1 v2 e i1 i2 Q k)
theorem dr_I0i {g : Int → Int → Int} {i j : Int} (p : P n (.int (g i j))) : DR (rI0 fun i j => .int (g i j)) W n ρ (.int i) (.int j) P := fun Z T σ H v1 v2 e i1 i2 Q k => by
  cases isw_int i1; cases isw_int i2
  exact ⟨i, j, rfl, rfl, k _ _ _ H p e (.int _)⟩
theorem dr_I0b {g : Int → Int → Bool} {i j : Int} (p : P n (.bl (g i j))) : DR (rI0 fun i j => .bl (g i j)) W n ρ (.int i) (.int j) P := fun Z T σ H v1 v2 e i1 i2 Q k => by
  cases isw_int i1; cases isw_int i2
  exact ⟨i, j, rfl, rfl, k _ _ _ H p e (.bl _)⟩
theorem dr_Ii {C : Int → Int → Prop} {g : Int → Int → Int} {i j : Int} (c : C i j) (p : P n (.int (g i j))) : DR (rI C fun i j => .int (g i j)) W n ρ (.int i) (.int j) P := fun Z T σ H v1 v2 e i1 i2 Q k => by
  cases isw_int i1; cases isw_int i2
  exact ⟨i, j, rfl, rfl, c, k _ _ _ H p e (.int _)⟩
theorem du_neg {i : Int} (p : P n (.int (-i))) : DU (rU fun i => .int (-i)) W n ρ (.int i) P := fun Z T σ H v e i1 Q k => by
  cases isw_int i1
  exact ⟨i, rfl, k _ _ _ H p e (.int _)⟩

/-! ### equality -/
mutual
/-- as the model's data -/
def D.toP : D → Option PyData
  | .non => some .none
  | .bl b => some (.bool b)
  | .int i => some (.int i)
  | .str x => some (.str x)
  | .lst l => match toPs l with
    | some ps => some (.list ps)
    | none => none
  | .tup l => match toPs l with
    | some ps => some (.tuple ps)
    | none => none
  | _ => none
def toPs : List D → Option (List PyData)
  | [] => some []
  | d :: ds => match d.toP, toPs ds with
    | some p, some ps => some (p :: ps)
    | _, _ => none
end
mutual
theorem Is.dp : ∀ (d : D) {v : V} {p : PyData}, Is X H v d → d.toP = some p → Dp K H v p
  | .non, _, _, .non, e => by cases e; exact .non
  | .bl b, _, _, .bl _, e => by cases e; exact .bl b
  | .int i, _, _, .int _, e => by cases e; exact .int i
  | .str x, _, _, .str _, e => by cases e; exact .str x
  | .ty _, _, _, _, e => by cases e
  | .raw _, _, _, _, e => by cases e
  | .lst ds, _, p, .lst hx hr ha, e => by
    unfold D.toP at e
    cases q : toPs ds with
    | none => rw [q] at e; cases e
    | some ps => rw [q] at e; cases e; exact .lst (.of hr) (IsAll.dp ds ha q)
  | .tup ds, _, p, .tup hx hr ha, e => by
    unfold D.toP at e
    cases q : toPs ds with
    | none => rw [q] at e; cases e
    | some ps => rw [q] at e; cases e; exact .tup (.of hr) (IsAll.dp ds ha q)
  | .dic _ _, _, _, _, e => by cases e
  | .ins _ _ _, _, _, _, e => by cases e
  | .exc _ _ _, _, _, _, e => by cases e
  | .dct, _, _, _, e => by cases e
theorem IsAll.dp : ∀ (ds : List D) {vs : List V} {ps : List PyData}, IsAll X H vs ds → toPs ds = some ps → DpAll K H vs ps
  | [], _, _, .nil, e => by cases e; exact .nil
  | d :: ds, _, _, .cons h t, e => by
    unfold toPs at e
    cases q : d.toP with
    | none => rw [q] at e; cases e
    | some p =>
      cases q2 : toPs ds with
      | none => rw [q, q2] at e; cases e
      | some ps => rw [q, q2] at e; cases e; exact .cons (Is.dp d h q) (IsAll.dp ds t q2)
end
theorem IsW.dp {p : PyData} (h : IsW X H v d) (e : d.toP = some p) : Dp K H v p := by
  rcases h with h | ⟨a, o, rfl, ho, h⟩
  · exact h.dp d e
  · cases h with
    | lst ha =>
      unfold D.toP at e
      rename_i xs ds
      cases q : toPs ds with
      | none => rw [q] at e; cases e
      | some ps => rw [q] at e; cases e; exact .lst (.of ho) (ha.dp ds q)
    | dic _ _ => cases e
    | ins _ _ => cases e
theorem dr_eq {p1 p2 : PyData} (e1 : d1.toP = some p1) (e2 : d2.toP = some p2) (s1 : SeqAt.shaped p1 = true) (s2 : SeqAt.shaped p2 = true) (p : P n (.bl (PyData.eqv p1 p2))) : DR (rEqD K) W n ρ d1 d2 P := fun Z T σ H v1 v2 e i1 i2 Q k =>
  ⟨p1, p2, i1.dp e1, i2.dp e2, s1, s2, k _ _ _ H p e (.bl _)⟩
theorem dr_ne {p1 p2 : PyData} (e1 : d1.toP = some p1) (e2 : d2.toP = some p2) (s1 : SeqAt.shaped p1 = true) (s2 : SeqAt.shaped p2 = true) (p : P n (.bl (!PyData.eqv p1 p2))) : DR (rNeD K) W n ρ d1 d2 P := fun Z T σ H v1 v2 e i1 i2 Q k =>
  ⟨p1, p2, i1.dp e1, i2.dp e2, s1, s2, k _ _ _ H p e (.bl _)⟩
/-- in, not in a list -/
theorem dr_inD {p1 : PyData} {ps : List PyData} (e1 : d1.toP = some p1) (e2 : d2.toP = some (.list ps)) (s1 : SeqAt.shaped p1 = true) (s2 : SeqAt.shaped (.list ps) = true) (p : P n (.bl (ps.any fun z => PyData.eqv z p1))) : DR (rInD K) W n ρ d1 d2 P := fun Z T σ H v1 v2 e i1 i2 Q k =>
  ⟨p1, ps, i1.dp e1, i2.dp e2, s1, s2, k _ _ _ H p e (.bl _)⟩
theorem dr_notInD {p1 : PyData} {ps : List PyData} (e1 : d1.toP = some p1) (e2 : d2.toP = some (.list ps)) (s1 : SeqAt.shaped p1 = true) (s2 : SeqAt.shaped (.list ps) = true) (p : P n (.bl (!ps.any fun z => PyData.eqv z p1))) : DR (rNotInD K) W n ρ d1 d2 P := fun Z T σ H v1 v2 e i1 i2 Q k =>
  ⟨p1, ps, i1.dp e1, i2.dp e2, s1, s2, k _ _ _ H p e (.bl _)⟩
/-- is None -/
def D.isNon : D → Bool
  | .non => true
  | _ => false
theorem isw_isNon (h : IsW X H v d) : decide (v = .non) = d.isNon := by
  rcases h with h | ⟨a, o, rfl, ho, h⟩
  · cases h <;> rfl
  · cases h <;> rfl
theorem dr_isN (p : P n (.bl d1.isNon)) : DR (fun x y H Q => y = .non ∧ Q (.bl (decide (x = .non))) H) W n ρ d1 .non P := fun Z T σ H v1 v2 e i1 i2 Q k => by
  cases isw_non i2
  exact ⟨rfl, by rw [isw_isNon i1]; exact k _ _ _ H p e (.bl _)⟩
theorem dr_notN (p : P n (.bl (!d1.isNon))) : DR (fun x y H Q => y = .non ∧ Q (.bl (!decide (x = .non))) H) W n ρ d1 .non P := fun Z T σ H v1 v2 e i1 i2 Q k => by
  cases isw_non i2
  exact ⟨rfl, by rw [isw_isNon i1]; exact k _ _ _ H p e (.bl _)⟩
theorem dr_isB {a b : Bool} (p : P n (.bl (decide (a = b)))) : DR (fun x y H Q => ∃ a b, x = .bl a ∧ y = .bl b ∧ Q (.bl (decide (a = b))) H) W n ρ (.bl a) (.bl b) P := fun Z T σ H v1 v2 e i1 i2 Q k => by
  cases isw_bl i1; cases isw_bl i2
  exact ⟨a, b, rfl, rfl, k _ _ _ H p e (.bl _)⟩
theorem dr_isnotB {a b : Bool} (p : P n (.bl (!decide (a = b)))) : DR (fun x y H Q => ∃ a b, x = .bl a ∧ y = .bl b ∧ Q (.bl (!decide (a = b))) H) W n ρ (.bl a) (.bl b) P := fun Z T σ H v1 v2 e i1 i2 Q k => by
  cases isw_bl i1; cases isw_bl i2
  exact ⟨a, b, rfl, rfl, k _ _ _ H p e (.bl _)⟩

/-! ### tests -/
theorem dt_test {P : Nat → Bool → Prop} (h : DE te W n ρ fun n d => ∃ b, d = .bl b ∧ P n b) : DT (tTest te) W n ρ P := fun Z T σ H e Q k =>
  h Z T σ H e _ fun n v d H' ⟨b, hb, p⟩ e' i => by subst hb; cases i; exact ⟨b, rfl, k _ b H' p e'⟩
theorem dt_B {P : Nat → Bool → Prop} (h : DE te W n ρ fun n d => ∃ b, d = .bl b ∧ P n b) : DT (tB te) W n ρ P := fun Z T σ H e Q k =>
  h Z T σ H e _ fun n v d H' ⟨b, hb, p⟩ e' i => by subst hb; cases i; exact ⟨b, rfl, k _ b H' p e'⟩
theorem dt_and {P : Nat → Bool → Prop} (h : DT tt W n ρ fun n b => (b = true → DT tu W n ρ P) ∧ (b = false → P n false)) : DT (tAnd tt tu) W n ρ P := fun Z T σ H e Q k =>
  h Z T σ H e _ fun n b H' p e' => by
    cases b with
    | true => exact p.1 rfl Z T σ H' e' Q k
    | false => exact k _ false H' (p.2 rfl) e'
theorem dt_or {P : Nat → Bool → Prop} (h : DT tt W n ρ fun n b => (b = true → P n true) ∧ (b = false → DT tu W n ρ P)) : DT (tOr tt tu) W n ρ P := fun Z T σ H e Q k =>
  h Z T σ H e _ fun n b H' p e' => by
    cases b with
    | true => exact k _ true H' (p.1 rfl) e'
    | false => exact p.2 rfl Z T σ H' e' Q k
theorem dt_not {P : Nat → Bool → Prop} (h : DT tt W n ρ fun n b => P n (!b)) : DT (tNot tt) W n ρ P := fun Z T σ H e Q k => h Z T σ H e _ fun n b H' p e' => k _ (!b) H' p e'
theorem dt_yes {P : Nat → Bool → Prop} (h : P n true) : DT tYes W n ρ P := fun Z T σ H e Q k => k _ true H h e
theorem de_andV (h : DE ta W n ρ fun n d => ∃ b, d = .bl b ∧ (b = true → DE tb W n ρ P) ∧ (b = false → P n (.bl false))) : DE (tAndV ta tb) W n ρ P := fun Z T σ H e Q k =>
  h Z T σ H e _ fun n v d H' ⟨b, hb, p⟩ e' i => by
    subst hb; cases i
    refine ⟨b, rfl, ?_⟩
    cases b with
    | true => exact p.1 rfl Z T σ H' e' Q k
    | false => exact k _ _ _ H' (p.2 rfl) e' (.bl false)
theorem de_orV (h : DE ta W n ρ fun n d => ∃ b, d = .bl b ∧ (b = true → P n (.bl true)) ∧ (b = false → DE tb W n ρ P)) : DE (tOrV ta tb) W n ρ P := fun Z T σ H e Q k =>
  h Z T σ H e _ fun n v d H' ⟨b, hb, p⟩ e' i => by
    subst hb; cases i
    refine ⟨b, rfl, ?_⟩
    cases b with
    | true => exact k _ _ _ H' (p.1 rfl) e' (.bl true)
    | false => exact p.2 rfl Z T σ H' e' Q k
theorem de_notV (h : DE ta W n ρ fun n d => ∃ b, d = .bl b ∧ P n (.bl (!b))) : DE (tNotV ta) W n ρ P := fun Z T σ H e Q k =>
  h Z T σ H e _ fun n v d H' ⟨b, hb, p⟩ e' i => by subst hb; cases i; exact ⟨b, rfl, k _ _ _ H' p e' (.bl _)⟩
theorem de_if (h : DT tt W n ρ fun n b => (b = true → DE ta W n ρ P) ∧ (b = false → DE tb W n ρ P)) : DE (tIf tt ta tb) W n ρ P := fun Z T σ H e Q k =>
  h Z T σ H e _ fun n b H' p e' => by
    cases b with
    | true => exact p.1 rfl Z T σ H' e' Q k
    | false => exact p.2 rfl Z T σ H' e' Q k
theorem df_if (h : DT tt W n ρ fun n b => (b = true → DF ta W n ρ P) ∧ (b = false → DF tb W n ρ P)) : DF (tIf tt ta tb) W n ρ P := fun Z T σ H e Q k =>
  h Z T σ H e _ fun n b H' p e' => by
    cases b with
    | true => exact p.1 rfl Z T σ H' e' Q k
    | false => exact p.2 rfl Z T σ H' e' Q k
theorem de_chain (h : DE ta W n ρ fun n d1 => DE tb W n ρ fun n d2 => DR r W n ρ d1 d2 fun n z => ∃ b, z = .bl b ∧ (b = true → DE tc W n ρ fun n d3 => DR r' W n ρ d2 d3 P) ∧ (b = false → P n (.bl false))) : DE (tChain r r' ta tb tc) W n ρ P := fun Z T σ H e Q k =>
  h Z T σ H e _ fun n v1 d1 H1 p1 e1 i1 => p1 Z ((v1, d1) :: T) σ H1 (e1.push i1) _ fun n v2 d2 H2 p2 e2 i2 => p2 Z ((v2, d2) :: T) σ H2 v1 v2 (e2.pop1.push i2) (.inl e2.top) (.inl i2) _ fun n v3 d3 H3 ⟨b, hb, p⟩ e3 i3 => by
    subst hb; cases i3
    refine ⟨b, rfl, ?_⟩
    cases b with
    | true => exact p.1 rfl Z ((v2, d2) :: T) σ H3 e3 _ fun n v4 d4 H4 p4 e4 i4 => p4 Z T σ H4 v2 v4 e4.pop1 (.inl e4.top) (.inl i4) Q k
    | false => exact k _ _ _ H3 (p.2 rfl) e3.pop1 (.bl false)

/-! ### arguments, displays -/
theorem da_nil {P : Nat → List D → Prop} (p : P n []) : DA tNil W n ρ P := fun Z T σ H e Q k => k _ [] [] H p e .nil
theorem da_cons {tr : TA} {P : Nat → List D → Prop} (h : DE ta W n ρ fun n d => DA tr W n ρ fun n ds => P n (d :: ds)) : DA (tCons ta tr) W n ρ P := fun Z T σ H e Q k =>
  h Z T σ H e _ fun n v d H1 p1 e1 i1 => p1 Z ((v, d) :: T) σ H1 (e1.push i1) _ fun n vs ds H2 p2 e2 i2 => k _ (v :: vs) (d :: ds) H2 p2 e2.pop1 (.cons e2.top i2)
theorem de_tup {ta : TA} (h : DA ta W n ρ fun n ds => ds.length ≤ sizeLine ∧ P n (.tup ds)) : DE (tTup ta) W n ρ P := fun Z T σ H e Q k =>
  h Z T σ H e _ fun n vs ds H1 p1 e1 i1 => ⟨by rw [i1.len]; exact p1.1, fun p hp => by
    have e2 := e1.lay (o := .tup vs) hp
    refine k _ _ _ _ p1.2 e2.zpop (.tup e2.zmv.2 upd_same (i1.mv (fun a u q hx => ⟨by rw [upd_ne (ne_of_none q hp)]; exact q, hx⟩) _))⟩
theorem lay_mv {p : Addr} {o : HO} (e : Env W n Z T ρ σ H) (hp : H p = none) : Mv (XX W Z ρ σ) H (XX W ((p, o) :: Z) ρ σ) (upd H p o) := fun a u q hx => by
  have ne : a ≠ p := ne_of_none q hp
  refine ⟨by rw [upd_ne ne]; exact q, fun x => hx ?_⟩
  rcases x with x | x | ⟨u', x⟩
  · exact .inl x
  · exact .inr (.inl x)
  · rcases List.mem_cons.mp x with y | y
    · cases y; exact absurd rfl ne
    · exact .inr (.inr ⟨u', y⟩)
theorem df_lst {ta : TA} (h : DA ta W n ρ fun n ds => ds.length ≤ sizeLine ∧ P n (.lst ds)) : DF (tLst ta) W n ρ P := fun Z T σ H e Q k =>
  h Z T σ H e _ fun n vs ds H1 p1 e1 i1 => ⟨by rw [i1.len]; exact p1.1, fun p hp => k _ p _ _ _ p1.2 (e1.lay hp) (.lst (i1.mv (lay_mv e1 hp) _))⟩
theorem df_dnew (p : P n (.dic [] [])) : DF tDNewK W n ρ P := fun Z T σ H e Q k => fun a ha => k _ a _ _ _ p (e.lay ha) (.dic rfl .nil)

/-! ### calls by values -/
theorem de_cb {ta : TA} {r : List V → Hp → VK → Prop} (h : DA ta W n ρ fun n ds => DC r W n ρ ds P) : DE (tCB r ta) W n ρ P := fun Z T σ H e Q k =>
  h Z T σ H e _ fun n vs ds H1 p1 e1 i1 => p1 Z T σ H1 vs e1 i1.ws Q k
theorem df_cb {ta : TA} {r : List V → Hp → VK → Prop} (h : DA ta W n ρ fun n ds => DCF r W n ρ ds P) : DF (tCB r ta) W n ρ P := fun Z T σ H e Q k =>
  h Z T σ H e _ fun n vs ds H1 p1 e1 i1 => p1 Z T σ H1 vs e1 i1.ws Q k
/-- of a slot's own object -/
theorem de_cb_o {i : Nat} {r : List V → Hp → VK → Prop} (h1 : ρ[i]? = some (some (true, d))) (h : DC r W n ρ [d] P) : DE (tCB r (tCons (tVar i) tNil)) W n ρ P := fun Z T σ H e Q k => by
  obtain ⟨v, q, w'⟩ := e.own_w h1
  exact ⟨v, q, h Z T σ H [v] e (.cons w' .nil) Q k⟩
theorem df_cb_o {i : Nat} {r : List V → Hp → VK → Prop} (h1 : ρ[i]? = some (some (true, d))) (h : DCF r W n ρ [d] P) : DF (tCB r (tCons (tVar i) tNil)) W n ρ P := fun Z T σ H e Q k => by
  obtain ⟨v, q, w'⟩ := e.own_w h1
  exact ⟨v, q, h Z T σ H [v] e (.cons w' .nil) Q k⟩
/-! ### slices -/
theorem do_none {P : Nat → Option Int → Prop} (p : P n none) : DO tNoPart W n ρ P := fun Z T σ H e Q k => k _ none H p e
theorem do_some {P : Nat → Option Int → Prop} (h : DE te W n ρ fun n d => ∃ i, d = .int i ∧ P n (some i)) : DO (tPart te) W n ρ P := fun Z T σ H e Q k =>
  h Z T σ H e _ fun n v d H' ⟨b, hb, p⟩ e' i => by subst hb; cases i; exact ⟨b, rfl, k _ _ H' p e'⟩
theorem de_sl {tl th : TO} {r : V → Option Int → Option Int → Hp → VK → Prop} (h : DE ta W n ρ fun n d1 => DO tl W n ρ fun n lo => DO th W n ρ fun n hi => DSl r W n ρ d1 lo hi P) : DE (tSl r ta tl th) W n ρ P := fun Z T σ H e Q k =>
  h Z T σ H e _ fun n v1 d1 H1 p1 e1 i1 => p1 Z ((v1, d1) :: T) σ H1 (e1.push i1) _ fun n lo H2 p2 e2 => p2 Z ((v1, d1) :: T) σ H2 e2 _ fun n hi H3 p3 e3 => p3 Z T σ H3 v1 e3.pop1 (.inl e3.top) Q k
end
end HD

namespace HD
open PySem PySem.Spec PyProof.Rows L2

/-! ### statements -/
structure Fin (W : Wd) (Z : ZL) (T : TL) (De : Ends) (N : Nat → Rho → Prop) (R : Nat → Bool → D → Prop) (B C : Nat → Rho → Prop) : Prop where
  nx : ∀ n ρ σ H, N n ρ → Env W n Z T ρ σ H → De.nx σ H
  rt : ∀ n v d H, R n false d → Frm W.V W.H0 H → W.G n H → Is W.X0 H v d → De.rt v H
  rf : ∀ n a o d H, R n true d → Frm W.V W.H0 H → W.G n H → W.H0 a = none → H a = some o → Ob (fun b => W.X0 b ∨ b = a) H o d → De.rt (.ref a) H
  bk : ∀ n ρ σ H, B n ρ → Env W n Z T ρ σ H → De.bk σ H
  ct : ∀ n ρ σ H, C n ρ → Env W n Z T ρ σ H → De.ct σ H
def DS (t : TS) (W : Wd) (n : Nat) (ρ : Rho) (N : Nat → Rho → Prop) (R : Nat → Bool → D → Prop) (B C : Nat → Rho → Prop) : Prop :=
  ∀ (Z : ZL) (T : TL) (σ : L2.St) (H : Hp), Env W n Z T ρ σ H → ∀ De : Ends, Fin W Z T De N R B C → t De σ H

section
variable {W : Wd} {n : Nat} {Z : ZL} {T : TL} {ρ : Rho} {σ : L2.St} {H : Hp} {N N' : Nat → Rho → Prop} {R : Nat → Bool → D → Prop} {B C : Nat → Rho → Prop} {t u : TS} {te ta tb : TE} {tt : TT} {d : D} {K : PySem.W.Frag}
theorem Env.x0 (e : Env W n Z T ρ σ H) : Mv (XX W Z ρ σ) H W.X0 H := fun a o q hx => ⟨q, fun x => hx (.inl x)⟩
theorem DS.imp (h : DS t W n ρ N R B C) (k : ∀ n ρ, N n ρ → N' n ρ) : DS t W n ρ N' R B C := fun Z T σ H e De f => h Z T σ H e De ⟨fun n ρ σ H q => f.nx n ρ σ H (k n ρ q), f.rt, f.rf, f.bk, f.ct⟩
theorem ds_next (q : N n ρ) : DS tNext W n ρ N R B C := fun Z T σ H e De f => f.nx n ρ σ H q e
theorem ds_break (q : B n ρ) : DS tBreak W n ρ N R B C := fun Z T σ H e De f => f.bk n ρ σ H q e
theorem ds_cont (q : C n ρ) : DS tCont W n ρ N R B C := fun Z T σ H e De f => f.ct n ρ σ H q e
theorem ds_seq (h : DS t W n ρ (fun n ρ' => DS u W n ρ' N R B C) R B C) : DS (tSeq t u) W n ρ N R B C := fun Z T σ H e De f =>
  h Z T σ H e _ ⟨fun n ρ' σ' H' q e' => q Z T σ' H' e' De f, f.rt, f.rf, f.bk, f.ct⟩
/-- behind t the state is told by M -/
theorem ds_cut (M : Nat → Rho → Prop) (h : DS t W n ρ M R B C) (k : ∀ n ρ', M n ρ' → DS u W n ρ' N R B C) : DS (tSeq t u) W n ρ N R B C := ds_seq (h.imp k)
theorem ds_drop (h : DE te W n ρ fun n _ => N n ρ) : DS (tDrop te) W n ρ N R B C := fun Z T σ H e De f => h Z T σ H e _ fun n v d H' p e' _ => f.nx n ρ σ H' p e'
theorem ds_ret (h : DE te W n ρ fun n d => R n false d) : DS (tRet te) W n ρ N R B C := fun Z T σ H e De f => h Z T σ H e _ fun n v d H' p e' i => f.rt n v d H' p e'.fr e'.g (i.mv e'.x0 _)
theorem ds_retF (h : DF te W n ρ fun n d => R n true d) : DS (tRet te) W n ρ N R B C := fun Z T σ H e De f => h Z T σ H e _ fun n a o d H' p e' i => by
  have z := e'.z (a, o) List.mem_cons_self
  refine f.rf n a o d H' p e'.fr e'.g z.2 z.1 (i.mv fun b u q hx => ⟨q, fun x => hx ?_⟩)
  rcases x with x | x
  · exact .inl x
  · exact .inr (.inr ⟨o, by rw [x]; exact List.mem_cons_self⟩)
theorem ds_ret_own {i : Nat} (h : ρ[i]? = some (some (true, d))) (r : R n true d) : DS (tRet (tVar i)) W n ρ N R B C := fun Z T σ H e De f => by
  obtain ⟨a, o, h1, h2, h3, h4, h5⟩ := e.ow i d h
  refine ⟨.ref a, h1, f.rf n a o d H r e.fr e.g h4 h2 (h3.mv fun b u q hx => ⟨q, fun x => hx ?_⟩)⟩
  rcases x with x | x
  · exact .inl x
  · exact .inr (.inl ⟨i, d, h, by rw [x]; exact h1⟩)
theorem ds_retN (r : R n false .non) : DS tRetN W n ρ N R B C := fun Z T σ H e De f => f.rt n .non .non H r e.fr e.g .non
theorem ds_if (h : DT tt W n ρ fun n b => (b = true → DS t W n ρ N R B C) ∧ (b = false → DS u W n ρ N R B C)) : DS (tIfS tt t u) W n ρ N R B C := fun Z T σ H e De f =>
  h Z T σ H e _ fun n b H' p e' => by
    cases b with
    | true => exact p.1 rfl Z T σ H' e' De f
    | false => exact p.2 rfl Z T σ H' e' De f
/-- an own object is read only from now on; a slot forgotten -/
theorem ds_freeze {i : Nat} (h : ρ[i]? = some (some (true, d))) (k : DS t W n (ρ.set i (some (false, d))) N R B C) : DS t W n ρ N R B C := fun Z T σ H e De f => k Z T σ H (e.freeze h) De f
theorem ds_forget (i : Nat) (k : DS t W n (ρ.set i none) N R B C) : DS t W n ρ N R B C := fun Z T σ H e De f => k Z T σ H (e.forget i) De f

/-! ### targets -/
def Agree (S : List Nat) (ρ ρ' : Rho) (σ σ' : L2.St) : Prop := σ'.length = σ.length ∧ ρ'.length = ρ.length ∧ (∀ i, i ∉ S → σ'[i]? = σ[i]? ∧ ρ'[i]? = ρ[i]?) ∧ ∀ (i : Nat) (d : D), i ∈ S → ρ'[i]? ≠ some (some (true, d))
def DG (g : TG) (S : List Nat) (d : D) (W : Wd) (ρ : Rho) (P : Rho → Prop) : Prop := ∀ (n : Nat) (Z : ZL) (T : TL) (σ : L2.St) (H : Hp) (v : V), Env W n Z T ρ σ H → Is (XX W Z ρ σ) H v d → ∀ Q : L2.St → Hp → Prop, (∀ (ρ' : Rho) (σ' : L2.St), P ρ' → Env W n Z T ρ' σ' H → Agree S ρ ρ' σ σ' → Q σ' H) → g v σ H Q
def DGs (g : TGs) (S : List Nat) (ds : List D) (W : Wd) (ρ : Rho) (P : Rho → Prop) : Prop := ∀ (n : Nat) (Z : ZL) (T : TL) (σ : L2.St) (H : Hp) (vs : List V), Env W n Z T ρ σ H → IsAll (XX W Z ρ σ) H vs ds → ∀ Q : L2.St → Hp → Prop, (∀ (ρ' : Rho) (σ' : L2.St), P ρ' → Env W n Z T ρ' σ' H → Agree S ρ ρ' σ σ' → Q σ' H) → g vs σ H Q
theorem dg_name {i : Nat} {P : Rho → Prop} (p : P (ρ.set i (some (false, d)))) : DG (gName i) [i] d W ρ P := fun n Z T σ H v e iv Q k =>
  k _ _ p (e.set iv) ⟨List.length_set, List.length_set, fun j hj => by
    have ne : i ≠ j := fun z => hj (by rw [z]; exact List.mem_cons_self)
    exact ⟨List.getElem?_set_ne ne, List.getElem?_set_ne ne⟩, fun j d' hj q => by
    have e1 : j = i := by simpa using hj
    subst e1
    rcases set_get q with ⟨_, z, _⟩ | ⟨ne, _⟩
    · cases z
    · exact ne rfl⟩
theorem dgs_nil {P : Rho → Prop} (p : P ρ) : DGs gNil [] [] W ρ P := fun n Z T σ H vs e i Q k => by
  cases i
  exact ⟨rfl, k ρ σ p e ⟨rfl, rfl, fun _ _ => ⟨rfl, rfl⟩, fun _ _ h => nomatch h⟩⟩
theorem dgs_cons {g : TG} {gs : TGs} {S S' : List Nat} {ds : List D} {P : Rho → Prop} (h : DG g S d W ρ fun ρ' => DGs gs S' ds W ρ' P) : DGs (gCons g gs) (S ++ S') (d :: ds) W ρ P := fun n Z T σ H vs e i Q k => by
  cases i with
  | @cons v vr _ _ hd tl =>
    have hl : vr.length = ds.length := tl.len
    refine ⟨v, vr, rfl, h n Z (zipT vr ds ++ T) σ H v (e.pushAll tl) hd _ fun ρ' σ' p e' a => ?_⟩
    refine p n Z T σ' H vr e'.popAll (e'.topAll hl) Q fun ρ2 σ2 p2 e2 a2 => k ρ2 σ2 p2 e2 ⟨a2.1.trans a.1, a2.2.1.trans a.2.1, fun j hj => ?_, fun j d' hj => ?_⟩
    · have h1 : j ∉ S := fun z => hj (List.mem_append_left _ z)
      have h2 : j ∉ S' := fun z => hj (List.mem_append_right _ z)
      exact ⟨(a2.2.2.1 j h2).1.trans (a.2.2.1 j h1).1, (a2.2.2.1 j h2).2.trans (a.2.2.1 j h1).2⟩
    · by_cases h2 : j ∈ S'
      · exact a2.2.2.2 j d' h2
      · rw [(a2.2.2.1 j h2).2]
        rcases List.mem_append.mp hj with h1 | h1
        · exact a.2.2.2 j d' h1
        · exact absurd h1 h2
theorem dg_tup {m : Nat} {gs : TGs} {S : List Nat} {ds : List D} {P : Rho → Prop} (hn : ds.length = m) (h : DGs gs S ds W ρ P) : DG (gTup K m gs) S (.tup ds) W ρ P := fun n Z T σ H v e i Q k => by
  cases i with
  | tup hx hr ha => exact ⟨_, _, rfl, .of hr, by rw [ha.len]; exact hn, h n Z T σ H _ e ha Q k⟩
theorem ds_asg {g : TG} {S : List Nat} (h : DE te W n ρ fun n d => DG g S d W ρ (N n)) : DS (tAsg te g) W n ρ N R B C := fun Z T σ H e De f =>
  h Z T σ H e _ fun n v d H' p e' i => p n Z T σ H' v e' i _ fun ρ' σ' q e2 _ => f.nx n ρ' σ' H' q e2
/-- x = e, plain -/
theorem ds_set {i : Nat} (h : DE te W n ρ fun n d => N n (ρ.set i (some (false, d)))) : DS (tAsg te (gName i)) W n ρ N R B C := ds_asg (h.imp fun n d p => dg_name p)
/-- x = a new object of its own -/
theorem ds_own {i : Nat} (h : DF te W n ρ fun n d => N n (ρ.set i (some (true, d)))) : DS (tAsg te (gName i)) W n ρ N R B C := fun Z T σ H e De f =>
  h Z T σ H e _ fun n a o d H' p e' ho => f.nx _ _ _ H' p (e'.take ho)
theorem ds_par {i j : Nat} {tas : TA} (h : DA tas W n ρ fun n ds => ∃ d1 d2, ds = [d1, d2] ∧ N n ((ρ.set i (some (false, d1))).set j (some (false, d2)))) : DS (tPar i j tas) W n ρ N R B C := fun Z T σ H e De f =>
  h Z T σ H e _ fun n vs ds H' ⟨d1, d2, e1, p⟩ e' ia => by
    subst e1
    cases ia with
    | cons h1 t =>
      cases t with
      | cons h2 t =>
        cases t
        rename_i v1 v2
        have e2 : Env W n Z ((v2, d2) :: T) _ _ H' := (e'.push h2).set h1 (i := i)
        have e3 := e2.set (i := j) e2.top
        exact ⟨v1, v2, rfl, f.nx _ _ _ H' p e3.pop1⟩

/-! ### loops -/
/-- what an iterator gives: the data ds one by one; T0 is what it leans on -/
def ItOk (W : Wd) (T0 : TL) (J : It) (ds : List D) : Prop := ∀ (n : Nat) (Z : ZL) (T : TL) (ρ : Rho) (σ : L2.St) (H : Hp), (∀ p, p ∈ T0 → p ∈ T) → Env W n Z T ρ σ H → ∀ i : Nat,
  (i < ds.length → J.go i H ∧ ∀ x H', J.yld i H x H' → ∃ d, ds[i]? = some d ∧ Env W n Z ((x, d) :: T) ρ σ H') ∧ (ds.length ≤ i → J.stop i H)
def DI (wi : TI) (W : Wd) (n : Nat) (ρ : Rho) (P : Nat → List D → Prop) : Prop := ∀ (Z : ZL) (T : TL) (σ : L2.St) (H : Hp), Env W n Z T ρ σ H → ∀ Q : It → Hp → Prop, (∀ (n : Nat) (J : It) (ds : List D) (T0 : TL) (H' : Hp), P n ds → Env W n Z (T0 ++ T) ρ σ H' → ItOk W T0 J ds → Q J H') → wi σ H Q
theorem ds_for {wi : TI} {g : TG} {S : List Nat} (h : DI wi W n ρ fun n ds => ∃ Inv : Nat → Nat → Rho → Prop, Inv 0 n ρ ∧ (∀ i n d ρ', ds[i]? = some d → Inv i n ρ' → DG g S d W ρ' fun ρ2 => DS t W n ρ2 (Inv (i + 1)) R N (Inv (i + 1))) ∧ ∀ n ρ', Inv ds.length n ρ' → N n ρ') :
    DS (tFor wi g t) W n ρ N R B C := fun Z T σ H e De f =>
  h Z T σ H e _ fun n J ds T0 H' ⟨Iv, h0, hs, hd⟩ e' ok => by
    refine ⟨fun i m σ H => m = ds.length - i ∧ i ≤ ds.length ∧ ∃ n ρ', Iv i n ρ' ∧ Env W n Z (T0 ++ T) ρ' σ H, ⟨_, rfl, Nat.zero_le _, n, ρ, h0, e'⟩, ?_⟩
    rintro i m σ' H2 ⟨rfl, hi, n, ρ', hI, e2⟩
    have o := ok n Z (T0 ++ T) ρ' σ' H2 (fun p hp => List.mem_append_left _ hp) e2 i
    by_cases hlt : i < ds.length
    · refine .inr ⟨(o.1 hlt).1, fun σ3 H3 => ∃ n ρ3, Iv (i + 1) n ρ3 ∧ Env W n Z (T0 ++ T) ρ3 σ3 H3, fun σ3 H3 ⟨n, ρ3, h3, e3⟩ => ⟨ds.length - (i + 1), by omega, rfl, hlt, n, ρ3, h3, e3⟩, fun x H3 y => ?_⟩
      obtain ⟨d, hd', e3⟩ := (o.1 hlt).2 x H3 y
      refine hs i n d ρ' hd' hI n Z (T0 ++ T) σ' H3 x e3.pop1 e3.top _ fun ρ4 σ4 p4 e4 _ => ?_
      exact p4 Z (T0 ++ T) σ4 H3 e4 _ ⟨fun n ρ5 σ5 H5 n5 e5 => ⟨n, ρ5, n5, e5⟩, f.rt, f.rf, fun n ρ5 σ5 H5 n5 e5 => f.nx n ρ5 σ5 H5 n5 e5.popAll, fun n ρ5 σ5 H5 n5 e5 => ⟨n, ρ5, n5, e5⟩⟩
    · have e1 : i = ds.length := by omega
      subst e1
      exact .inl ⟨o.2 (Nat.le_refl _), f.nx n ρ' σ' H2 (hd n ρ' hI) e2.popAll⟩
theorem ds_while (Inv : Nat → Nat → Rho → Prop) (m0 : Nat) (h0 : Inv m0 n ρ) (hs : ∀ m n ρ', Inv m n ρ' → DT tt W n ρ' fun n b => (b = true → DS t W n ρ' (fun n r => ∃ m', m' < m ∧ Inv m' n r) R N (fun n r => ∃ m', m' < m ∧ Inv m' n r)) ∧ (b = false → N n ρ')) :
    DS (tWhile tt t) W n ρ N R B C := fun Z T σ H e De f => by
  refine ⟨fun m σ H => ∃ n ρ', Inv m n ρ' ∧ Env W n Z T ρ' σ H, ⟨m0, n, ρ, h0, e⟩, ?_⟩
  rintro m σ' H' ⟨n, ρ', hI, e'⟩
  refine hs m n ρ' hI Z T σ' H' e' _ fun n b H2 p e2 => ?_
  cases b with
  | false => exact f.nx n ρ' σ' H2 (p.2 rfl) e2
  | true =>
    refine ⟨fun σ3 H3 => ∃ m', m' < m ∧ ∃ n ρ3, Inv m' n ρ3 ∧ Env W n Z T ρ3 σ3 H3, fun σ3 H3 ⟨m', hm, q⟩ => ⟨m', hm, q⟩, ?_⟩
    exact p.1 rfl Z T σ' H2 e2 _ ⟨fun n ρ5 σ5 H5 ⟨m', hm, n5⟩ e5 => ⟨m', hm, n, ρ5, n5, e5⟩, f.rt, f.rf, f.nx, fun n ρ5 σ5 H5 ⟨m', hm, n5⟩ e5 => ⟨m', hm, n, ρ5, n5, e5⟩⟩

/-! ### what is walked -/
theorem di_list {tl : TE} {P : Nat → List D → Prop} (h : DE tl W n ρ fun n d => ∃ ds, d = .lst ds ∧ P n ds) : DI (iList K tl) W n ρ P := fun Z T σ H e Q k =>
  h Z T σ H e _ fun n v d H' ⟨ds, hd, p⟩ e' i => by
    subst hd
    have e1 : Env W n Z ([(v, .lst ds)] ++ T) ρ σ H' := e'.push i
    cases i with
    | @lst a xs _ hx hr ha =>
      refine ⟨a, rfl, ⟨xs, .of hr⟩, k _ _ ds [(.ref a, .lst ds)] H' p e1 fun n Z T ρ σ H hT e i => ?_⟩
      have q := e.t (.ref a, .lst ds) (hT _ List.mem_cons_self)
      cases q with
      | @lst _ ys _ hx2 hr2 ha2 =>
        have hl := ha2.len
        refine ⟨fun hi => ⟨⟨ys, ys[i]'(by omega), .of hr2, by simp [hl, hi]⟩, fun x H' ⟨eh, y⟩ => ?_⟩, fun hi => ⟨ys, .of hr2, by omega⟩⟩
        subst eh
        obtain ⟨d, h1, h2⟩ := ha2.get (y ys (.of hr2))
        exact ⟨d, h1, e.push h2⟩
theorem di_tup {tl : TE} {P : Nat → List D → Prop} (h : DE tl W n ρ fun n d => ∃ ds, d = .tup ds ∧ P n ds) : DI (iTup K tl) W n ρ P := fun Z T σ H e Q k =>
  h Z T σ H e _ fun n v d H' ⟨ds, hd, p⟩ e' i => by
    subst hd
    have e1 : Env W n Z ([(v, .tup ds)] ++ T) ρ σ H' := e'.push i
    cases i with
    | @tup a xs _ hx hr ha =>
      refine ⟨a, rfl, ⟨xs, .of hr⟩, k _ _ ds [(.ref a, .tup ds)] H' p e1 fun n Z T ρ σ H hT e i => ?_⟩
      have q := e.t (.ref a, .tup ds) (hT _ List.mem_cons_self)
      cases q with
      | @tup _ ys _ hx2 hr2 ha2 =>
        have hl := ha2.len
        refine ⟨fun hi => ⟨⟨ys, ys[i]'(by omega), .of hr2, by simp [hl, hi]⟩, fun x H' ⟨eh, y⟩ => ?_⟩, fun hi => ⟨ys, .of hr2, by omega⟩⟩
        subst eh
        obtain ⟨d, h1, h2⟩ := ha2.get (y ys (.of hr2))
        exact ⟨d, h1, e.push h2⟩
/-- lo, lo + 1, .. -/
def upTo (lo : Int) (n : Nat) : List D := (List.range n).map fun (i : Nat) => D.int (lo + (i : Int))
theorem upTo_get {lo : Int} {n i : Nat} (h : i < n) : (upTo lo n)[i]? = some (.int (lo + i)) := by
  unfold upTo
  rw [List.getElem?_map, List.getElem?_range h]; rfl
theorem upTo_len {lo : Int} {n : Nat} : (upTo lo n).length = n := by unfold upTo; rw [List.length_map, List.length_range]
theorem it_range {lo : Int} {n : Nat} : ItOk W [] (Itr lo n) (upTo lo n) := fun n Z T ρ σ H hT e i => by
  rw [upTo_len]
  exact ⟨fun hi => ⟨hi, fun x H' ⟨eh, y⟩ => by subst eh; subst y; exact ⟨_, upTo_get hi, e.push (.int _)⟩⟩, fun hi => hi⟩
theorem di_range1 {tas : TA} {P : Nat → List D → Prop} (h : DA tas W n ρ fun n ds => ∃ j : Int, ds = [.int j] ∧ -(2 ^ 62) ≤ j ∧ j < 2 ^ 62 ∧ P n (upTo 0 j.toNat)) : DI (iRng1 tas) W n ρ P := fun Z T σ H e Q k =>
  h Z T σ H e _ fun n vs ds H' ⟨j, hd, h1, h2, p⟩ e' i => by
    subst hd
    cases i with
    | cons hi t => cases t; cases hi; exact ⟨j, rfl, h1, h2, k _ _ _ [] H' p e' it_range⟩
theorem di_range2 {tas : TA} {P : Nat → List D → Prop} (h : DA tas W n ρ fun n ds => ∃ i j : Int, ds = [.int i, .int j] ∧ (-(2 ^ 62) ≤ i ∧ i < 2 ^ 62 ∧ -(2 ^ 62) ≤ j ∧ j < 2 ^ 62) ∧ P n (upTo i (j - i).toNat)) : DI (iRng2 tas) W n ρ P := fun Z T σ H e Q k =>
  h Z T σ H e _ fun n vs ds H' ⟨i, j, hd, h1, p⟩ e' ia => by
    subst hd
    cases ia with
    | cons hi t => cases t with
      | cons hj t => cases t; cases hi; cases hj; exact ⟨i, j, rfl, h1, k _ _ _ [] H' p e' it_range⟩
/-- pairs with their places -/
def numb (ds : List D) : List D := (List.range ds.length).map fun (i : Nat) => D.tup [.int (i : Nat), ds.getD i .non]
theorem numb_len {ds : List D} : (numb ds).length = ds.length := by unfold numb; rw [List.length_map, List.length_range]
theorem numb_get {ds : List D} {i : Nat} {d : D} (h : ds[i]? = some d) : (numb ds)[i]? = some (.tup [.int (i : Nat), d]) := by
  have hi : i < ds.length := (List.getElem?_eq_some_iff.mp h).1
  unfold numb
  rw [List.getElem?_map, List.getElem?_range hi]
  show some (D.tup [.int (i : Nat), ds.getD i .non]) = _
  rw [List.getD_eq_getElem?_getD, h]; rfl
theorem di_enum {tas : TA} {P : Nat → List D → Prop} (h : DA tas W n ρ fun n ds => ∃ es, ds = [.lst es] ∧ P n (numb es)) : DI (iEnum K tas) W n ρ P := fun Z T σ H e Q k =>
  h Z T σ H e _ fun n vs ds H' ⟨es, hd, p⟩ e' ia => by
    subst hd
    cases ia with
    | @cons v _ _ _ hi t =>
      cases t
      have e1 : Env W n Z ([(v, .lst es)] ++ T) ρ σ H' := e'.push hi
      cases hi with
      | @lst a xs _ hx hr ha =>
        refine ⟨a, xs, rfl, .of hr, k _ _ _ [(.ref a, .lst es)] H' p e1 fun n Z T ρ σ H hT e i => ?_⟩
        have q := e.t (.ref a, .lst es) (hT _ List.mem_cons_self)
        cases q with
        | @lst _ ys _ hx2 hr2 ha2 =>
          have hl := ha2.len
          rw [numb_len]
          refine ⟨fun hi => ⟨⟨ys, ys[i]'(by omega), .of hr2, by simp [hl, hi]⟩, fun x H' ⟨Tt, x', ev, hn, eh, y⟩ => ?_⟩, fun hi => ⟨ys, .of hr2, by omega⟩⟩
          subst eh ev
          obtain ⟨d, h1, h2⟩ := ha2.get (y ys (.of hr2))
          have e2 := e.lay (o := .tup [.int (i : Nat), x']) hn
          have h3 := h2.mv (lay_mv (o := .tup [.int (i : Nat), x']) e hn)
          exact ⟨_, numb_get h1, e2.zpop.push (.tup e2.zmv.2 upd_same (.cons (.int _) (.cons (h3.mv e2.zmv.1) .nil)))⟩
theorem zip_get {es fs : List D} {i : Nat} {d f : D} (h1 : es[i]? = some d) (h2 : fs[i]? = some f) : (List.zipWith (fun a b => D.tup [a, b]) es fs)[i]? = some (.tup [d, f]) := by
  rw [List.getElem?_zipWith, h1, h2]
theorem di_zip {tas : TA} {P : Nat → List D → Prop} (h : DA tas W n ρ fun n ds => ∃ es fs, ds = [.lst es, .lst fs] ∧ P n (List.zipWith (fun a b => D.tup [a, b]) es fs)) : DI (iZip K tas) W n ρ P := fun Z T σ H e Q k =>
  h Z T σ H e _ fun n vs ds H' ⟨es, fs, hd, p⟩ e' ia => by
    subst hd
    cases ia with
    | @cons v _ _ _ hi t =>
      cases t with
      | @cons w _ _ _ hj t =>
        cases t
        have e1 : Env W n Z ([(v, .lst es), (w, .lst fs)] ++ T) ρ σ H' := (e'.push hj).push hi
        cases hi with
        | @lst a xs _ hx hr ha =>
          cases hj with
          | @lst b zs _ hx' hr' ha' =>
            refine ⟨a, b, xs, zs, rfl, .of hr, .of hr', k _ _ _ [(.ref a, .lst es), (.ref b, .lst fs)] H' p e1 fun n Z T ρ σ H hT e i => ?_⟩
            have q := e.t (.ref a, .lst es) (hT _ List.mem_cons_self)
            have q' := e.t (.ref b, .lst fs) (hT _ (List.mem_cons_of_mem _ List.mem_cons_self))
            cases q with
            | @lst _ ys _ hx2 hr2 ha2 =>
              cases q' with
              | @lst _ ws _ hx3 hr3 ha3 =>
                have hl := ha2.len
                have hl' := ha3.len
                rw [List.length_zipWith]
                refine ⟨fun hi => ⟨⟨ys, ws, ys[i]'(by omega), ws[i]'(by omega), .of hr2, .of hr3, by simp, by simp⟩, fun x H' ⟨Tt, x', y', ev, hn, eh, y, z⟩ => ?_⟩, fun hi => ⟨ys, ws, .of hr2, .of hr3, by omega⟩⟩
                subst eh ev
                obtain ⟨d, h1, h2⟩ := ha2.get (y ys (.of hr2))
                obtain ⟨d', h1', h2'⟩ := ha3.get (z ws (.of hr3))
                have e2 := e.lay (o := .tup [x', y']) hn
                have h3 := h2.mv (lay_mv (o := .tup [x', y']) e hn)
                have h3' := h2'.mv (lay_mv (o := .tup [x', y']) e hn)
                exact ⟨_, zip_get h1 h1', e2.zpop.push (.tup e2.zmv.2 upd_same (.cons (h3.mv e2.zmv.1) (.cons (h3'.mv e2.zmv.1) .nil)))⟩

/-! ### comprehensions -/
def wipeR (ρ : Rho) : List Nat → Rho
  | [] => ρ
  | v :: vs => (wipeR ρ vs).set v none
def NoOwn (ρ : Rho) (vs : List Nat) : Prop := ∀ (i : Nat) (d : D), i ∈ vs → ρ[i]? ≠ some (some (true, d))
theorem own_back1 {i : Nat} (hn : ∀ d, ρ[i]? ≠ some (some (true, d))) {a : Addr} (h : Own ρ σ a) : Own (ρ.set i none) (σ.set i none) a := by
  obtain ⟨j, d, h1, h2⟩ := h
  have ne : i ≠ j := fun z => hn d (by rw [z]; exact h1)
  exact ⟨j, d, by rw [List.getElem?_set_ne ne]; exact h1, by rw [List.getElem?_set_ne ne]; exact h2⟩
theorem xx_set1 {i : Nat} (hn : ∀ d, ρ[i]? ≠ some (some (true, d))) {a : Addr} : XX W Z (ρ.set i none) (σ.set i none) a ↔ XX W Z ρ σ a :=
  ⟨fun x => x.elim .inl fun x => x.elim (fun x => .inr (.inl (Own.back (fun d z => by cases z) x))) fun x => .inr (.inr x),
   fun x => x.elim .inl fun x => x.elim (fun x => .inr (.inl (own_back1 hn x))) fun x => .inr (.inr x)⟩
/-- one slot wiped, and given back -/
theorem Env.wipe1 (e : Env W n Z T ρ σ H) (i : Nat) (hn : ∀ d, ρ[i]? ≠ some (some (true, d))) : ∃ T1 : TL, Env W n Z (T1 ++ T) (ρ.set i none) (σ.set i none) H ∧ ∀ n H' Z' T', Env W n Z' (T1 ++ T') (ρ.set i none) (σ.set i none) H' → Env W n Z' T' ρ σ H' := by
  have e0 : Env W n Z T (ρ.set i none) (σ.set i none) H := e.setG i none none (fun d q => by cases q) (fun d q => by cases q)
  have give : ∀ (T1 : TL) n H' Z' T', Env W n Z' (T1 ++ T') (ρ.set i none) (σ.set i none) H' → (∀ d, ρ[i]? = some (some (false, d)) → ∃ v, σ[i]? = some (some v) ∧ (v, d) ∈ T1) → Env W n Z' T' ρ σ H' := fun T1 n H' Z' T' e' hd => by
    have m : Mv (XX W Z' (ρ.set i none) (σ.set i none)) H' (XX W Z' ρ σ) H' := fun a o q hx => ⟨q, fun x => hx ((xx_set1 hn).mpr x)⟩
    have m' : ∀ a, ¬ XX W Z' (ρ.set i none) (σ.set i none) a → ¬ XX W Z' ρ σ a := fun a h x => h ((xx_set1 hn).mpr x)
    refine ⟨e.len, fun j d q => ?_, fun j d q => ?_, fun j k d1 d2 a q1 q2 q3 q4 => ?_, e'.z, e'.zn, fun p hp => (e'.t p (List.mem_append_right _ hp)).mv m, e'.fr, e'.g⟩
    · by_cases ij : i = j
      · subst ij
        obtain ⟨v, h1, h2⟩ := hd d q
        exact ⟨v, h1, (e'.t (v, d) (List.mem_append_left _ h2)).mv m⟩
      · obtain ⟨v, h1, h2⟩ := e'.sh j d (by rw [List.getElem?_set_ne ij]; exact q)
        rw [List.getElem?_set_ne ij] at h1
        exact ⟨v, h1, h2.mv m⟩
    · have ij : i ≠ j := fun z => hn d (by rw [z]; exact q)
      obtain ⟨a, o, h1, h2, h3, h4⟩ := e'.ow j d (by rw [List.getElem?_set_ne ij]; exact q)
      rw [List.getElem?_set_ne ij] at h1
      exact ⟨a, o, h1, h2, h3.mv m, h4⟩
    · exact e.inj j k d1 d2 a q1 q2 q3 q4
  cases q : ρ[i]? with
  | none => exact ⟨[], e0, fun n H' Z' T' e' => give [] n H' Z' T' e' fun d z => by rw [q] at z; cases z⟩
  | some s =>
    cases s with
    | none => exact ⟨[], e0, fun n H' Z' T' e' => give [] n H' Z' T' e' fun d z => by rw [q] at z; cases z⟩
    | some bd =>
      obtain ⟨b, d⟩ := bd
      cases b with
      | true => exact absurd q (hn d)
      | false =>
        obtain ⟨v, h1, h2⟩ := e.sh i d q
        refine ⟨[(v, d)], e0.push (h2.mv fun a o q hx => ⟨q, fun x => hx ((xx_set1 hn).mp x)⟩), fun n H' Z' T' e' => give [(v, d)] n H' Z' T' e' fun d' z => ?_⟩
        rw [q] at z
        cases z
        exact ⟨v, h1, List.mem_cons_self⟩
theorem wipeR_none : ∀ (vs : List Nat) (i : Nat), i ∈ vs → ∀ b, (wipeR ρ vs)[i]? ≠ some (some b)
  | [], i, h, _ => nomatch h
  | v :: vs, i, h, b => fun q => by
    unfold wipeR at q
    rcases set_get q with ⟨_, z, _⟩ | ⟨ne, z⟩
    · cases z
    · rcases List.mem_cons.mp h with y | y
      · exact ne y.symm
      · exact wipeR_none vs i y b z
theorem wipeR_own : ∀ (vs : List Nat) (i : Nat) (d : D), (wipeR ρ vs)[i]? = some (some (true, d)) → ρ[i]? = some (some (true, d))
  | [], i, d, h => h
  | v :: vs, i, d, h => by
    unfold wipeR at h
    rcases set_get h with ⟨_, z, _⟩ | ⟨_, z⟩
    · cases z
    · exact wipeR_own vs i d z
theorem Env.wipes (e : Env W n Z T ρ σ H) : ∀ (vs : List Nat), NoOwn ρ vs → ∃ T1 : TL, Env W n Z (T1 ++ T) (wipeR ρ vs) (wipe σ vs) H ∧ ∀ n H' Z' T', Env W n Z' (T1 ++ T') (wipeR ρ vs) (wipe σ vs) H' → Env W n Z' T' ρ σ H'
  | [], _ => ⟨[], e, fun _ _ _ _ e' => e'⟩
  | v :: vs, hn => by
    obtain ⟨T1, e1, b1⟩ := e.wipes vs fun i d hi => hn i d (List.mem_cons_of_mem _ hi)
    obtain ⟨T2, e2, b2⟩ := e1.wipe1 v fun d q => hn v d List.mem_cons_self (wipeR_own vs v d q)
    refine ⟨T2 ++ T1, ?_, fun n H' Z' T' e' => b1 n H' Z' T' (b2 n H' Z' (T1 ++ T') ?_)⟩
    · rw [List.append_assoc]; exact e2
    · rw [List.append_assoc] at e'; exact e'
/-- the slots S of the turn forgotten again -/
theorem Env.unset {S : List Nat} {ρ' : Rho} {σ' : L2.St} (e : Env W n Z T ρ' σ' H) (a : Agree S ρ ρ' σ σ') (hl : σ.length = ρ.length) (hn : ∀ (i : Nat) (b : Bool × D), i ∈ S → ρ[i]? ≠ some (some b)) : Env W n Z T ρ σ H := by
  obtain ⟨l1, l2, ag, no⟩ := a
  have own : ∀ b, Own ρ σ b ↔ Own ρ' σ' b := fun b => ⟨fun ⟨i, d, h1, h2⟩ => by
      have hi : i ∉ S := fun z => hn i _ z h1
      exact ⟨i, d, by rw [(ag i hi).2]; exact h1, by rw [(ag i hi).1]; exact h2⟩,
    fun ⟨i, d, h1, h2⟩ => by
      have hi : i ∉ S := fun z => no i d z h1
      exact ⟨i, d, by rw [← (ag i hi).2]; exact h1, by rw [← (ag i hi).1]; exact h2⟩⟩
  have m : Mv (XX W Z ρ' σ') H (XX W Z ρ σ) H := fun b o q hx => ⟨q, fun x => hx (x.elim .inl fun x => x.elim (fun x => .inr (.inl ((own b).mp x))) fun x => .inr (.inr x))⟩
  refine ⟨hl, fun i d q => ?_, fun i d q => ?_, fun i j d1 d2 b q1 q2 q3 q4 => ?_, e.z, e.zn, fun p hp => (e.t p hp).mv m, e.fr, e.g⟩
  · have hi : i ∉ S := fun z => hn i _ z q
    obtain ⟨v, h1, h2⟩ := e.sh i d (by rw [(ag i hi).2]; exact q)
    exact ⟨v, by rw [← (ag i hi).1]; exact h1, h2.mv m⟩
  · have hi : i ∉ S := fun z => hn i _ z q
    obtain ⟨b, o, h1, h2, h3, h4⟩ := e.ow i d (by rw [(ag i hi).2]; exact q)
    exact ⟨b, o, by rw [← (ag i hi).1]; exact h1, h2, h3.mv m, h4⟩
  · have hi : i ∉ S := fun z => hn i _ z q1
    have hj : j ∉ S := fun z => hn j _ z q2
    exact e.inj i j d1 d2 b (by rw [(ag i hi).2]; exact q1) (by rw [(ag j hj).2]; exact q2) (by rw [(ag i hi).1]; exact q3) (by rw [(ag j hj).1]; exact q4)
theorem wipe_agree {S : List Nat} {ρ' : Rho} {σ' : L2.St} : ∀ {vs : List Nat}, (∀ i, i ∈ S → i ∈ vs) → Agree S ρ ρ' (wipe σ vs) σ' → wipe σ' vs = wipe σ vs := by
  intro vs hS a
  have len : ∀ (τ : L2.St) (vs : List Nat), (wipe τ vs).length = τ.length := fun τ vs => wipe_length τ vs
  have get : ∀ (τ : L2.St) (vs : List Nat) (i : Nat), (wipe τ vs)[i]? = if i ∈ vs ∧ i < τ.length then some none else τ[i]? := by
    intro τ vs i
    induction vs with
    | nil => unfold wipe; rw [if_neg (fun h => nomatch h.1)]
    | cons v vs ih =>
      unfold wipe
      by_cases hv : v = i
      · subst hv
        by_cases hl : v < τ.length
        · rw [List.getElem?_set_self (by rw [len]; exact hl), if_pos ⟨List.mem_cons_self, hl⟩]
        · rw [List.getElem?_eq_none (by rw [List.length_set, len]; omega), if_neg (fun h => hl h.2), List.getElem?_eq_none (by omega)]
      · rw [List.getElem?_set_ne hv, ih]
        by_cases hi : i ∈ vs ∧ i < τ.length
        · rw [if_pos hi, if_pos ⟨List.mem_cons_of_mem _ hi.1, hi.2⟩]
        · rw [if_neg hi, if_neg (fun h => hi ⟨(List.mem_cons.mp h.1).resolve_left fun z => hv z.symm, h.2⟩)]
  apply List.ext_getElem?
  intro i
  have hl : σ'.length = σ.length := by rw [a.1, len]
  rw [get, get, hl]
  by_cases hi : i ∈ vs ∧ i < σ.length
  · rw [if_pos hi, if_pos hi]
  · rw [if_neg hi, if_neg hi]
    by_cases hv : i ∈ vs
    · have : σ.length ≤ i := Nat.le_of_not_lt fun h => hi ⟨hv, h⟩
      rw [List.getElem?_eq_none (by omega), List.getElem?_eq_none (by omega)]
    · rw [(a.2.2.1 i fun z => hv (hS i z)).1, get, if_neg (fun h => hv h.1)]
theorem wipeR_len : ∀ vs : List Nat, (wipeR ρ vs).length = ρ.length
  | [] => rfl
  | v :: vs => by unfold wipeR; rw [List.length_set, wipeR_len vs]
theorem df_lc {wi : TI} {g : TG} {S vs : List Nat} {P : Nat → D → Prop} (hno : NoOwn ρ vs) (hS : ∀ i, i ∈ S → i ∈ vs)
    (h : DI wi W n ρ fun n ds => ∃ Inv : Nat → Nat → List D → Prop, Inv 0 n [] ∧ (∀ i n d acc, ds[i]? = some d → Inv i n acc → DG g S d W (wipeR ρ vs) fun ρ2 => DT tt W n ρ2 fun n b => (b = true → DE te W n ρ2 fun n y => acc.length < sizeLine ∧ Inv (i + 1) n (acc ++ [y])) ∧ (b = false → Inv (i + 1) n acc)) ∧ ∀ n acc, Inv ds.length n acc → P n (.lst acc)) :
    DF (tLc wi g tt te vs) W n ρ P := fun Z T σ H e Q k =>
  h Z T σ H e _ fun n J ds T0 H1 ⟨Iv, h0, hs, hd⟩ e1 ok => by
    intro D0 hD
    -- the state between two turns: the list so far at D0, pending; its data told
    refine ⟨fun i m H => m = ds.length - i ∧ i ≤ ds.length ∧ ∃ n xs acc, Iv i n acc ∧ xs.length = acc.length ∧ Env W n ((D0, .lst xs) :: Z) (zipT xs acc ++ (T0 ++ T)) ρ σ H, ⟨_, rfl, Nat.zero_le _, n, [], [], h0, rfl, e1.lay hD⟩, ?_⟩
    rintro i m H2 ⟨rfl, hi, n, xs, acc, hI, hl, e2⟩
    have o := ok n _ _ ρ σ H2 (fun p hp => List.mem_append_right _ (List.mem_append_left _ hp)) e2 i
    by_cases hlt : i < ds.length
    · refine .inr ⟨(o.1 hlt).1, fun H3 => ∃ n xs acc, Iv (i + 1) n acc ∧ xs.length = acc.length ∧ Env W n ((D0, .lst xs) :: Z) (zipT xs acc ++ (T0 ++ T)) ρ σ H3, fun H3 ⟨n, xs, acc, h3, l3, e3⟩ => ⟨ds.length - (i + 1), by omega, rfl, hlt, n, xs, acc, h3, l3, e3⟩, fun x H3 y => ?_⟩
      obtain ⟨d, hd', e3⟩ := (o.1 hlt).2 x H3 y
      obtain ⟨T1, e4, back⟩ := e3.wipes vs hno
      have ix : Is (XX W ((D0, .lst xs) :: Z) (wipeR ρ vs) (wipe σ vs)) H3 x d := e4.t (x, d) (List.mem_append_right _ List.mem_cons_self)
      refine hs i n d acc hd' hI n _ _ (wipe σ vs) H3 x e4 ix _ fun ρ2 σ2 p2 e5 ag => ⟨wipe_agree hS ag, ?_⟩
      have hlen : (wipe σ vs).length = (wipeR ρ vs).length := by rw [wipe_length, wipeR_len]; exact e.len
      have home : ∀ (n : Nat) (H' : Hp) (Z' : ZL) (T' : TL), Env W n Z' (T1 ++ T') ρ2 σ2 H' → Env W n Z' T' ρ σ H' := fun n H' Z' T' e' => back n H' Z' T' (e'.unset ag hlen fun i b hi => wipeR_none vs i (hS i hi) b)
      refine p2 _ _ σ2 H3 e5 _ fun n b H4 q e6 => ?_
      cases b with
      | false =>
        show ∃ n xs acc, _
        exact ⟨_, xs, acc, q.2 rfl, hl, (home _ H4 _ _ e6).pop1⟩
      | true =>
        refine q.1 rfl _ _ σ2 H4 e6 _ fun n v y H5 ⟨hsz, hI'⟩ e7 iv => ?_
        have e8 : Env W n ((D0, .lst xs) :: Z) ((v, y) :: (zipT xs acc ++ (T0 ++ T))) ρ σ H5 := by
          refine home _ H5 _ _ ((e7.push iv).pop fun p hp => ?_)
          rcases List.mem_append.mp hp with z | z
          · exact List.mem_cons_of_mem _ (List.mem_append_left _ z)
          · rcases List.mem_cons.mp z with z | z
            · rw [z]; exact List.mem_cons_self
            · exact List.mem_cons_of_mem _ (List.mem_append_right _ (List.mem_cons_of_mem _ z))
        refine ⟨xs, (e8.z (D0, .lst xs) List.mem_cons_self).1, by rw [hl]; exact hsz, _, xs ++ [v], acc ++ [y], hI', by rw [List.length_append, List.length_append, hl]; rfl, ?_⟩
        refine (e8.zput (o := .lst xs) (fun h => h)).pop fun p hp => ?_
        unfold zipT at hp
        rw [List.zip_append hl, List.append_assoc] at hp
        rcases List.mem_append.mp hp with z | z
        · exact List.mem_cons_of_mem _ (List.mem_append_left _ z)
        · rcases List.mem_append.mp z with z | z
          · have : p = (v, y) := by simpa using z
            rw [this]; exact List.mem_cons_self
          · exact List.mem_cons_of_mem _ (List.mem_append_right _ z)
    · have e0 : i = ds.length := by omega
      subst e0
      refine .inl ⟨o.2 (Nat.le_refl _), k _ D0 (.lst xs) (.lst acc) H2 (hd _ acc hI) e2.popAll.popAll (.lst (e2.topAll hl))⟩
end
end HD

namespace HD
open PySem PySem.Spec PyProof.Rows L2

/-! ### promises -/
inductive Out where
  | ret (fresh : Bool) (d : D)
  | exc (C : Addr) (ns : List Str) (l : List D)
/-- a def of n parameters: the objects at V may change so that G stays; pre of the arguments; post of what comes out -/
def Prm (m : Nat) (V : AP) (G : Nat → Hp → Prop) (pre : Nat → List D → Prop) (post : Nat → List D → Nat → Out → Prop) : Sp := fun vs H Q E => ∃ (X : AP) (ds : List D) (n : Nat),
  (∀ a, V a → X a) ∧ (∀ a, X a → H a ≠ none) ∧ G n H ∧ IsAll X H vs ds ∧ ds.length = m ∧ pre n ds ∧
  (∀ n' v d H', post n ds n' (.ret false d) → Frm V H H' → G n' H' → Is X H' v d → Q v H') ∧
  (∀ n' a o d H', post n ds n' (.ret true d) → Frm V H H' → G n' H' → H a = none → H' a = some o → Ob (fun b => X b ∨ b = a) H' o d → Q (.ref a) H') ∧
  (∀ n' C ns l od H', post n ds n' (.exc C ns l) → Frm V H H' → G n' H' → ExF X H' od ns l → E (.ref C) od H')
theorem prm_len {m : Nat} {V : AP} {G : Nat → Hp → Prop} {pre : Nat → List D → Prop} {post : Nat → List D → Nat → Out → Prop} {vs : List L2.V} {H : Hp} {Q : VK} {E : XK} (h : Prm m V G pre post vs H Q E) : vs.length = m := by
  obtain ⟨X, ds, _, _, _, _, i, hl, _⟩ := h
  rw [i.len]; exact hl
def startR (N : List Str) (ds : List D) : Rho := ds.map (fun d => some (false, d)) ++ List.replicate (N.length - ds.length) none
structure Stab (V : AP) (G : Nat → Hp → Prop) : Prop where
  vd : ∀ n H, G n H → ∀ a, V a → H a ≠ none
  stab : ∀ n H H', (∀ a o, H a = some o → V a ∨ KeepO o → H' a = some o) → G n H → G n H'
abbrev V0 : AP := fun _ => False
abbrev G0 : Nat → Hp → Prop := fun _ _ => True
theorem stab0 : Stab V0 G0 := ⟨fun _ _ _ _ h => h.elim, fun _ _ _ _ _ => True.intro⟩

theorem start_get {N : List Str} {vs : List L2.V} {i : Nat} : (L2.start N vs)[i]? = if i < vs.length then vs[i]?.map some else if i < vs.length + (N.length - vs.length) then some none else none := by
  unfold L2.start
  rw [List.getElem?_append, List.length_map, List.getElem?_map]
  by_cases h : i < vs.length
  · rw [if_pos h, if_pos h]
  · rw [if_neg h, if_neg h, List.getElem?_replicate]
    by_cases h2 : i < vs.length + (N.length - vs.length)
    · rw [if_pos h2, if_pos (by omega)]
    · rw [if_neg h2, if_neg (by omega)]
/-- a def's body keeps its promise -/
theorem prm_body {m : Nat} {V : AP} {G : Nat → Hp → Prop} {pre : Nat → List D → Prop} {post : Nat → List D → Nat → Out → Prop} {N : List Str} {vs : List L2.V} {H : Hp} {Q : VK} {E : XK} {t : TS} (S : Stab V G) (h : Prm m V G pre post vs H Q E)
    (k : ∀ (W : Wd) (n : Nat) (ds : List D), W.V = V → W.G = G → W.E = E → W.EP = (fun n' C ns l => post n ds n' (.exc C ns l)) → ds.length = m → pre n ds →
      DS t W n (startR N ds) (fun n' _ => post n ds n' (.ret false .non)) (fun n' b d => post n ds n' (.ret b d)) (fun _ _ => False) (fun _ _ => False)) :
    t { nx := fun _ H' => Q .non H', rt := Q } (L2.start N vs) H := by
  obtain ⟨X, ds, n, hVX, hX, hG, hi, hl, hp, k1, k2, k3⟩ := h
  have W0 : ∃ W : Wd, W.V = V ∧ W.X0 = X ∧ W.G = G ∧ W.H0 = H ∧ W.E = E ∧ W.EP = (fun n' C ns l => post n ds n' (.exc C ns l)) := ⟨{ V := V, X0 := X, G := G, H0 := H, E := E, EP := fun n' C ns l => post n ds n' (.exc C ns l), vx := hVX, xd := hX, vd := S.vd, stab := S.stab, hE := fun n' C ns l od H' p f g x => k3 n' C ns l od H' p f g x }, rfl, rfl, rfl, rfl, rfl, rfl⟩
  obtain ⟨W, w1, w2, w3, w4, w5, w6⟩ := W0
  have hlen := hi.len
  have gR : ∀ (i : Nat) (b : Bool) (d : D), (startR N ds)[i]? = some (some (b, d)) → b = false ∧ ds[i]? = some d := fun i b d q => by
    unfold startR at q
    rw [List.getElem?_append, List.length_map, List.getElem?_map] at q
    by_cases h : i < ds.length
    · rw [if_pos h] at q
      cases r : ds[i]? with
      | none => rw [r] at q; cases q
      | some d' => rw [r] at q; cases q; exact ⟨rfl, rfl⟩
    · rw [if_neg h, List.getElem?_replicate] at q
      split at q <;> cases q
  have no : ∀ a, ¬ Own (startR N ds) (L2.start N vs) a := fun a ⟨i, d, q, _⟩ => by
    have := (gR i true d q).1
    cases this
  have m : Mv X H (XX W [] (startR N ds) (L2.start N vs)) H := fun a o q hx => ⟨q, fun x => by
    rcases x with x | x | ⟨o, x⟩
    · rw [w2] at x; exact hx x
    · exact no a x
    · cases x⟩
  have e : Env W n [] [] (startR N ds) (L2.start N vs) H := by
    refine ⟨?_, fun i d q => ?_, fun i d q => ?_, fun i j d1 d2 a q1 => ?_, fun p hp => (nomatch hp), List.nodup_nil, fun p hp => (nomatch hp), fun a o h1 h2 => ?_, by rw [w3]; exact hG⟩
    · unfold L2.start startR
      simp [hlen]
    · obtain ⟨_, q⟩ := gR i false d q
      obtain ⟨v, h1, h2⟩ := hi.got q
      refine ⟨v, ?_, h2.mv m⟩
      have hlt : i < vs.length := (List.getElem?_eq_some_iff.mp h1).1
      rw [start_get, if_pos hlt, h1]; rfl
    · have := (gR i true d q).1
      cases this
    · have := (gR i true d1 q1).1
      cases this
    · rw [w4] at h1; exact h1
  refine k W n ds w1 w3 w5 w6 hl hp [] [] (L2.start N vs) H e _ ⟨fun n' ρ σ H' p e' => ?_, fun n' v d H' p f g i => ?_, fun n' a o d H' p f g h0 ha ho => ?_, fun _ _ _ _ h => h.elim, fun _ _ _ _ h => h.elim⟩
  · have f := e'.fr
    have g := e'.g
    rw [w1, w4] at f
    rw [w3] at g
    exact k1 n' .non .non H' p f g .non
  · rw [w1, w4] at f
    rw [w3] at g
    rw [w2] at i
    exact k1 n' v d H' p f g i
  · rw [w1, w4] at f
    rw [w3] at g
    rw [w4] at h0
    rw [w2] at ho
    exact k2 n' a o d H' p f g h0 ha ho

/-! ### calls of defs -/
/-- a callee that may change V so that G stays, called in W -/
structure Fit (V : AP) (G : Nat → Hp → Prop) (κ : Nat → Nat → Nat) (W : Wd) : Prop where
  sub : ∀ a, V a → W.V a
  g : ∀ n H, W.G n H → G n H
  back : ∀ n n' H H', W.G n H → Frm V H H' → G n' H' → W.G (κ n n') H'
theorem fit0 {W : Wd} : Fit V0 G0 (fun n _ => n) W := ⟨fun _ h => h.elim, fun _ _ _ => True.intro, fun n n' H H' g f _ => W.stab n H H' (fun a o q _ => f a o q fun z => z) g⟩
theorem fitW {V : AP} {G : Nat → Hp → Prop} {W : Wd} (h1 : W.V = V) (h2 : W.G = G) : Fit V G (fun _ n' => n') W := by
  subst h1 h2
  exact ⟨fun _ h => h, fun _ _ h => h, fun _ _ _ _ _ _ g => g⟩
section
variable {W : Wd} {n : Nat} {Z : ZL} {T : TL} {ρ : Rho} {σ : L2.St} {H : Hp} {N N' : Nat → Rho → Prop} {R : Nat → Bool → D → Prop} {B C : Nat → Rho → Prop} {t u : TS} {te ta tb : TE} {tt : TT} {d : D} {K : PySem.W.Frag}
  {m : Nat} {V : AP} {G : Nat → Hp → Prop} {κ : Nat → Nat → Nat} {pre : Nat → List D → Prop} {post : Nat → List D → Nat → Out → Prop} {E : XK} {P : Nat → D → Prop} {tas : TA}
theorem Fit.frm (F : Fit V G κ W) {H H' : Hp} (f : Frm V H H') : Frm W.V H H' := fun a o h hv => f a o h fun z => hv (F.sub a z)
theorem zero_mv (e : Env W n Z T ρ σ H) {a : Addr} {o : HO} {H' : Hp} (f : Frm V H H') (F : Fit V G κ W) : Mv (XX W Z ρ σ) H (XX W Z ρ σ) H' := fun b u q hx => ⟨f b u q fun z => XX.nv hx (F.sub b z), hx⟩
/-- the call, with what is raised at E; hx: what may be raised is let out -/
theorem call_prm (F : Fit V G κ W) (e : Env W n Z T ρ σ H) {vs : List L2.V} {ds : List D} (i : IsAll (XX W Z ρ σ) H vs ds) (hl : ds.length = m) (hp : pre n ds) {Q : VK}
    (q0 : ∀ n' d, post n ds n' (.ret false d) → P (κ n n') d) (q1 : ∀ n' d, post n ds n' (.ret true d) → P (κ n n') d) (k : RetK W Z T ρ σ P Q) (hx : ∀ n' C ns l od H', post n ds n' (.exc C ns l) → Frm V H H' → G n' H' → ExF (XX W Z ρ σ) H' od ns l → E (.ref C) od H') : Prm m V G pre post vs H Q E := by
  refine ⟨XX W Z ρ σ, ds, n, fun a hv => .inl (W.vx a (F.sub a hv)), fun a hx => e.xdom hx, F.g n H e.g, i, hl, hp, fun n' v d H' p f g iv => ?_, fun n' a o d H' p f g ha ho hb => ?_, hx⟩
  · exact k _ v d H' (q0 n' d p) (e.heap (F.frm f) (F.back n n' H H' e.g f g)) iv
  · have e' := e.heap (F.frm f) (F.back n n' H H' e.g f g)
    have na : ¬ XX W Z ρ σ a := fun x => e.xdom x ha
    exact k _ _ d H' (q1 n' d p) e' (hb.is ho na fun b u q hx => ⟨q, fun x => hx (.inl x)⟩)
/-- a fresh object comes out, pending -/
theorem fresh_env {n' : Nat} (e : Env W n Z T ρ σ H) (F : Fit V G κ W) {H' : Hp} {a : Addr} {o : HO} {d : D} (f : Frm V H H') (g : G n' H') (ha : H a = none) (ho : H' a = some o) (hb : Ob (fun b => XX W Z ρ σ b ∨ b = a) H' o d) :
    Env W (κ n n') ((a, o) :: Z) T ρ σ H' ∧ Ob (XX W ((a, o) :: Z) ρ σ) H' o d := by
  have e' := e.heap (F.frm f) (F.back n n' H H' e.g f g)
  have hx : ∀ b, XX W ((a, o) :: Z) ρ σ b → XX W Z ρ σ b ∨ b = a := fun b x => by
    rcases x with x | x | ⟨u, x⟩
    · exact .inl (.inl x)
    · exact .inl (.inr (.inl x))
    · rcases List.mem_cons.mp x with y | y
      · cases y; exact .inr rfl
      · exact .inl (.inr (.inr ⟨u, y⟩))
  -- all that the environment tells stands apart from a, as it did before the call
  have m : ∀ b u, H b = some u → ¬ XX W Z ρ σ b → ¬ XX W ((a, o) :: Z) ρ σ b := fun b u q nx x => (hx b x).elim nx fun z => by rw [z, ha] at q; cases q
  have mv : Mv (XX W Z ρ σ) H (XX W ((a, o) :: Z) ρ σ) H' := fun b u q nx => ⟨f b u q fun z => XX.nv nx (F.sub b z), m b u q nx⟩
  refine ⟨⟨e'.len, fun i d q => ?_, fun i d q => ?_, e'.inj, fun p hp => ?_, ?_, fun p hp => (e.t p hp).mv mv, e'.fr, e'.g⟩, hb.mv fun b u q nx => ⟨q, fun x => nx (hx b x)⟩⟩
  · obtain ⟨v, h1, h2⟩ := e.sh i d q
    exact ⟨v, h1, h2.mv mv⟩
  · obtain ⟨b, u, h1, h2, h3, h4, h5⟩ := e.ow i d q
    have ne : b ≠ a := fun z => by rw [z, ha] at h2; cases h2
    refine ⟨b, u, h1, f b u h2 fun z => Env.nv0 h4 (F.sub b z), h3.mv mv, h4, fun ⟨u', x⟩ => ?_⟩
    rcases List.mem_cons.mp x with y | y
    · cases y; exact ne rfl
    · exact h5 ⟨u', y⟩
  · rcases List.mem_cons.mp hp with y | y
    · rw [y]; exact ⟨ho, e.dom0 ha⟩
    · exact e'.z p y
  · rw [List.map_cons]
    refine List.nodup_cons.mpr ⟨fun x => ?_, e.zn⟩
    obtain ⟨q, hq, eq⟩ := List.mem_map.mp x
    have eq' : q.1 = a := eq
    exact e.znew ha ⟨q.2, by rw [← eq']; exact hq⟩
theorem call_prmF (F : Fit V G κ W) (e : Env W n Z T ρ σ H) {vs : List L2.V} {ds : List D} (i : IsAll (XX W Z ρ σ) H vs ds) (hl : ds.length = m) (hp : pre n ds) {Q : VK}
    (q0 : ∀ n' d, ¬ post n ds n' (.ret false d)) (q1 : ∀ n' d, post n ds n' (.ret true d) → P (κ n n') d) (k : RetF W Z T ρ σ P Q) (hx : ∀ n' C ns l od H', post n ds n' (.exc C ns l) → Frm V H H' → G n' H' → ExF (XX W Z ρ σ) H' od ns l → E (.ref C) od H') : Prm m V G pre post vs H Q E := by
  refine ⟨XX W Z ρ σ, ds, n, fun a hv => .inl (W.vx a (F.sub a hv)), fun a hx => e.xdom hx, F.g n H e.g, i, hl, hp, fun n' v d H' p => absurd p (q0 n' d), fun n' a o d H' p f g ha ho hb => ?_, hx⟩
  obtain ⟨e', hb'⟩ := fresh_env e F f g ha ho hb
  exact k _ a o d H' (q1 n' d p) e' hb'
theorem exf_x0 {od : Option Addr} {ns : List Str} {l : List D} {X' : AP} (h : ExF (XX W Z ρ σ) H od ns l) (hX : ∀ a, X' a → XX W Z ρ σ a) : ExF X' H od ns l := by
  rcases h with h | ⟨dd, fs, h0, h1, h2, h3, h4, h5⟩
  · exact .inl h
  · exact .inr ⟨dd, fs, h0, h1, fun z => h2 (hX dd z), h3, h4, h5.mv (fun a o q hx => ⟨q, fun x => hx (hX a x)⟩) _⟩
/-- what the callee raises leaves the caller -/
theorem exc_out (F : Fit V G κ W) (hE : W.E = E) (e : Env W n Z T ρ σ H) {ds : List D} (hx : ∀ n' C ns l, post n ds n' (.exc C ns l) → W.EP (κ n n') C ns l) : ∀ n' C ns l od H', post n ds n' (.exc C ns l) → Frm V H H' → G n' H' → ExF (XX W Z ρ σ) H' od ns l → E (.ref C) od H' := fun n' C ns l od H' p f g x => by
  rw [← hE]
  have e' := e.heap (F.frm f) (F.back n n' H H' e.g f g)
  exact W.hE _ C ns l od H' (hx n' C ns l p) e'.fr e'.g (exf_x0 x fun a h => .inl h)
/-- a call of which nothing is raised -/
theorem de_call (F : Fit V G κ W) (h : DA tas W n ρ fun n ds => ds.length = m ∧ pre n ds ∧ (∀ n' C ns l, ¬ post n ds n' (.exc C ns l)) ∧ ∀ n' b d, post n ds n' (.ret b d) → P (κ n n') d) : DE (tCall (Prm m V G pre post) [] E tas) W n ρ P := fun Z T σ H e Q k =>
  h Z T σ H e _ fun n vs ds H' ⟨hl, hp, hx, hq⟩ e' i => by
    show Prm m V G pre post (vs ++ []) H' Q E
    rw [List.append_nil]
    exact call_prm F e' i hl hp (fun n' => hq n' false) (fun n' => hq n' true) k fun n' C ns l _ _ p => absurd p (hx n' C ns l)
theorem df_call (F : Fit V G κ W) (h : DA tas W n ρ fun n ds => ds.length = m ∧ pre n ds ∧ (∀ n' C ns l, ¬ post n ds n' (.exc C ns l)) ∧ (∀ n' d, ¬ post n ds n' (.ret false d)) ∧ ∀ n' d, post n ds n' (.ret true d) → P (κ n n') d) : DF (tCall (Prm m V G pre post) [] E tas) W n ρ P := fun Z T σ H e Q k =>
  h Z T σ H e _ fun n vs ds H' ⟨hl, hp, hx, hq0, hq⟩ e' i => by
    show Prm m V G pre post (vs ++ []) H' Q E
    rw [List.append_nil]
    exact call_prmF F e' i hl hp hq0 hq k fun n' C ns l _ _ p => absurd p (hx n' C ns l)
/-- a call that may raise what the caller may raise -/
theorem de_callE (F : Fit V G κ W) (hE : W.E = E) (h : DA tas W n ρ fun n ds => ds.length = m ∧ pre n ds ∧ (∀ n' C ns l, post n ds n' (.exc C ns l) → W.EP (κ n n') C ns l) ∧ ∀ n' b d, post n ds n' (.ret b d) → P (κ n n') d) : DE (tCall (Prm m V G pre post) [] E tas) W n ρ P := fun Z T σ H e Q k =>
  h Z T σ H e _ fun n vs ds H' ⟨hl, hp, hx, hq⟩ e' i => by
    show Prm m V G pre post (vs ++ []) H' Q E
    rw [List.append_nil]
    exact call_prm F e' i hl hp (fun n' => hq n' false) (fun n' => hq n' true) k (exc_out F hE e' hx)
theorem df_callE (F : Fit V G κ W) (hE : W.E = E) (h : DA tas W n ρ fun n ds => ds.length = m ∧ pre n ds ∧ (∀ n' C ns l, post n ds n' (.exc C ns l) → W.EP (κ n n') C ns l) ∧ (∀ n' d, ¬ post n ds n' (.ret false d)) ∧ ∀ n' d, post n ds n' (.ret true d) → P (κ n n') d) : DF (tCall (Prm m V G pre post) [] E tas) W n ρ P := fun Z T σ H e Q k =>
  h Z T σ H e _ fun n vs ds H' ⟨hl, hp, hx, hq0, hq⟩ e' i => by
    show Prm m V G pre post (vs ++ []) H' Q E
    rw [List.append_nil]
    exact call_prmF F e' i hl hp hq0 hq k (exc_out F hE e' hx)
/-- with keywords: gV puts the values in the def's order -/
theorem de_callK {gV : List L2.V → List L2.V → List L2.V} {gD : List D → List D → List D} {tks : TA} (F : Fit V G κ W) (hE : W.E = E) (hg : ∀ (X : AP) (H : Hp) vs zs ds es, IsAll X H vs ds → IsAll X H zs es → IsAll X H (gV vs zs) (gD ds es))
    (h : DA tas W n ρ fun n ds => DA tks W n ρ fun n es => (gD ds es).length = m ∧ pre n (gD ds es) ∧ (∀ n' C ns l, post n (gD ds es) n' (.exc C ns l) → W.EP (κ n n') C ns l) ∧ ∀ n' b d, post n (gD ds es) n' (.ret b d) → P (κ n n') d) : DE (tCallK (Prm m V G pre post) gV E tas tks) W n ρ P := fun Z T σ H e Q k =>
  h Z T σ H e _ fun n vs ds H1 p e1 i1 => p Z (zipT vs ds ++ T) σ H1 (e1.pushAll i1) _ fun n zs es H2 ⟨hl, hp, hx, hq⟩ e2 i2 => by
    exact call_prm F e2.popAll (hg _ _ _ _ _ _ (e2.topAll i1.len) i2) hl hp (fun n' => hq n' false) (fun n' => hq n' true) k (exc_out F hE e2.popAll hx)
/-! ### raise -/
theorem ds_raise {cls : Addr} (h : W.EP n cls [] []) (hE : W.E = E) : DS (fun _ σ H => (fun (_ : L2.St) H Q => Q (.ref cls) none H) σ H fun cls d H' => (fun cls d (_ : L2.St) H => E cls d H) cls d σ H') W n ρ N R B C := fun Z T σ H e De f => by
  show E (.ref cls) none H
  rw [← hE]
  exact W.hE n cls [] [] none H h e.fr e.g (.inl ⟨rfl, rfl, rfl⟩)
theorem ds_never {t : TS} (h : False) : DS t W n ρ N R B C := h.elim
end
end HD

namespace HD
open PySem PySem.Spec PyProof.Rows L2

/-! ### operators of any kind -/
def rAddI : R2 := rI0 fun i j => .int (i + j)
def rAddZ : R2 := fun x y H Q => ∃ i j, x = .str i ∧ y = .str j ∧ i.length + j.length ≤ sizeLine ∧ Q (.str (i ++ j)) H
def rAddU (K : PySem.W.Frag) : R2 := fun x y H Q => rAddI x y H Q ∨ (fun x y H Q => rCatA K x y H Q ∨ (fun x y H Q => rCat x y H Q ∨ rAddZ x y H Q) x y H Q) x y H Q
def rMulI : R2 := rI (fun i j => CMul i j ∨ CMulW i j) fun i j => .int (i * j)
def rMulU (K : PySem.W.Frag) : R2 := fun x y H Q => rMulI x y H Q ∨ (fun x y H Q => rRep x y H Q ∨ rRepT K x y H Q) x y H Q
def rFdiv : R2 := rI (fun i j => CDivN i j ∨ CDivW i j) fun i j => .int (i.fdiv j)
def rInDic : R2 := fun y x H Q => ∃ a o, x = .ref a ∧ DGet H a y o ∧ Q (.bl o.isSome) H
def rNotInDic : R2 := fun y x H Q => ∃ a o, x = .ref a ∧ DGet H a y o ∧ Q (.bl (!o.isSome)) H
def rInDT (K : PySem.W.Frag) : R2 := fun x y H Q => ∃ d ds, Dp K H x d ∧ Dp K H y (.tuple ds) ∧ SeqAt.shaped d = true ∧ SeqAt.shaped (.tuple ds) = true ∧ Q (.bl (ds.any fun z => PyData.eqv z d)) H
def rNotInDT (K : PySem.W.Frag) : R2 := fun x y H Q => ∃ d ds, Dp K H x d ∧ Dp K H y (.tuple ds) ∧ SeqAt.shaped d = true ∧ SeqAt.shaped (.tuple ds) = true ∧ Q (.bl (!ds.any fun z => PyData.eqv z d)) H
def rInU (K : PySem.W.Frag) : R2 := fun x y H Q => rInD K x y H Q ∨ (fun x y H Q => rInDT K x y H Q ∨ (fun x y H Q => rIn K false x y H Q ∨ rInDic x y H Q) x y H Q) x y H Q
def rNotInU (K : PySem.W.Frag) : R2 := fun x y H Q => rNotInD K x y H Q ∨ (fun x y H Q => rNotInDT K x y H Q ∨ (fun x y H Q => rIn K true x y H Q ∨ rNotInDic x y H Q) x y H Q) x y H Q
def rIsNon : R2 := fun x y H Q => y = .non ∧ Q (.bl (decide (x = .non))) H
def rIsBl : R2 := fun x y H Q => ∃ a b, x = .bl a ∧ y = .bl b ∧ Q (.bl (decide (a = b))) H
def rIsnNon : R2 := fun x y H Q => y = .non ∧ Q (.bl (!decide (x = .non))) H
def rIsnBl : R2 := fun x y H Q => ∃ a b, x = .bl a ∧ y = .bl b ∧ Q (.bl (!decide (a = b))) H
def rIsU : R2 := fun x y H Q => rIsNon x y H Q ∨ rIsBl x y H Q
def rIsnU : R2 := fun x y H Q => rIsnNon x y H Q ∨ rIsnBl x y H Q
def rSub' : R2 := rI0 fun i j => .int (i - j)
def rMod : R2 := rI (fun _ j => j ≠ 0) fun i j => .int (i.fmod j)
def rPow : R2 := rI CPow fun i j => .int (i ^ j.toNat)
def rLt : R2 := rI0 fun i j => .bl (decide (i < j))
def rLe : R2 := rI0 fun i j => .bl (decide (i ≤ j))
def rGt' : R2 := rI0 fun i j => .bl (decide (j < i))
def rGe' : R2 := rI0 fun i j => .bl (decide (j ≤ i))
section
variable {X : Cx}
theorem op_addU : OpR X (binaryOp .Add) (rAddU X.K) := op_add.or (op_catA.or (op_cat.or op_add_str))
theorem op_mulI : OpR X (binaryOp .Mult) rMulI := by
  intro pins s σ H x y v u Q I rx ry h
  obtain ⟨i, j, rfl, rfl, c, q⟩ := h
  rcases c with c | c
  · exact op_mul pins s σ H _ _ v u Q I rx ry ⟨i, j, rfl, rfl, c, q⟩
  · exact op_mulW pins s σ H _ _ v u Q I rx ry ⟨i, j, rfl, rfl, c, q⟩
theorem op_mulU : OpR X (binaryOp .Mult) (rMulU X.K) := op_mulI.or (op_rep.or op_repT)
theorem op_fdivU : OpR X (binaryOp .FloorDiv) rFdiv := by
  intro pins s σ H x y v u Q I rx ry h
  obtain ⟨i, j, rfl, rfl, c, q⟩ := h
  rcases c with c | c
  · exact op_fdivN pins s σ H _ _ v u Q I rx ry ⟨i, j, rfl, rfl, c, q⟩
  · refine op_fdivW pins s σ H _ _ v u Q I rx ry ⟨i, j, rfl, rfl, c, ?_⟩
    have q : Q (.int (i.fdiv j)) H := q
    rw [Int.fdiv_eq_ediv_of_nonneg _ (Int.le_of_lt c.1)] at q
    exact q
theorem op_inDic (hu : X.A.units + 1 < cLine) : OpR X (compareOp .In) rInDic := by
  intro pins s σ H x y v u Q I rx ry h
  obtain ⟨a, o, rfl, g, q⟩ := h
  obtain rfl : u = Value.ref a := ry
  exact d_in hu I g rx fun s3 I3 => ⟨.bl o.isSome, H, I3, rfl, q⟩
theorem op_notInDic (hu : X.A.units + 1 < cLine) : OpR X (compareOp .NotIn) rNotInDic := by
  intro pins s σ H x y v u Q I rx ry h
  obtain ⟨a, o, rfl, g, q⟩ := h
  obtain rfl : u = Value.ref a := ry
  exact d_notIn hu I g rx fun s3 I3 => ⟨.bl (!o.isSome), H, I3, rfl, q⟩
/-- x[y]: of a list, a tuple, a text by a place, of a dict by a key -/
def rIxDic : R2 := fun x y H Q => ∃ a z, x = .ref a ∧ DGet H a y (some z) ∧ Q z H
def rIxU (K : PySem.W.Frag) : R2 := fun x y H Q => rIx K x y H Q ∨ rIxDic x y H Q
theorem ix_dic (hu : X.A.units + 1 < cLine) : IxR X rIxDic := by
  intro value slice pins s σ H x y v u Q I rx ry h hs
  obtain ⟨a, z, rfl, g, q⟩ := h
  cases (show v = Value.ref a from rx)
  have got : wpAny (model X.prog X.w) X.A (subscripted slice false (.ref a) u) (fun r s3 => wpAny (model X.prog X.w) X.A (letTemporaryGo value (.ref a) r >>= fun _ => pure r) (L2.EP X pins σ Q) X.xe s3) X.xe s := by
    rw [hs]
    refine wpAny_operating (d_getItem hu I g ry fun w' s' J r => ?_)
    have fin : L2.EP X pins σ Q w' s' := ⟨z, H, J, r, q⟩
    exact wpAny_bind (wpAny_letTemporaryGo (wpAny_pure fin))
  unfold subscriptTail
  have hT := dict_typeIs I g
  refine wpAny_bind ?_
  rw [getitemInPython_of_ne hT.not_modules]
  refine wpAny_bind (wpAny_specialOf hT PySem.F.slot_dict_getitem.lookup ?_)
  first | exact wpAny_bind got | exact wpAny_pure (wpAny_bind got) | exact wpAny_bind (wpAny_pure (wpAny_bind got))
theorem ix_U (hu : X.A.units + 1 < cLine) : IxR X (rIxU X.K) := ix_seq.or (ix_dic hu)
theorem u65 {k : Nat} {A : Around} (hr : Room k A) : A.units + 65 < cLine := by have h := hr.un; omega
theorem u1 {k : Nat} {A : Around} (hr : Room k A) : A.units + 1 < cLine := by have h := hr.un; omega
theorem u64 {k : Nat} {A : Around} (hr : Room k A) : A.units + 64 < cLine := by have h := hr.un; omega
theorem op_inDT (hu : X.A.units + 65 < cLine) : OpR X (compareOp .In) (rInDT X.K) := by
  intro pins s σ H x y v u Q I rx ry h
  obtain ⟨d, ds, hd, he, sd, se, q⟩ := h
  obtain ⟨as, r1⟩ := Dp.reads I d x v hd rx
  obtain ⟨bs, r2⟩ := Dp.reads I (.tuple ds) y u he ry
  exact SeqAt.in_tuple_reads r2 r1 (SeqAt.canLay_of_shaped se) (SeqAt.canLay_of_shaped sd) (room_in_shaped sd hu) ⟨.bl _, H, I, rfl, q⟩
theorem op_notInDT (hu : X.A.units + 65 < cLine) : OpR X (compareOp .NotIn) (rNotInDT X.K) := by
  intro pins s σ H x y v u Q I rx ry h
  obtain ⟨d, ds, hd, he, sd, se, q⟩ := h
  obtain ⟨as, r1⟩ := Dp.reads I d x v hd rx
  obtain ⟨bs, r2⟩ := Dp.reads I (.tuple ds) y u he ry
  exact SeqAt.notIn_tuple_reads r2 r1 (SeqAt.canLay_of_shaped se) (SeqAt.canLay_of_shaped sd) (room_in_shaped sd hu) ⟨.bl _, H, I, rfl, q⟩
theorem op_inU {k : Nat} (hr : Room k X.A) : OpR X (compareOp .In) (rInU X.K) := (op_inD (u65 hr)).or ((op_inDT (u65 hr)).or (op_in_seq.or (op_inDic (u1 hr))))
theorem op_notInU {k : Nat} (hr : Room k X.A) : OpR X (compareOp .NotIn) (rNotInU X.K) := (op_notInD (u65 hr)).or ((op_notInDT (u65 hr)).or (op_notIn_seq.or (op_notInDic (u1 hr))))
theorem op_isU : OpR X (compareOp .Is) rIsU := op_isN.or op_is_bl
theorem op_isnU : OpR X (compareOp .IsNot) rIsnU := op_notN.or op_isnot_bl
theorem op_eqU {k : Nat} (hr : Room k X.A) : OpR X (compareOp .Eq) (rEqD X.K) := op_eqD (u64 hr)
theorem op_neU {k : Nat} (hr : Room k X.A) : OpR X (compareOp .NotEq) (rNeD X.K) := op_neD (u64 hr)
theorem op_subU : OpR X (binaryOp .Sub) rSub' := op_sub
theorem op_modU : OpR X (binaryOp .Mod) rMod := op_modN
theorem op_powU : OpR X (binaryOp .Pow) rPow := op_pow
theorem op_ltU : OpR X (compareOp .Lt) rLt := op_lt
theorem op_leU : OpR X (compareOp .LtE) rLe := op_le
theorem op_gtU : OpR X (compareOp .Gt) rGt' := op_gt
theorem op_geU : OpR X (compareOp .GtE) rGe' := op_ge
end

section
variable {W : Wd} {n : Nat} {Z : ZL} {T : TL} {ρ : Rho} {σ : L2.St} {H : Hp} {P : Nat → D → Prop} {K : PySem.W.Frag} {X : AP} {d d1 d2 : D} {v : L2.V}
/-! on ints -/
theorem r_add {i j : Int} (p : P n (.int (i + j))) : DR (rAddU K) W n ρ (.int i) (.int j) P := dr_orl (dr_I0i p)
theorem r_sub {i j : Int} (p : P n (.int (i - j))) : DR rSub' W n ρ (.int i) (.int j) P := dr_I0i p
theorem r_mul {i j : Int} (c : CMul i j ∨ CMulW i j) (p : P n (.int (i * j))) : DR (rMulU K) W n ρ (.int i) (.int j) P := dr_orl (dr_Ii (C := fun i j => CMul i j ∨ CMulW i j) (g := fun i j => i * j) c p)
theorem r_fdiv {i j : Int} (c : CDivN i j ∨ CDivW i j) (p : P n (.int (i.fdiv j))) : DR rFdiv W n ρ (.int i) (.int j) P := dr_Ii (C := fun i j => CDivN i j ∨ CDivW i j) (g := fun i j => i.fdiv j) c p
theorem r_mod {i j : Int} (c : j ≠ 0) (p : P n (.int (i.fmod j))) : DR rMod W n ρ (.int i) (.int j) P := dr_Ii (C := fun _ j => j ≠ 0) (g := fun i j => i.fmod j) c p
theorem r_pow {i j : Int} (c : CPow i j) (p : P n (.int (i ^ j.toNat))) : DR rPow W n ρ (.int i) (.int j) P := dr_Ii (C := CPow) (g := fun i j => i ^ j.toNat) c p
theorem r_lt {i j : Int} (p : P n (.bl (decide (i < j)))) : DR rLt W n ρ (.int i) (.int j) P := dr_I0b (g := fun i j => decide (i < j)) p
theorem r_le {i j : Int} (p : P n (.bl (decide (i ≤ j)))) : DR rLe W n ρ (.int i) (.int j) P := dr_I0b (g := fun i j => decide (i ≤ j)) p
theorem r_gt {i j : Int} (p : P n (.bl (decide (j < i)))) : DR rGt' W n ρ (.int i) (.int j) P := dr_I0b (g := fun i j => decide (j < i)) p
theorem r_ge {i j : Int} (p : P n (.bl (decide (j ≤ i)))) : DR rGe' W n ρ (.int i) (.int j) P := dr_I0b (g := fun i j => decide (j ≤ i)) p
/-! is -/
theorem r_isN (p : P n (.bl d1.isNon)) : DR rIsU W n ρ d1 .non P := dr_orl (dr_isN p)
theorem r_isnN (p : P n (.bl (!d1.isNon))) : DR rIsnU W n ρ d1 .non P := dr_orl (dr_notN p)
theorem r_isB {a b : Bool} (p : P n (.bl (decide (a = b)))) : DR rIsU W n ρ (.bl a) (.bl b) P := dr_orr (dr_isB p)
theorem r_isnB {a b : Bool} (p : P n (.bl (!decide (a = b)))) : DR rIsnU W n ρ (.bl a) (.bl b) P := dr_orr (dr_isnotB p)
/-! tuples, lists together -/
theorem new_tup (e : Env W n Z T ρ σ H) {xs : List L2.V} {ds : List D} (h : IsAll (XX W Z ρ σ) H xs ds) {p : Addr} (hp : H p = none) : Env W n Z T ρ σ (upd H p (.tup xs)) ∧ Is (XX W Z ρ σ) (upd H p (.tup xs)) (.ref p) (.tup ds) := by
  have e2 := e.lay (o := .tup xs) hp
  exact ⟨e2.zpop, .tup e2.zmv.2 upd_same (h.mv (fun a u q hx => ⟨by rw [upd_ne (ne_of_none q hp)]; exact q, hx⟩) _)⟩
theorem IsW.tup_is {ds : List D} (h : IsW X H v (.tup ds)) : Is X H v (.tup ds) := by
  rcases h with h | ⟨a, o, _, _, h⟩
  · exact h
  · cases h
theorem r_addT {ds es : List D} (hl : ds.length + es.length ≤ sizeLine) (p : P n (.tup (ds ++ es))) : DR (rAddU K) W n ρ (.tup ds) (.tup es) P := dr_orr (dr_orl fun Z T σ H v1 v2 e i1 i2 Q k => by
  have j1 := i1.tup_is
  have j2 := i2.tup_is
  obtain ⟨a, xs, rfl, ha, h1, _⟩ := isw_tup i1
  obtain ⟨b, ys, rfl, hb, h2, _⟩ := isw_tup i2
  refine ⟨a, b, xs, ys, rfl, rfl, .of ha, .of hb, by rw [h1.len, h2.len]; exact hl, fun q => ?_, fun _ q => ?_, fun _ _ t ht => ?_⟩
  · subst q
    cases h1
    exact k _ _ _ H p e j2
  · subst q
    cases h2
    rw [List.append_nil] at p
    exact k _ _ _ H p e j1
  · obtain ⟨e', i'⟩ := new_tup e (h1.append h2) ht
    exact k _ _ _ _ p e' i')
theorem new_lst (e : Env W n Z T ρ σ H) {xs : List L2.V} {ds : List D} (h : IsAll (XX W Z ρ σ) H xs ds) {p : Addr} (hp : H p = none) : Env W n ((p, .lst xs) :: Z) T ρ σ (upd H p (.lst xs)) ∧ Ob (XX W ((p, .lst xs) :: Z) ρ σ) (upd H p (.lst xs)) (.lst xs) (.lst ds) := ⟨e.lay hp, .lst (h.mv (lay_mv e hp) _)⟩
theorem r_addL {ds es : List D} (hl : ds.length + es.length ≤ sizeLine) (p : P n (.lst (ds ++ es))) : DRF (rAddU K) W n ρ (.lst ds) (.lst es) P := drf_orr (drf_orr (drf_orl fun Z T σ H v1 v2 e i1 i2 Q k => by
  obtain ⟨a, xs, rfl, ha, h1⟩ := isw_lst i1
  obtain ⟨b, ys, rfl, hb, h2⟩ := isw_lst i2
  refine ⟨a, b, xs, ys, rfl, rfl, ha, hb, by rw [h1.len, h2.len]; exact hl, fun t ht => ?_⟩
  obtain ⟨e', i'⟩ := new_lst e (h1.append h2) ht
  exact k _ _ _ _ _ p e' i'))
theorem IsAll.rep {xs : List L2.V} {ds : List D} (h : IsAll X H xs ds) : ∀ n : Nat, IsAll X H (List.replicate n xs).flatten (List.replicate n ds).flatten
  | 0 => .nil
  | n + 1 => by
    rw [List.replicate_succ, List.replicate_succ, List.flatten_cons, List.flatten_cons]
    exact h.append (h.rep n)
theorem r_repL {ds : List D} {c : Int} (h1 : -(2 ^ 63) ≤ c) (h2 : c < 2 ^ 63) (hl : ds.length * c.toNat ≤ sizeLine) (p : P n (.lst (List.replicate c.toNat ds).flatten)) : DRF (rMulU K) W n ρ (.lst ds) (.int c) P := drf_orr (drf_orl fun Z T σ H v1 v2 e i1 i2 Q k => by
  obtain ⟨a, xs, rfl, ha, i⟩ := isw_lst i1
  cases isw_int i2
  refine ⟨a, c, xs, rfl, rfl, ha, h1, h2, by rw [i.len]; exact hl, fun t ht => ?_⟩
  obtain ⟨e', i'⟩ := new_lst e (i.rep c.toNat) ht
  exact k _ _ _ _ _ p e' i')
theorem r_repT {ds : List D} {c : Int} (h0 : ds ≠ []) (h1 : 2 ≤ c) (h2 : c ≤ 1000) (hl : ds.length ≤ 1000) (p : P n (.tup (List.replicate c.toNat ds).flatten)) : DR (rMulU K) W n ρ (.tup ds) (.int c) P := dr_orr (dr_orr fun Z T σ H v1 v2 e i1 i2 Q k => by
  obtain ⟨a, xs, rfl, ha, i, _⟩ := isw_tup i1
  cases isw_int i2
  refine ⟨a, c, xs, rfl, rfl, .of ha, fun q => h0 ?_, h1, h2, by rw [i.len]; exact hl, fun t ht => ?_⟩
  · subst q
    cases i
    rfl
  · obtain ⟨e', i'⟩ := new_tup e (i.rep c.toNat) ht
    exact k _ _ _ _ p e' i')
/-! items -/
theorem atI_all {xs : List L2.V} {ds : List D} (h : IsAll X H xs ds) {i : Int} {d : D} (hd : atI ds i = some d) : ∃ v, atI xs i = some v ∧ Is X H v d := by
  unfold atI at hd ⊢
  rw [h.len]
  cases q : ixN ds.length i with
  | none => rw [q] at hd; cases hd
  | some j =>
    rw [q] at hd
    exact h.got hd
theorem r_ix {ds : List D} {i : Int} (h : d1 = .lst ds ∨ d1 = .tup ds) (hd : atI ds i = some d) (p : P n d) : DR (rIx K) W n ρ d1 (.int i) P := fun Z T σ H v1 v2 e i1 i2 Q k => by
  cases isw_int i2
  rcases h with rfl | rfl
  · obtain ⟨a, xs, rfl, ha, h1⟩ := isw_lst i1
    obtain ⟨v, h2, h3⟩ := atI_all h1 hd
    exact .inl ⟨a, xs, i, v, rfl, rfl, .of ha, h2, k _ v d H p e h3⟩
  · obtain ⟨a, xs, rfl, ha, h1, _⟩ := isw_tup i1
    obtain ⟨v, h2, h3⟩ := atI_all h1 hd
    exact .inr (.inl ⟨a, xs, i, v, rfl, rfl, .of ha, h2, k _ v d H p e h3⟩)
theorem r_ixL {ds : List D} {i : Int} (hd : atI ds i = some d) (p : P n d) : DR (rIxU K) W n ρ (.lst ds) (.int i) P := dr_orl (r_ix (.inl rfl) hd p)
theorem r_ixT {ds : List D} {i : Int} (hd : atI ds i = some d) (p : P n d) : DR (rIxU K) W n ρ (.tup ds) (.int i) P := dr_orl (r_ix (.inr rfl) hd p)
/-- a key as a datum -/
def kD : Key → D
  | .inl i => .int i
  | .inr x => .str x
theorem isw_kD {k : Key} (h : IsW X H v (kD k)) : v = kV k := by
  cases k with
  | inl i => exact isw_int h
  | inr x => exact isw_str h
def dGet (ks : List Key) (l : List D) (k : Key) : Option D := ((ks.zip l).find? fun p => decide (p.1 = k)).map (·.2)
theorem val_get : ∀ {kvs : List (Key × L2.V)} {l : List D} {k : Key} {d : D}, IsAll X H (kvs.map (·.2)) l → dGet (kvs.map (·.1)) l k = some d → ∃ v, valV kvs k = some v ∧ Is X H v d
  | [], l, k, d, h, e => by cases h; cases e
  | (k', v) :: kvs, _, k, d, .cons h t, e => by
    by_cases q : k' = k
    · subst q
      unfold dGet at e
      simp at e
      subst e
      exact ⟨v, valV_pos rfl, h⟩
    · unfold dGet at e
      rw [List.map_cons, List.zip_cons_cons, List.find?_cons_of_neg (by simpa using q)] at e
      obtain ⟨w, h1, h2⟩ := val_get t e
      exact ⟨w, by rw [valV_neg q]; exact h1, h2⟩
theorem r_ixD {ks : List Key} {ds : List D} {k : Key} (h2 : d2 = kD k) (hd : dGet ks ds k = some d) (p : P n d) : DR (rIxU K) W n ρ (.dic ks ds) d2 P := dr_orr fun Z T σ H v1 v2 e i1 i2 Q q => by
  subst h2
  obtain ⟨a, kvs, rfl, ha, hk, h1⟩ := isw_dic i1
  subst hk
  obtain ⟨v, g1, g2⟩ := val_get h1 hd
  exact ⟨a, v, rfl, .inl ⟨kvs, k, .inl ha, isw_kD i2, g1.symm⟩, q _ v d H p e g2⟩
/-! slices -/
def cutD (ds : List D) (lo hi : Option Int) : List D := (ds.drop (HT.sIx ds.length 0 lo)).take (HT.sIx ds.length ds.length hi - HT.sIx ds.length 0 lo)
theorem IsAll.cut {xs : List L2.V} {ds : List D} (h : IsAll X H xs ds) (lo hi : Option Int) : IsAll X H (cutV xs lo hi) (cutD ds lo hi) := by
  unfold cutV cutD
  rw [h.len]
  exact (h.drop _).take _
def rSlU (K : PySem.W.Frag) : L2.V → Option Int → Option Int → Hp → VK → Prop := fun x lo hi H Q => rSlA K x lo hi H Q ∨ rSlL K x lo hi H Q
theorem sl_U {X : Cx} : SlR X (rSlU X.K) := sl_tupA.or sl_list
theorem r_slT {ds : List D} {lo hi : Option Int} (p : P n (.tup (cutD ds lo hi))) : DSl (rSlU K) W n ρ (.tup ds) lo hi P := fun Z T σ H v e i Q k => by
  have j := i.tup_is
  obtain ⟨a, xs, rfl, ha, h1, _⟩ := isw_tup i
  refine .inl ⟨a, xs, rfl, .of ha, fun q => ?_, fun _ t ht => ?_⟩
  · have : cutD ds lo hi = ds := by
      unfold cutD
      rw [h1.len] at q
      rw [q.1, q.2, List.drop_zero, Nat.sub_zero, List.take_length]
    rw [this] at p
    exact k _ _ _ H p e j
  · obtain ⟨e', i'⟩ := new_tup e (h1.cut lo hi) ht
    exact k _ _ _ _ p e' i'
def DSlF (r : L2.V → Option Int → Option Int → Hp → VK → Prop) (W : Wd) (n : Nat) (ρ : Rho) (d : D) (lo hi : Option Int) (P : Nat → D → Prop) : Prop := ∀ (Z : ZL) (T : TL) (σ : L2.St) (H : Hp) (v : L2.V), Env W n Z T ρ σ H → IsW (XX W Z ρ σ) H v d → ∀ Q : VK, RetF W Z T ρ σ P Q → r v lo hi H Q
theorem r_slL {ds : List D} {lo hi : Option Int} (p : P n (.lst (cutD ds lo hi))) : DSlF (rSlU K) W n ρ (.lst ds) lo hi P := fun Z T σ H v e i Q k => by
  obtain ⟨a, xs, rfl, ha, h1⟩ := isw_lst i
  refine .inr ⟨a, xs, rfl, .of ha, fun t ht => ?_⟩
  obtain ⟨e', i'⟩ := new_lst e (h1.cut lo hi) ht
  exact k _ _ _ _ _ p e' i'
theorem DSlF.sl {r : L2.V → Option Int → Option Int → Hp → VK → Prop} {lo hi : Option Int} (h : DSlF r W n ρ d lo hi P) : DSl r W n ρ d lo hi P := fun Z T σ H v e i Q k => h Z T σ H v e i Q (RetF.sh k)

/-! ### built-ins -/
theorem ws1 {vs : List L2.V} (h : IsWs X H vs [d]) : ∃ v, vs = [v] ∧ IsW X H v d := by
  cases h with
  | cons h t => cases t; exact ⟨_, rfl, h⟩
theorem ws2 {vs : List L2.V} (h : IsWs X H vs [d1, d2]) : ∃ v1 v2, vs = [v1, v2] ∧ IsW X H v1 d1 ∧ IsW X H v2 d2 := by
  cases h with
  | cons h t =>
    cases t with
    | cons h2 t => cases t; exact ⟨_, _, rfl, h, h2⟩
def rLenU (K : PySem.W.Frag) : List L2.V → Hp → VK → Prop := fun xs H Q => (fun xs H Q => ∃ p ys, xs = [L2.V.ref p] ∧ (SqL K H p ys ∨ SqT K H p ys) ∧ Q (.int ys.length) H) xs H Q ∨ (fun xs H Q => (∃ z, xs = [L2.V.str z] ∧ z.length ≤ sizeLine ∧ Q (.int z.length) H) ∨ ∃ a kvs, xs = [L2.V.ref a] ∧ H a = some (.dK kvs) ∧ Q (.int kvs.length) H) xs H Q
theorem call_lenU {X : Cx} : CallR X (.builtin "len") (rLenU X.K) := call_len_seq.or (call_len_str.or call_lenD)
theorem b_lenL {ds : List D} (p : P n (.int (ds.length : Int))) : DC (rLenU K) W n ρ [.lst ds] P := fun Z T σ H vs e i Q k => by
  obtain ⟨v, rfl, i1⟩ := ws1 i
  obtain ⟨a, xs, rfl, ha, h1⟩ := isw_lst i1
  exact .inl ⟨a, xs, rfl, .inl (.of ha), by rw [h1.len]; exact k _ _ _ H p e (.int _)⟩
theorem b_lenT {ds : List D} (p : P n (.int (ds.length : Int))) : DC (rLenU K) W n ρ [.tup ds] P := fun Z T σ H vs e i Q k => by
  obtain ⟨v, rfl, i1⟩ := ws1 i
  obtain ⟨a, xs, rfl, ha, h1, _⟩ := isw_tup i1
  exact .inl ⟨a, xs, rfl, .inr (.of ha), by rw [h1.len]; exact k _ _ _ H p e (.int _)⟩
theorem b_lenS {z : Str} (hz : z.length ≤ sizeLine) (p : P n (.int (z.length : Int))) : DC (rLenU K) W n ρ [.str z] P := fun Z T σ H vs e i Q k => by
  obtain ⟨v, rfl, i1⟩ := ws1 i
  cases isw_str i1
  exact .inr (.inl ⟨z, rfl, hz, k _ _ _ H p e (.int _)⟩)
theorem b_lenD {ks : List Key} {ds : List D} (p : P n (.int (ds.length : Int))) : DC (rLenU K) W n ρ [.dic ks ds] P := fun Z T σ H vs e i Q k => by
  obtain ⟨v, rfl, i1⟩ := ws1 i
  obtain ⟨a, kvs, rfl, ha, hk, h1⟩ := isw_dic i1
  have hl := h1.len
  rw [List.length_map] at hl
  exact .inr (.inr ⟨a, kvs, rfl, ha, by rw [hl]; exact k _ _ _ H p e (.int _)⟩)
/-- a read-only list that is no datum (the script) -/
theorem b_lenR {a : Addr} {xs : List L2.V} (hs : ∀ n H, W.G n H → SqL K H a xs) (p : P n (.int (xs.length : Int))) : DC (rLenU K) W n ρ [.raw a] P := fun Z T σ H vs e i Q k => by
  obtain ⟨v, rfl, i1⟩ := ws1 i
  cases isw_raw i1
  exact .inl ⟨a, xs, rfl, .inl (hs n H e.g), k _ _ _ H p e (.int _)⟩
def rAbs : List L2.V → Hp → VK → Prop := fun xs H Q => ∃ i, xs = [L2.V.int i] ∧ Q (.int (if i < 0 then -i else i)) H
theorem call_absU {X : Cx} : CallR X (.builtin "abs") rAbs := call_abs
theorem b_abs {i : Int} (p : P n (.int (if i < 0 then -i else i))) : DC rAbs W n ρ [.int i] P := fun Z T σ H vs e ia Q k => by
  obtain ⟨v, rfl, i1⟩ := ws1 ia
  cases isw_int i1
  exact ⟨i, rfl, k _ _ _ H p e (.int _)⟩
def rMin2 : List L2.V → Hp → VK → Prop := fun xs H Q => ∃ i j, xs = [L2.V.int i, L2.V.int j] ∧ Q (.int (if j < i then j else i)) H
def rMax2 : List L2.V → Hp → VK → Prop := fun xs H Q => ∃ i j, xs = [L2.V.int i, L2.V.int j] ∧ Q (.int (if j > i then j else i)) H
theorem call_min2U {X : Cx} (hc : X.calm = true) : CallR X (.builtin "min") rMin2 := call_min2 hc
theorem call_max2U {X : Cx} (hc : X.calm = true) : CallR X (.builtin "max") rMax2 := call_max2 hc
theorem b_min2 {i j : Int} (p : P n (.int (if j < i then j else i))) : DC rMin2 W n ρ [.int i, .int j] P := fun Z T σ H vs e ia Q k => by
  obtain ⟨v1, v2, rfl, i1, i2⟩ := ws2 ia
  cases isw_int i1; cases isw_int i2
  exact ⟨i, j, rfl, k _ _ _ H p e (.int _)⟩
theorem b_max2 {i j : Int} (p : P n (.int (if j > i then j else i))) : DC rMax2 W n ρ [.int i, .int j] P := fun Z T σ H vs e ia Q k => by
  obtain ⟨v1, v2, rfl, i1, i2⟩ := ws2 ia
  cases isw_int i1; cases isw_int i2
  exact ⟨i, j, rfl, k _ _ _ H p e (.int _)⟩
def rInt1 : List L2.V → Hp → VK → Prop := fun xs H Q => (∃ i, xs = [L2.V.int i] ∧ Q (.int i) H) ∨ ∃ k, xs = [L2.V.bl k] ∧ Q (.int (if k then 1 else 0)) H
theorem call_intU {X : Cx} : CallR X (.type "int") rInt1 := call_int1
theorem b_int {i : Int} (p : P n (.int i)) : DC rInt1 W n ρ [.int i] P := fun Z T σ H vs e ia Q k => by
  obtain ⟨v, rfl, i1⟩ := ws1 ia
  cases isw_int i1
  exact .inl ⟨i, rfl, k _ _ _ H p e (.int _)⟩
def rList (K : PySem.W.Frag) : List L2.V → Hp → VK → Prop := fun xs H Q => ∃ p ys, xs = [L2.V.ref p] ∧ (SqL K H p ys ∨ SqT K H p ys) ∧ ∀ l, H l = none → Q (.ref l) (upd H l (.lst ys))
theorem call_listU {X : Cx} : CallR X (.type "list") (rList X.K) := call_list_of
theorem b_list {ds : List D} (h : d = .lst ds ∨ d = .tup ds) (p : P n (.lst ds)) : DCF (rList K) W n ρ [d] P := fun Z T σ H vs e ia Q k => by
  obtain ⟨v, rfl, i1⟩ := ws1 ia
  rcases h with rfl | rfl
  · obtain ⟨a, xs, rfl, ha, h1⟩ := isw_lst i1
    refine ⟨a, xs, rfl, .inl (.of ha), fun t ht => ?_⟩
    obtain ⟨e', i'⟩ := new_lst e h1 ht
    exact k _ _ _ _ _ p e' i'
  · obtain ⟨a, xs, rfl, ha, h1, _⟩ := isw_tup i1
    refine ⟨a, xs, rfl, .inr (.of ha), fun t ht => ?_⟩
    obtain ⟨e', i'⟩ := new_lst e h1 ht
    exact k _ _ _ _ _ p e' i'
def rTuple (K : PySem.W.Frag) : List L2.V → Hp → VK → Prop := fun xs H Q => ∃ p ys, xs = [L2.V.ref p] ∧ ((SqL K H p ys ∧ ∀ l, H l = none → Q (.ref l) (upd H l (.tup ys))) ∨ (SqT K H p ys ∧ Q (.ref p) H))
theorem call_tupleU {X : Cx} : CallR X (.type "tuple") (rTuple X.K) := call_tuple_of
theorem b_tuple {ds : List D} (h : d = .lst ds ∨ d = .tup ds) (p : P n (.tup ds)) : DC (rTuple K) W n ρ [d] P := fun Z T σ H vs e ia Q k => by
  obtain ⟨v, rfl, i1⟩ := ws1 ia
  rcases h with rfl | rfl
  · obtain ⟨a, xs, rfl, ha, h1⟩ := isw_lst i1
    refine ⟨a, xs, rfl, .inl ⟨.of ha, fun t ht => ?_⟩⟩
    obtain ⟨e', i'⟩ := new_tup e h1 ht
    exact k _ _ _ _ p e' i'
  · have j := i1.tup_is
    obtain ⟨a, xs, rfl, ha, h1, _⟩ := isw_tup i1
    exact ⟨a, xs, rfl, .inr ⟨.of ha, k _ _ _ _ p e j⟩⟩
theorem b_all {bs : List Bool} (p : P n (.bl (bs.all id))) : DC (rAll K) W n ρ [.lst (bs.map D.bl)] P := fun Z T σ H vs e ia Q k => by
  obtain ⟨v, rfl, i1⟩ := ws1 ia
  obtain ⟨a, xs, rfl, ha, h1⟩ := isw_lst i1
  rw [all_bls h1] at ha
  exact ⟨a, bs, rfl, .of ha, k _ _ _ H p e (.bl _)⟩
theorem b_any {bs : List Bool} (p : P n (.bl (bs.any id))) : DC (rAny K) W n ρ [.lst (bs.map D.bl)] P := fun Z T σ H vs e ia Q k => by
  obtain ⟨v, rfl, i1⟩ := ws1 ia
  obtain ⟨a, xs, rfl, ha, h1⟩ := isw_lst i1
  rw [all_bls h1] at ha
  exact ⟨a, bs, rfl, .of ha, k _ _ _ H p e (.bl _)⟩
theorem b_sum {ns : List Int} (p : P n (.int ns.sum)) : DC (rSum K) W n ρ [.lst (ns.map D.int)] P := fun Z T σ H vs e ia Q k => by
  obtain ⟨v, rfl, i1⟩ := ws1 ia
  obtain ⟨a, xs, rfl, ha, h1⟩ := isw_lst i1
  rw [all_ints h1] at ha
  exact ⟨a, ns, rfl, .of ha, k _ _ _ H p e (.int _)⟩
theorem b_gcd {i j : Int} (p : P n (.int ((Nat.gcd i.natAbs j.natAbs : Nat) : Int))) : DC rGcd W n ρ [.int i, .int j] P := fun Z T σ H vs e ia Q k => by
  obtain ⟨v1, v2, rfl, i1, i2⟩ := ws2 ia
  cases isw_int i1; cases isw_int i2
  exact ⟨i, j, rfl, k _ _ _ H p e (.int _)⟩

/-! ### isinstance -/
/-- the built-in class of a datum -/
def D.tn : D → Option String
  | .non => some "NoneType"
  | .bl _ => some "bool"
  | .int _ => some "int"
  | .str _ => some "str"
  | .lst _ => some "list"
  | .tup _ => some "tuple"
  | .dic _ _ => some "dict"
  | .dct => some "dict"
  | _ => none
theorem tyx_of {n : String} (h : IsW X H v d) (e : d.tn = some n) : TyX K H v (.type n) := by
  cases d with
  | non => cases isw_non h; cases e; exact .base .non
  | bl b => cases isw_bl h; cases e; exact .base (.bl b)
  | int i => cases isw_int h; cases e; exact .base (.int i)
  | str x => cases isw_str h; cases e; exact .base (.str x)
  | lst ds => obtain ⟨a, xs, rfl, ha, _⟩ := isw_lst h; cases e; exact .base (.lst ha)
  | tup ds => obtain ⟨a, xs, rfl, ha, _⟩ := isw_tup h; cases e; exact .base (.tup ha)
  | dic ks ds => obtain ⟨a, kvs, rfl, ha, _⟩ := isw_dic h; cases e; exact .base (.dK ha)
  | dct =>
    cases e
    rcases h with h | ⟨a, o, _, _, h⟩
    · cases h with
      | dct hx ha => exact .base (.dT ha)
    · cases h
  | _ => cases e
theorem b_isi {m c : String} {b : Bool} (e : d.tn = some m) (hb : kitB m c = some b) (p : P n (.bl b)) : DC (rIsi K) W n ρ [d, .ty c] P := fun Z T σ H vs ev ia Q k => by
  obtain ⟨v1, v2, rfl, i1, i2⟩ := ws2 ia
  cases isw_ty i2
  exact ⟨v1, .ty c, _, _, b, rfl, .ty c, tyx_of i1 e, kit_ty hb, k _ _ _ H p ev (.bl _)⟩
/-- an own class -/
theorem b_isiC {m : String} {C : Addr} {b : Bool} (e : d.tn = some m) (hb : PySem.W.kitOne K (.type m) (.ref C) = some b) (p : P n (.bl b)) : DC (rIsi K) W n ρ [d, .raw C] P := fun Z T σ H vs ev ia Q k => by
  obtain ⟨v1, v2, rfl, i1, i2⟩ := ws2 ia
  cases isw_raw i2
  exact ⟨v1, .ref C, _, _, b, rfl, .own C, tyx_of i1 e, hb, k _ _ _ H p ev (.bl _)⟩
/-- what isinstance asks of an own class of instances -/
structure InsK (K : PySem.W.Frag) (C : Addr) : Prop where
  cl : Cls K C
  ha : PySem.W.findIn K (.ref C) "__class__" = some (some (.builtin "object.__class__"))
  hn : PySem.W.specialIn K (.builtin "object.__class__") "__get__" = some (some (.builtin "getset_descriptor.__get__"))
  htk : PySem.W.takesIn K (.builtin "object.__class__") = some true
  hm : PySem.W.mroIn K C (.type "object") = some true
theorem InsK.ty {C : Addr} (T : InsK K C) {ns : List Str} {l : List D} (h : IsW X H v (.ins C ns l)) : TyX K H v (.ref C) := by
  obtain ⟨a, dx, fs, rfl, ha, _⟩ := isw_ins h
  exact .base (.ins ha T.cl T.ha T.hn T.htk T.hm)
theorem b_isiI {C : Addr} {ns : List Str} {l : List D} {c : D} {cv : Value} {b : Bool} (I : InsK K C) (hc : (∃ m, c = .ty m ∧ cv = .type m) ∨ ∃ D, c = .raw D ∧ cv = .ref D) (hb : PySem.W.kitOne K (.ref C) cv = some b) (p : P n (.bl b)) : DC (rIsi K) W n ρ [.ins C ns l, c] P := fun Z T σ H vs ev ia Q k => by
  obtain ⟨v1, v2, rfl, i1, i2⟩ := ws2 ia
  rcases hc with ⟨n, rfl, rfl⟩ | ⟨D, rfl, rfl⟩
  · cases isw_ty i2
    exact ⟨v1, .ty n, _, _, b, rfl, .ty n, I.ty i1, hb, k _ _ _ H p ev (.bl _)⟩
  · cases isw_raw i2
    exact ⟨v1, .ref D, _, _, b, rfl, .own D, I.ty i1, hb, k _ _ _ H p ev (.bl _)⟩
theorem b_isiT2 {m c1 c2 : String} {b1 b2 : Bool} (e : d.tn = some m) (h1 : kitB m c1 = some b1) (h2 : kitB m c2 = some b2) (p : P n (.bl (b1 || b2))) : DC (rIsiT K) W n ρ [d, .tup [.ty c1, .ty c2]] P := fun Z T σ H vs ev ia Q k => by
  obtain ⟨v1, v2, rfl, i1, i2⟩ := ws2 ia
  obtain ⟨a, xs, rfl, ha, h, _⟩ := isw_tup i2
  cases h with
  | cons q1 t =>
    cases t with
    | cons q2 t =>
      cases t
      cases q1; cases q2
      refine ⟨v1, a, [.ty c1, .ty c2], _, [.type c1, .type c2], b1 || b2, rfl, ha, .cons (.ty c1) (.cons (.ty c2) .nil), tyx_of i1 e, kitAny_cons (kit_ty h1) (fun z => ?_) (fun z => by rw [z]; rfl), k _ _ _ H p ev (.bl _)⟩
      rw [z, Bool.false_or]
      exact kitAny_cons (kit_ty h2) (fun z => by rw [z]; exact kitAny_nil) (fun z => z)

/-! ### fields of instances -/
theorem lookup_get : ∀ {fs : List (Str × L2.V)} {ns : List Str} {ds : List D} {f : Str} {d : D}, fs.map (·.1) = ns → IsAll X H (fs.map (·.2)) ds → (ns.zip ds).lookup f = some d → ∃ v, fs.lookup f = some v ∧ Is X H v d
  | [], ns, ds, f, d, h1, h2, h3 => by
    subst h1
    simp at h3
  | (n, v) :: fs, ns, ds, f, d, h1, h2, h3 => by
    subst h1
    cases h2 with
    | @cons _ _ d0 ds' hd tl =>
      rw [List.map_cons, List.zip_cons_cons, List.lookup_cons] at h3
      rw [List.lookup_cons]
      cases q : f == n with
      | true =>
        rw [q] at h3
        cases h3
        exact ⟨v, rfl, hd⟩
      | false =>
        rw [q] at h3
        exact lookup_get rfl tl h3
theorem de_fld {ta : TE} {f : Str} (h : DE ta W n ρ fun n d => ∃ C ns l e, d = .ins C ns l ∧ Cls K C ∧ NoAttr K C f ∧ (ns.zip l).lookup f = some e ∧ P n e) : DE (tFld K ta f) W n ρ P := fun Z T σ H e Q k =>
  h Z T σ H e _ fun n v d H' ⟨C, ns, l, x, hd, hc, hn, hl, p⟩ e' i => by
    subst hd
    obtain ⟨a, dx, fs, rfl, ha, h1, h2⟩ := isw_ins (.inl i)
    obtain ⟨u, q1, q2⟩ := lookup_get h1 h2 hl
    exact ⟨a, C, dx, fs, u, rfl, ha, hc, hn, q1, k _ u x H' p e' q2⟩

/-! ### methods of a slot's own list -/
theorem own_lst {i : Nat} {ds : List D} (e : Env W n Z T ρ σ H) (h : ρ[i]? = some (some (true, .lst ds))) : ∃ a xs, σ[i]? = some (some (.ref a)) ∧ H a = some (.lst xs) ∧ IsAll (XX W Z ρ σ) H xs ds := by
  obtain ⟨a, o, h1, h2, h3, _⟩ := e.ow i _ h
  cases h3 with
  | lst q => exact ⟨a, _, h1, h2, q⟩
theorem tyL {a : Addr} {xs : List L2.V} (h : H a = some (.lst xs)) : tyV K "list" (.ref a) H := .inl ⟨rfl, xs, .of h⟩
variable {N : Nat → Rho → Prop} {R : Nat → Bool → D → Prop} {B C : Nat → Rho → Prop} {te ta : TE}
theorem own_same {i n' : Nat} {ds : List D} (e : Env W n Z T ρ σ H) {H' : Hp} (e' : Env W n' Z T ρ σ H') (h : ρ[i]? = some (some (true, .lst ds))) {a : Addr} (hs : σ[i]? = some (some (.ref a))) : ∃ xs, H' a = some (.lst xs) ∧ IsAll (XX W Z ρ σ) H' xs ds := by
  obtain ⟨b, xs, h1, h2, h3⟩ := own_lst e' h
  rw [hs] at h1; cases h1
  exact ⟨xs, h2, h3⟩
/-- x.append(e) -/
theorem ds_append {i : Nat} {ds : List D} (h : ρ[i]? = some (some (true, .lst ds))) (k : DE te W n ρ fun n d => ds.length < sizeLine ∧ N n (ρ.set i (some (true, .lst (ds ++ [d]))))) : DS (tDrop (tBM K "list" rAppend (tVar i) (tCons te tNil))) W n ρ N R B C := fun Z T σ H e De f => by
  obtain ⟨a, xs, h1, h2, h3⟩ := own_lst e h
  refine ⟨.ref a, h1, tyL h2, k Z T σ H e _ fun n v d H' ⟨hl, q⟩ e' iv => ?_⟩
  obtain ⟨ys, q1, q2⟩ := own_same e e' h h1
  exact ⟨a, ys, v, rfl, rfl, q1, by rw [q2.len]; exact hl, f.nx _ _ _ _ q (e'.put h h1 (.lst (q2.snoc iv)))⟩
/-- y = x.pop() -/
theorem ds_pop {i j : Nat} {ds : List D} {d : D} (h : ρ[i]? = some (some (true, .lst (ds ++ [d])))) (q : N n ((ρ.set i (some (true, .lst ds))).set j (some (false, d)))) : DS (tAsg (tBM0 K "list" rPop (tVar i)) (gName j)) W n ρ N R B C := fun Z T σ H e De f => by
  obtain ⟨a, xs, h1, h2, h3⟩ := own_lst e h
  have hl := h3.len
  rw [List.length_append] at hl
  have hl : xs.length = ds.length + 1 := hl
  obtain ⟨v, q1, q2⟩ := h3.got (i := ds.length) (d := d) (by rw [List.getElem?_append_right (Nat.le_refl _), Nat.sub_self]; rfl)
  have h4 : IsAll (XX W Z ρ σ) H xs.dropLast ds := by
    have := h3.take ds.length
    rw [List.take_left' rfl] at this
    rw [List.dropLast_eq_take, hl]
    exact this
  have e1 : Env W n Z ((v, d) :: T) (ρ.set i (some (true, .lst ds))) σ (upd H a (.lst xs.dropLast)) := (e.push q2).put h h1 (.lst h4)
  exact ⟨.ref a, h1, tyL h2, a, xs, v, rfl, rfl, h2, by rw [hl]; exact q1, f.nx _ _ _ _ q (e1.pop1.set e1.top)⟩
end
end HD

namespace HD
open PySem PySem.Spec PyProof.Rows L2

/-! ### defs of the text -/
/-- the def x stands in the module, its body is st's -/
structure Def (K : PySem.W.Frag) (mg : Str → Option Value) (x : Str) (st : Stmt) (ps : List Str) : Prop where
  ex : ∃ (f : Addr) (fd : FuncData), Fun K x x st f fd ∧ mg x = some (.ref f) ∧ Binds K fd ps []
/-- the def x keeps the promise sp -/
structure Cal (P : Program) (w : World) (K : PySem.W.Frag) (mg : Str → Option Value) (base : Heap) (k : Nat) (x : Str) (st : Stmt) (ps : List Str) (sp : Sp) : Prop where
  ex : ∃ (f : Addr) (fd : FuncData), FnOk P w K mg base (L2.CX P w) k f fd ps sp ∧ mg x = some (.ref f) ∧ PySem.W.keepIn K (.ref f) = true ∧ Binds K fd ps [] ∧ Fun K x x st f fd
/-- the context of the body -/
abbrev cxD (P : Program) (w : World) (K : PySem.W.Frag) (mg : Str → Option Value) (base : Heap) (N : List Str) (x : Str) (st : Stmt) (f : Addr) (cdv : Value) (A : Around) (outer : List PySem.Env) (s : Shared) (H : Hp) (E : XK) : Cx :=
  cxOf (L2.CX P w) P w K mg base N x (defScope st) f cdv A outer s H E
section
variable {P : Program} {w : World} {K : PySem.W.Frag} {mg : Str → Option Value} {base : Heap} {k m : Nat} {x : Str} {st : Stmt} {N ps : List Str} {V : AP} {G : Nat → Hp → Prop} {pre : Nat → List D → Prop} {post : Nat → List D → Nat → Out → Prop}
theorem Def.raw {sp : Sp} (Dd : Def K mg x st ps) (S : FnScope N ps (defScope st)) (len : ∀ vs H Q E, sp vs H Q E → vs.length = ps.length)
    (h : ∀ (f : Addr) (cdv : Value) (A : Around) (outer : List PySem.Env) (s : Shared) (H : Hp) (vs : List L2.V) (Q : VK) (E : XK), Room k (A.deeper (envOfC x (defScope st) s.heap.objs.size f cdv)) → sp vs H Q E →
      ∃ t, PSs (cxD P w K mg base N x st f cdv A outer s H E) (defBody st) t ∧ t { nx := fun _ H' => Q .non H', rt := Q } (L2.start N vs) H) : Cal P w K mg base (k + 1) x st ps sp := by
  obtain ⟨f, fd, F, hm, hb⟩ := Dd.ex
  exact ⟨f, fd, F.okX S len fun cdv A outer s H vs Q E hr q => h f cdv A outer s H vs Q E hr q, hm, F.kp, hb, F⟩
theorem Def.ok (Dd : Def K mg x st ps) (S : FnScope N ps (defScope st)) (hn : m = ps.length) (ST : Stab V G)
    (h : ∀ (f : Addr) (cdv : Value) (A : Around) (outer : List PySem.Env) (s : Shared) (H : Hp) (E : XK), Room k (A.deeper (envOfC x (defScope st) s.heap.objs.size f cdv)) →
      ∃ t, PSs (cxD P w K mg base N x st f cdv A outer s H E) (defBody st) t ∧ ∀ (W : Wd) (n : Nat) (ds : List D), W.V = V → W.G = G → W.E = E → W.EP = (fun n' C ns l => post n ds n' (.exc C ns l)) → ds.length = m → pre n ds →
        DS t W n (startR N ds) (fun n' _ => post n ds n' (.ret false .non)) (fun n' b d => post n ds n' (.ret b d)) (fun _ _ => False) (fun _ _ => False)) : Cal P w K mg base (k + 1) x st ps (Prm m V G pre post) := by
  refine Dd.raw S (fun vs H Q E q => by rw [prm_len q, hn]) fun f cdv A outer s H vs Q E hr q => ?_
  obtain ⟨t, ht, hd⟩ := h f cdv A outer s H E hr
  exact ⟨t, ht, prm_body ST q hd⟩
/-- a promise made less -/
theorem Cal.weak {pre' : Nat → List D → Prop} {post' : Nat → List D → Nat → Out → Prop} (C : Cal P w K mg base k x st ps (Prm m V G pre post)) (h1 : ∀ n ds, pre' n ds → pre n ds) (h2 : ∀ n ds n' o, pre' n ds → post n ds n' o → post' n ds n' o) : Cal P w K mg base k x st ps (Prm m V G pre' post') := by
  obtain ⟨f, fd, F, hm, hk, hb, hF⟩ := C.ex
  have key : ∀ vs H Q E, Prm m V G pre' post' vs H Q E → Prm m V G pre post vs H Q E := fun vs H Q E ⟨X, ds, n, a1, a2, a3, a4, a5, a6, a7, a8, a9⟩ =>
    ⟨X, ds, n, a1, a2, a3, a4, a5, h1 n ds a6, fun n' v d H' p => a7 n' v d H' (h2 n ds n' _ a6 p), fun n' a o d H' p => a8 n' a o d H' (h2 n ds n' _ a6 p), fun n' C ns l od H' p => a9 n' C ns l od H' (h2 n ds n' _ a6 p)⟩
  exact ⟨f, fd, ⟨fun vs H Q E q => F.len vs H Q E (key vs H Q E q), fun A outer s H args us vs Q E hr e0 hbt r q => F.run A outer s H args us vs Q E hr e0 hbt r (key vs H Q E q)⟩, hm, hk, hb, hF⟩
end
section
variable {X : Cx} {k : Nat} {x : Str} {st : Stmt} {ps : List Str} {sp : Sp} {E : XK} {p pos : Pos} {e : Expr} {es : List Expr} {t : TA}
/-- f(e, ..) -/
theorem pe_cal (C : Cal X.prog X.w X.K X.mg X.base k x st ps sp) (hr : Room k X.A) (hx : Passes (L2.CX X.prog X.w) X E) (hg : Gl X x) (ha : PA X (e :: es) t) (hdb : (x == ("__debug__" : Str)) = false := by decide)
    (he : starEach (e :: es) X.env = (false, eval e X.env) :: starEach es X.env := by rfl) (hpl : (backTo pos (starEach es X.env)).any (·.1) = false := by rfl) : PE X (.Call (.Name x p) (e :: es) [] pos) (tCall sp [] E t) := by
  obtain ⟨f, fd, F, hm, hk, hb, _⟩ := C.ex
  exact pe_call F hr hg hm hk hb .nil hx ha hdb he hpl
theorem pe_cal0 (C : Cal X.prog X.w X.K X.mg X.base k x st ps sp) (hr : Room k X.A) (hx : Passes (L2.CX X.prog X.w) X E) (hg : Gl X x) (hdb : (x == ("__debug__" : Str)) = false := by decide) : PE X (.Call (.Name x p) [] [] pos) (tCall sp [] E tNil) := by
  obtain ⟨f, fd, F, hm, hk, hb, _⟩ := C.ex
  exact pe_call0 F hr hg hm hk hb .nil hx hdb
/-- in a def's body errors go out as the def's own -/
theorem passD {P : Program} {w : World} {K : PySem.W.Frag} {mg : Str → Option Value} {base : Heap} {N : List Str} {x : Str} {st : Stmt} {f : Addr} {cdv : Value} {A : Around} {outer : List PySem.Env} {s : Shared} {H : Hp} {E : XK} :
    Passes (L2.CX P w) (cxD P w K mg base N x st f cdv A outer s H E) E := passes_call (takes_of rfl rfl rfl rfl) fun _ _ _ _ h => h
end
end HD

namespace HD
open PySem PySem.Spec PyProof.Rows L2

/-! ### a caught error is kept: try: body / except x as n: suite, and behind it the error is tracked -/
def wKeep (K : PySem.W.Frag) (m : Nat) (c : Value) (i : Nat) (ts : Addr → Value → Option Addr → TS) (D : Ends) : WX := fun cls d σ H =>
  ∃ C : Addr, cls = .ref C ∧ PySem.W.exmOne K cls c = some true ∧ ∀ a, σ.length = m → H a = none → ts a cls d { nx := fun σ' H' => D.nx (σ'.set i none) (upd H' a (excH a C d)), rt := fun _ _ => False, bk := fun _ _ => False, ct := fun _ _ => False } (σ.set i (some (.ref a))) H
section
variable {X : Cx} {x n : Str} {c : Value} {i : Nat} {body suite : List Stmt} {b₀ : Stmt} {np pos pos' : Pos} {tb : WX → TS} {ts : Addr → Value → Option Addr → TS}
theorem track {pins : List (Addr × Obj)} {σ : L2.St} {H : Hp} {s : Shared} {a C : Addr} {oe : Obj} {d : Option Addr} (I : L2.Inv X ((a, oe) :: pins) σ H s) (hz : Zc (.ref C) d oe) (hd : ∃ vs, oe.data = .fields vs) (h0 : X.s_0.heap.get? a = none)
    (hp : ∀ p ∈ X.pn ++ pins, p.1 ≠ a) : L2.Inv X pins σ (upd H a (excH a C d)) s := by
  obtain ⟨vs, hd⟩ := hd
  obtain ⟨e, na, nL, nF, _⟩ := I.pin (a, oe) (List.mem_append_right _ List.mem_cons_self)
  have e : s.heap.get? a = some oe := e
  have na : H a = none := na
  have J : L2.Inv X pins σ H s := I.pins_of fun p hp => I.pin p (List.mem_append_right _ (List.mem_cons_of_mem _ hp))
  have neT : ∀ b u, H b = some u → b ≠ a := fun b u q => ne_of_none q na
  have ne0 : ∀ b o, X.s_0.heap.get? b = some o → b ≠ a := fun b o q z => by
    rw [z, h0] at q; cases q
  refine ⟨J.ok, J.os, J.bare, ⟨J.base.keep, J.base.slot, fun b o q n hx => ?_, J.base.there, fun b xs q => ?_, fun b o u q => ?_, fun b ps q => ?_⟩, J.loc, J.cell, ?_, fun y c q => ?_, fun p hp' => ?_, fun b u q => ?_, J.len⟩
  · rw [upd_ne (ne0 b o q)]
    exact J.base.free b o q n hx
  · have z := J.base.tups b xs q
    rw [upd_ne (neT b _ z)]
    exact z
  · have z := J.base.frzs b o u q
    rw [upd_ne (neT b _ z)]
    exact z
  · obtain ⟨m, z⟩ := J.base.tbls b ps q
    exact ⟨m, by rw [upd_ne (neT b _ z)]; exact z⟩
  · rw [upd_ne (Ne.symm nL)]
    exact J.free
  · have ne : c ≠ a := fun z => by
      obtain ⟨v, o, ho, hdc⟩ := J.cell y c q
      rw [z, e] at ho
      cases ho
      rw [hd] at hdc
      cases hdc
    rw [upd_ne ne]
    exact J.freeC y c q
  · obtain ⟨q1, q2, q3, q4, q5⟩ := J.pin p hp'
    exact ⟨q1, by rw [upd_ne (hp p hp')]; exact q2, q3, q4, q5⟩
  · by_cases hb : b = a
    · subst hb
      rw [upd_same] at q
      cases q
      exact ⟨⟨oe, vs, e, hz, hd⟩, ⟨oe, e⟩, fun h1 h2 ⟨o, v, q1, q2, q3⟩ k => ⟨o, v, k o q1, q2, q3⟩⟩
    · rw [upd_ne hb] at q
      exact (J.hok b u q).stay (fun _ _ _ q => q) (fun b' q' => by rw [upd_ne (neT b' _ q')]; exact q') fun b' xs q' => by rw [upd_ne (neT b' _ q')]; exact q'
theorem ps_try_keep (hex : X.ex = []) (hs : X.stack = X.env :: X.outer) (hf : X.env.frame = some X.env.locals) (hN : X.N.Nodup) (hi : X.N[i]? = some n) (hln : X.env.kindOf n = some .local) (hc : Names X x c)
    (hb : ∀ (W : WX) (pn : List (Addr × Obj)) (xe : Value → Shared → Prop), Takes (X.tr pn xe) W → PassesOwn (model X.prog X.w) X.A X.env xe → PSs (X.tr pn xe) body (tb W))
    (hsu : ∀ (a : Addr) (oe : Obj) (cls : Value) (d : Option Addr) (pn : List (Addr × Obj)), Zc cls d oe → (∃ vs, oe.data = .fields vs) → PSs (X.suite a ((a, oe) :: pn)) (b₀ :: suite) (ts a cls d)) :
    PS X (.Try body [.ExceptHandler (some (.Name x np)) (some n) (b₀ :: suite) pos'] [] [] pos) (fun D σ H => tb (wKeep X.K X.N.length c i ts D) D σ H) := by
  refine ⟨fun pins s σ H D I h => ?_⟩
  have ok := I.ok
  have hfr : X.A.frames = some (X.env :: X.outer) := by rw [ok.frames, hs]
  have hloc : Loc X.env.scope n := .inl hln
  refine wpAny_Try_except ?_
  refine wpAny_mono ((hb (wKeep X.K X.N.length c i ts D) (X.pn ++ pins) (fun e s₁ => wpAny (model X.prog X.w) X.A (noteFrame e X.env) (fun _ s₂ => wpAny (model X.prog X.w) X.A (setFlight e none) (fun _ s₃ =>
    wpAny (model X.prog X.w) X.A (handleBy e X.env [.ExceptHandler (some (.Name x np)) (some n) (b₀ :: suite) pos']) (SP X pins D) X.xe s₃) X.xe s₂) X.xe s₁) (fun u s' xx => ?_) PassesOwn.looking).run [] s σ H D (I.toTry _) h) (fun f s1 hsp => ?_) (fun e s1 he => he)
  · -- the catch
    obtain ⟨a, B, sI, pins', σ', H', cls, d, rfl, J', nb, up, sky, na, os, ag, C, hC, hb1, hyes⟩ := xx
    subst hC
    have J : L2.Inv X pins σ' H' sI := J'.ofTry ok
    have sky' : Sky B (X.env :: X.outer) a (Zc (.ref C) d) X.env.locals s'.heap := by rw [← hs]; exact sky
    have nB : B.get? a = none := by
      rcases sky' with z | z | z
      · exact z.2.1
      · exact z.2.1
      · exact z.2.1
    show wpAny (model X.prog X.w) X.A (noteFrame (.ref a) X.env) _ _ _
    refine Sky.land Zc.steady hfr hf sky' fun h3 fl3 up3 => ?_
    have J3 : L2.Inv X pins σ' H' { s' with heap := h3 } := J.landed nb fl3.1 (up.trans up3) os ag
    obtain ⟨oe3, vs3, he3, hz3, hd3⟩ := fl3.there
    have notFr : ∀ {h : Heap} {o : Obj} {vs : Array Value}, h.FunFrames B (X.env :: X.outer) → h.get? a = some o → o.data = .fields vs → a ∉ frs (X.env :: X.outer) := fun {h o vs} ff e dd hm => by
      obtain ⟨_, o', e', hnf⟩ := ff.mem hm
      rw [e] at e'; cases e'
      exact hnf _ dd
    have nfr := notFr fl3.2.2.1 he3 hd3
    have nL : a ≠ X.env.locals := fun z => nfr (List.mem_filterMap.mpr ⟨X.env, List.mem_cons_self, by rw [hf, z]⟩)
    have nF : a ∉ X.fs := fun hm => by
      obtain ⟨e, he, q⟩ := List.mem_filterMap.mp hm
      exact nfr (List.mem_filterMap.mpr ⟨e, List.mem_cons_of_mem _ he, q⟩)
    have nI : sI.heap.get? a = none := by
      cases q : sI.heap.get? a with
      | none => rfl
      | some o =>
        have := nb a o q (by rw [hs]; exact nfr)
        rw [nB] at this; cases this
    have n0 : X.s_0.heap.get? a = none := by
      cases q : X.s_0.heap.get? a with
      | none => rfl
      | some o =>
        obtain ⟨o', z⟩ := J.base.there a o q (by rw [hex]; exact fun z => nomatch z)
        rw [nI] at z; cases z
    have pnA : ∀ p ∈ X.pn ++ pins, p.1 ≠ a := fun p hp z => by
      have := (J.pin p hp).1
      rw [z, nI] at this; cases this
    have S3 := J3.suite he3 hd3 na nL nF
    refine wpAny_handleBy_cons (codeAny_handlers_test ?_) (by intro q; cases q)
    have LT : PySem.W.Looks (model X.prog X.w) h3 (typeOf (.ref a)) (.ref C) := fun A Q E s k q => wpAny_typeOf_ref (k _ _ he3) (by rw [hz3.1]; exact q)
    have LM := PySem.W.exm_one (M := model X.prog X.w) (J3.kIn) LT hb1
    have test : ∀ {Q : Value → Shared → Prop} {E : Value → Shared → Prop}, Q c { s' with heap := h3 } → wpAny (model X.prog X.w) (X.A.mark (some (.ref a))) (eval (.Name x np) X.env) Q E { s' with heap := h3 } := fun {Q E} q => by
      obtain ⟨hg, hdbg, hm | ⟨hm, hv, hnn⟩⟩ := hc
      · exact ld_glob (X := X.suite a ((a, oe3) :: (X.pn ++ pins))) S3 hg hm q hdbg
      · exact ld_blt (X := X.suite a ((a, oe3) :: (X.pn ++ pins))) S3 hg hm hv q hnn hdbg
    refine test (LM.here ?_)
    refine codeAny_handlers_suite_as ?_
    refine HandSPX.lands_againZ fl3 fun h4 fl4 up4 => ?_
    have J4 : L2.Inv X pins σ' H' { s' with heap := h4 } := J.landed nb fl4.1 ((up.trans up3).trans up4) os ag
    obtain ⟨oe4, vs4, he4, hz4, hd4⟩ := fl4.there
    have S4 := J4.suite he4 hd4 na nL nF
    refine store_ok (X := X.suite a ((a, oe4) :: (X.pn ++ pins))) (v := .ref a) S4 hN hi hloc rfl (fun s5 S5 => ?_) (.inr hln)
    refine wpAny_mono ((hsu a oe4 (.ref C) d (X.pn ++ pins) hz4 ⟨_, hd4⟩).run [] s5 _ H' _ S5 (hyes a J.len na)) (fun f s6 hsp => ?_) (fun _ _ z => False.elim z)
    cases f with
    | next =>
      obtain ⟨σ6, H6, S6, q6⟩ := hsp
      have S7 : L2.Inv X ((a, oe4) :: pins) σ6 H6 s6 := ⟨ok, S6.os, S6.bare, S6.base, S6.loc, S6.cell, S6.free, S6.freeC, fun p hp => S6.pin p (by
        rcases List.mem_append.mp hp with z | z
        · exact List.mem_append_left _ (List.mem_cons_of_mem _ (List.mem_append_left _ z))
        · rcases List.mem_cons.mp z with z | z
          · rw [z]; exact List.mem_append_left _ List.mem_cons_self
          · exact List.mem_append_left _ (List.mem_cons_of_mem _ (List.mem_append_right _ z))), S6.hok, S6.len⟩
      exact gone_ok S7 hN hi hln fun s7 J7 => ⟨_, _, track J7 hz4 ⟨_, hd4⟩ n0 pnA, q6⟩
    | brk =>
      obtain ⟨σ6, H6, S6, q6⟩ := hsp
      exact q6.elim
    | cont =>
      obtain ⟨σ6, H6, S6, q6⟩ := hsp
      exact q6.elim
    | ret u =>
      obtain ⟨v6, σ6, H6, S6, r6, q6⟩ := hsp
      exact q6.elim
  · cases f with
    | next =>
      obtain ⟨σ', H', J', q⟩ := hsp
      exact wpAny_execs_nil ⟨σ', H', J'.ofTry ok, q⟩
    | brk =>
      obtain ⟨σ', H', J', q⟩ := hsp
      exact ⟨σ', H', J'.ofTry ok, q⟩
    | cont =>
      obtain ⟨σ', H', J', q⟩ := hsp
      exact ⟨σ', H', J'.ofTry ok, q⟩
    | ret u =>
      obtain ⟨v, σ', H', J', r, q⟩ := hsp
      exact ⟨v, σ', H', J'.ofTry ok, r, q⟩
end

/-! ### isinstance of a kept error -/
def rIsX (K : PySem.W.Frag) : List L2.V → Hp → VK → Prop := fun xs H Q => ∃ (a Dc : Addr) (od : Option Addr) (c : L2.V) (cv : Value) (b : Bool), xs = [.ref a, c] ∧ H a = some (excH a Dc od) ∧ ExcC K Dc ∧ (∀ u, RelV c u → u = cv) ∧ PySem.W.kitOne K (.ref Dc) cv = some b ∧ Q (.bl b) H
theorem call_isX0 {X : Cx} : CallR X (.builtin "isinstance") (fun xs H Q => ∃ (a Dc : Addr) (c : L2.V) (cv : Value) (b : Bool), xs = [.ref a, c] ∧ H a = some (excH a Dc none) ∧ ExcC X.K Dc ∧ (∀ u, RelV c u → u = cv) ∧ PySem.W.kitOne X.K (.ref Dc) cv = some b ∧ Q (.bl b) H) := by
  intro pins s σ H xs us Q I r h
  obtain ⟨a, Dc, c, cv, b, rfl, ha, C, hcv, e, q⟩ := h
  obtain ⟨u1, u2, rfl, rx, rt⟩ := vals2 r
  cases rx
  have ec := hcv _ rt
  subst ec
  obtain ⟨⟨oe, vs, hget, hz, hv⟩, _, _⟩ := I.hok a _ ha
  have J : PySem.W.InstAt s.heap a oe Dc none := by
    obtain ⟨oc, od, oda, osl⟩ := oe
    obtain ⟨h1, h2⟩ := hz
    dsimp only at h1 h2 hv
    subst h1 h2 hv
    exact ⟨hget, rfl, rfl, trivial⟩
  exact PySem.W.kia_one (PySem.W.handS_kitx_exc C.hg C.hk C.hs C.hd C.ha C.hn C.ht C.hm) I.kIn J e (fun z => nomatch z) fun tk => ⟨.bl b, H, I.kept (t' := tk) fun _ _ z => z, rfl, q⟩
end HD

namespace HD
open PySem PySem.Spec PyProof.Rows L2
theorem bb_len : bootBuiltins "len" = some (.builtin "len") := by decide +kernel
theorem bb_abs : bootBuiltins "abs" = some (.builtin "abs") := by decide +kernel
theorem bb_all : bootBuiltins "all" = some (.builtin "all") := by decide +kernel
theorem bb_any : bootBuiltins "any" = some (.builtin "any") := by decide +kernel
theorem bb_sum : bootBuiltins "sum" = some (.builtin "sum") := by decide +kernel
theorem bb_min : bootBuiltins "min" = some (.builtin "min") := by decide +kernel
theorem bb_max : bootBuiltins "max" = some (.builtin "max") := by decide +kernel
theorem bb_isinstance : bootBuiltins "isinstance" = some (.builtin "isinstance") := by decide +kernel
theorem bb_int : bootBuiltins "int" = some (.type "int") := by decide +kernel
theorem bb_bool : bootBuiltins "bool" = some (.type "bool") := by decide +kernel
theorem bb_list : bootBuiltins "list" = some (.type "list") := by decide +kernel
theorem bb_tuple : bootBuiltins "tuple" = some (.type "tuple") := by decide +kernel
theorem bb_dict : bootBuiltins "dict" = some (.type "dict") := by decide +kernel
theorem bb_str : bootBuiltins "str" = some (.type "str") := by decide +kernel

/-! ### a module's whole number -/
theorem pe_gint {X : Cx} {x : Str} {i : Int} {pos : Pos} (hg : Gl X x) (h : ∃ t, X.mg x = some (.int i t)) (hd : (x == ("__debug__" : Str)) = false := by decide) : PE X (.Name x pos) (tC (.int i)) := by
  obtain ⟨t, e⟩ := h
  exact pe_glob hg e ⟨t, rfl⟩ hd
/-! ### loops in a def that may raise -/
theorem passOwnU {P : Program} {w : World} {K : PySem.W.Frag} {mg : Str → Option Value} {base : Heap} {N : List Str} {x : Str} {st : Stmt} {f : Addr} {cdv : Value} {A : Around} {outer : List PySem.Env} {s : Shared} {H : Hp} {E : XK} :
    PassesOwn (model (cxD P w K mg base N x st f cdv A outer s H E).prog (cxD P w K mg base N x st f cdv A outer s H E).w) (cxD P w K mg base N x st f cdv A outer s H E).A (cxD P w K mg base N x st f cdv A outer s H E).env (cxD P w K mg base N x st f cdv A outer s H E).xe := passes_of rfl
/-! ### a list or a tuple walked -/
def iSeq (K : PySem.W.Frag) (tl : TE) : TI := fun σ H R => tl σ H fun x H1 => ∃ a, x = .ref a ∧ (((∃ xs, SqL K H1 a xs) ∧ R (Itl K a) H1) ∨ ((∃ xs, SqT K H1 a xs) ∧ R (Itt K a) H1))
theorem pi_seq {X : Cx} {tg l : Expr} {tl : TE} (hl : PE X l tl) : PI X tg l (iSeq X.K tl) := by
  refine ⟨fun pins s σ H R I h => ?_⟩
  refine thn (hl.run pins s σ H _ I h) fun v s1 ⟨x, H1, I1, r1, q1⟩ => ?_
  obtain ⟨a, e, q⟩ := q1
  subst e
  cases r1
  rcases q with ⟨hs, q⟩ | ⟨hs, q⟩
  · obtain ⟨xs, hq⟩ := hs
    obtain ⟨its, rv, p, hz⟩ := I1.list hq
    refine wpAny_pyIter_list p.isList ?_
    refine ⟨s1.heap.objs.size, [s1.heap.objs.size], _, _, H1, rfl, I1.kept (t' := s1.toks) fun b o e => Heap.get?_push_of_some _ e, turn_list a _, ⟨_, Heap.get?_push_size _ rfl, rfl, rfl⟩, fun b hb => ?_, q⟩
    rw [show b = s1.heap.objs.size by simpa using hb]
    exact I1.fpOk (Nat.le_refl _) (I1.hok.fresh (Nat.le_refl _))
  · obtain ⟨xs, hq⟩ := hs
    obtain ⟨its, rv, p, hz⟩ := I1.tuple hq
    refine wpAny_pyIter_tuple (show s1.heap.IsTuple a its.toArray from p) ?_
    refine ⟨s1.heap.objs.size, [s1.heap.objs.size], _, _, H1, rfl, I1.kept (t' := s1.toks) fun b o e => Heap.get?_push_of_some _ e, turn_tuple a _, ⟨_, Heap.get?_push_size _ rfl, rfl, rfl⟩, fun b hb => ?_, q⟩
    rw [show b = s1.heap.objs.size by simpa using hb]
    exact I1.fpOk (Nat.le_refl _) (I1.hok.fresh (Nat.le_refl _))
theorem it_list {W : Wd} {K : PySem.W.Frag} {a : Addr} {ds : List D} : ItOk W [(.ref a, .lst ds)] (Itl K a) ds := fun n Z T ρ σ H hT e i => by
  have q := e.t (.ref a, .lst ds) (hT _ List.mem_cons_self)
  cases q with
  | @lst _ ys _ hx2 hr2 ha2 =>
    have hl := ha2.len
    refine ⟨fun hi => ⟨⟨ys, ys[i]'(by omega), .of hr2, by simp [hl, hi]⟩, fun x H' ⟨eh, y⟩ => ?_⟩, fun hi => ⟨ys, .of hr2, by omega⟩⟩
    subst eh
    obtain ⟨d, h1, h2⟩ := ha2.get (y ys (.of hr2))
    exact ⟨d, h1, e.push h2⟩
theorem it_tup {W : Wd} {K : PySem.W.Frag} {a : Addr} {ds : List D} : ItOk W [(.ref a, .tup ds)] (Itt K a) ds := fun n Z T ρ σ H hT e i => by
  have q := e.t (.ref a, .tup ds) (hT _ List.mem_cons_self)
  cases q with
  | @tup _ ys _ hx2 hr2 ha2 =>
    have hl := ha2.len
    refine ⟨fun hi => ⟨⟨ys, ys[i]'(by omega), .of hr2, by simp [hl, hi]⟩, fun x H' ⟨eh, y⟩ => ?_⟩, fun hi => ⟨ys, .of hr2, by omega⟩⟩
    subst eh
    obtain ⟨d, h1, h2⟩ := ha2.get (y ys (.of hr2))
    exact ⟨d, h1, e.push h2⟩
section
variable {W : Wd} {n : Nat} {ρ : Rho} {K : PySem.W.Frag}
theorem di_seq {tl : TE} {P : Nat → List D → Prop} (h : DE tl W n ρ fun n d => ∃ ds, (d = .lst ds ∨ d = .tup ds) ∧ P n ds) : DI (iSeq K tl) W n ρ P := fun Z T σ H e Q k =>
  h Z T σ H e _ fun n v d H' ⟨ds, hd, p⟩ e' i => by
    have e1 : Env W n Z ([(v, d)] ++ T) ρ σ H' := e'.push i
    rcases hd with rfl | rfl
    · cases i with
      | @lst a xs _ hx hr ha => exact ⟨a, rfl, .inl ⟨⟨xs, .of hr⟩, k _ _ ds _ H' p e1 it_list⟩⟩
    · cases i with
      | @tup a xs _ hx hr ha => exact ⟨a, rfl, .inr ⟨⟨xs, .of hr⟩, k _ _ ds _ H' p e1 it_tup⟩⟩
theorem di_seqL {tl : TE} {P : Nat → List D → Prop} (h : DE tl W n ρ fun n d => ∃ ds, d = .lst ds ∧ P n ds) : DI (iSeq K tl) W n ρ P := di_seq (h.imp fun _ _ ⟨ds, e, p⟩ => ⟨ds, .inl e, p⟩)
theorem di_seqT {tl : TE} {P : Nat → List D → Prop} (h : DE tl W n ρ fun n d => ∃ ds, d = .tup ds ∧ P n ds) : DI (iSeq K tl) W n ρ P := di_seq (h.imp fun _ _ ⟨ds, e, p⟩ => ⟨ds, .inr e, p⟩)
end

/-! ### a dict of one pair, its key a tuple -/
def tDispT1 (tk tv : TE) : TE := fun σ H Q => ∀ p, H p = none → tk σ (upd H p (.dT [])) fun x H1 => tv σ H1 fun y H2 => H2 p = some (.dT []) ∧ ∃ (b : Addr) (k : List Key), x = .ref b ∧ H2 b = some (.tup (k.map kV)) ∧ Q (.ref p) (upd H2 p (.dT [(k, y)]))
theorem dispT_end {X : Cx} {pins : List (Addr × Obj)} {σ : L2.St} {H2 : Hp} {s2 : Shared} {p b : Addr} {k : List Key} {y : L2.V} {r : Value} {Q : VK} (hu : X.A.units < cLine) (I2 : L2.Inv X pins σ H2 s2) (e : H2 p = some (.dT [])) (eb : H2 b = some (.tup (k.map kV))) (ry : L2.RelV y r)
    (q : Q (.ref p) (upd H2 p (.dT [(k, y)]))) : wpAny (model X.prog X.w) X.A (storeAll p [(.ref b, r)]) (fun _ s' => L2.EP X pins σ Q (.ref p) s') X.xe s2 := by
  obtain ⟨z, hd, xs, rel, dd⟩ := dt_of I2.hok e
  cases rel
  unfold storeAll
  rw [List.forIn_cons]
  refine wpAny_bind (wpAny_bind (wpAny_dictSet_heap (hsz := z) (show (tupleKind (mixKind X.prog X.w)).room X.A from hu) (key_of I2.hok eb) dd fun h' dd' hs => wpAny_pure ?_))
  refine wpAny_pure ⟨.ref p, _, ?_, rfl, q⟩
  obtain ⟨q, es, ep, hq, h2, h3, h4, h0, h5⟩ := dd'
  have rr := (show KT H2 [] [] from .nil).put k eb ry
  have e1 : putK ([] : List (List Key × L2.V)) k y = [(k, y)] := rfl
  rw [e1] at rr
  refine d_write I2 (by rw [e]; exact True.intro) hs ⟨q, hq⟩ ⟨(show 1 ≤ sizeLine by rw [sizeLine_eq]; decide), hd, _, rr.keeps fun c ys ec => ?_, q, es, ep, hq, h2, h3, h4, h5⟩
  rw [upd_ne (ne_of ec e (fun z => nomatch z))]
  exact ec
theorem pe_dispT1 {X : Cx} {key value : Expr} {pos : Pos} {tk tv : TE} (hu : X.A.units + 1 < cLine) (hk : PE X key tk) (hv : PE X value tv) : PE X (.Dict [some key] [value] pos) (tDispT1 tk tv) := by
  refine ⟨fun pins s σ H Q I q => ?_⟩
  have hn := I.hok.fresh (Nat.le_refl s.heap.objs.size)
  have I1 := I.laid (a := s.heap.objs.size) (o := .dT []) (h' := s.heap.push { cls := .type "dict", data := .dict #[] }) (t' := s.toks) (fun _ _ q => Heap.get?_push_of_some _ q) (Nat.le_refl _) (dt_empty s.heap I.big)
  have tr : PPs X pos [some key] [value] [(tk, tv)] := pps_cons hk hv pps_nil
  refine wpAny_Dict_any rfl rfl (fun z => nomatch z) (show 1 ≤ 15 by decide) (thn (tr.run pins _ σ _ (fun ps H2 => match ps with
    | [(x, y)] => H2 s.heap.objs.size = some (.dT []) ∧ ∃ (b : Addr) (k : List Key), x = .ref b ∧ H2 b = some (.tup (k.map kV)) ∧ Q (.ref s.heap.objs.size) (upd H2 s.heap.objs.size (.dT [(k, y)]))
    | _ => False) I1 (q _ hn)) fun ws s2 ⟨ps, H2, I2, rel, q2⟩ => ?_)
  rcases ps with _ | ⟨⟨x, y⟩, _ | ⟨p2, ps⟩⟩
  · exact False.elim q2
  · obtain ⟨e, b, k, ex, eb, q2⟩ := q2
    cases rel with
    | @cons _ ur _ _ hxy t =>
    cases t
    obtain ⟨u, r⟩ := ur
    obtain ⟨rx, ry⟩ := hxy
    have rx : L2.RelV x u := rx
    have ry : L2.RelV y r := ry
    subst ex
    cases (show u = Value.ref b from rx)
    exact dispT_end (Nat.lt_of_succ_lt hu) I2 e eb ry q2
  · exact False.elim q2

theorem keys_all {X : AP} {H : Hp} : ∀ {ks : List Key} {xs : List L2.V}, IsAll X H xs (ks.map kD) → xs = ks.map kV
  | [], _, h => by cases h; rfl
  | k :: ks, _, h => by
    rw [List.map_cons] at h
    cases h with
    | cons h t =>
      rw [isw_kD (.inl h), keys_all t]; rfl
theorem de_dispT1 {W : Wd} {n : Nat} {ρ : Rho} {tk tv : TE} {P : Nat → D → Prop} (h : DE tk W n ρ fun n d1 => DE tv W n ρ fun n _ => (∃ ks : List Key, d1 = .tup (ks.map kD)) ∧ P n .dct) : DE (tDispT1 tk tv) W n ρ P := fun Z T σ H e Q k => fun p hp =>
  h ((p, .dT []) :: Z) T σ _ (e.lay hp) _ fun n x d1 H1 q1 e1 i1 => q1 _ ((x, d1) :: T) σ H1 (e1.push i1) _ fun n y d2 H2 ⟨⟨ks, hd⟩, pp⟩ e2 i2 => by
    subst hd
    have ix := e2.top
    cases ix with
    | @tup b xs _ hx hb ha =>
    have hk := keys_all ha
    subst hk
    have z := e2.z (p, .dT []) List.mem_cons_self
    refine ⟨z.1, b, ks, rfl, hb, ?_⟩
    have e3 := (e2.pop1).zput (o := .dT []) (o' := .dT [(ks, y)]) (fun h => h)
    exact k _ _ _ _ pp e3.zpop (.dct e3.zmv.2 upd_same)
/-! ### errors of the text's own -/
/-- an own error class without __init__, below ValueError -/
structure ExcT (K : PySem.W.Frag) (mg : Str → Option Value) (x : Str) (C : Addr) : Prop where
  gC : mg x = some (.ref C)
  xC : PySem.W.excIn K C [.type "ValueError", .type "Exception", .type "BaseException", .type "object"] "ValueError.__new__" = true
  kC : PySem.W.keepIn K (.ref C) = true
  bC : PySem.W.subIn K (.ref C) (.type "BaseException") = some true
  tC : PySem.W.typeIn K (.ref C) = some (.type "type")
theorem ExcT.mk' {X : Cx} {x m : Str} {C : Addr} {j : Nat} {p p2 pos : Pos} (T : ExcT X.K X.mg x C) (hg : Gl X x) (hdb : (x == ("__debug__" : Str)) = false := by decide) :
    PMk X (.Call (.Name x p) [.Constant (.str m) j p2] [] pos) (fun _ H Q => Q (.ref C) none H) := pmk_own PySem.F.excBase_ValueError T.xC T.gC T.kC (raises_own T.bC T.tC) hg hdb

/-! ### calls with keywords -/
/-- the values in the def's order -/
def gPerm {α : Type} (z : α) (perm : List Nat) (us ws : List α) : List α := perm.map fun i => (us ++ ws).getD i z
theorem perm_all {X : AP} {H : Hp} {vs : List L2.V} {ds : List D} (h : IsAll X H vs ds) : ∀ (perm : List Nat), IsAll X H (perm.map fun i => vs.getD i .non) (perm.map fun i => ds.getD i .non)
  | [] => .nil
  | i :: r => by
    refine .cons ?_ (perm_all h r)
    show Is X H (vs.getD i .non) (ds.getD i .non)
    rw [List.getD_eq_getElem?_getD, List.getD_eq_getElem?_getD]
    cases q : vs[i]? with
    | none =>
      have : ds[i]? = none := by rw [List.getElem?_eq_none_iff] at q ⊢; rw [← h.len]; exact q
      rw [this]; exact .non
    | some v =>
      obtain ⟨d, h1, h2⟩ := h.get q
      rw [h1]; exact h2
theorem perm_vals {vs : List L2.V} {us : List Value} (r : Vals vs us) : ∀ (perm : List Nat), Vals (perm.map fun i => vs.getD i .non) (perm.map fun i => us.getD i Value.none)
  | [] => .nil
  | i :: p => by
    refine .cons ?_ (perm_vals r p)
    show L2.RelV (vs.getD i .non) (us.getD i Value.none)
    rw [List.getD_eq_getElem?_getD, List.getD_eq_getElem?_getD]
    cases q : vs[i]? with
    | none => rw [r.none_of q]; rfl
    | some v =>
      obtain ⟨u, h1, h2⟩ := r.get q
      rw [h1]; exact h2
/-- f(e, .., k = v, ..) binds so -/
structure KwB (K : PySem.W.Frag) (fd : FuncData) (ps : List Str) (n : Nat) (ks : List Str) (perm : List Nat) : Prop where
  to : ∀ (s : Shared) (us ws : List Value), K.In s.heap → us.length = n → ws.length = ks.length → BindsTo s fd ⟨us, ks.zip ws⟩ (ps.zip (gPerm Value.none perm us ws))
def tCalK (n m : Nat) (sp : Sp) (perm : List Nat) (E : XK) (t tk : TA) : TE := fun σ H Q => t σ H fun vs H1 => tk σ H1 fun zs H2 => vs.length = n ∧ zs.length = m ∧ sp (gPerm L2.V.non perm vs zs) H2 Q E
/-- a def with a way of calling it by keywords -/
structure CalK (P : Program) (w : World) (K : PySem.W.Frag) (mg : Str → Option Value) (base : Heap) (k : Nat) (x : Str) (ps : List Str) (n : Nat) (ks : List Str) (perm : List Nat) (sp : Sp) : Prop where
  ex : ∃ (f : Addr) (fd : FuncData), FnOk P w K mg base (L2.CX P w) k f fd ps sp ∧ mg x = some (.ref f) ∧ PySem.W.keepIn K (.ref f) = true ∧ KwB K fd ps n ks perm
section
variable {X : Cx} {k n : Nat} {x : Str} {ps ks : List Str} {perm : List Nat} {sp : Sp} {E : XK} {p pos : Pos} {e : Expr} {es : List Expr} {kws : List Keyword} {t tk : TA}
theorem run_calK {f : Addr} {fd : FuncData} {pins : List (Addr × Obj)} {σ : L2.St} {H : Hp} {s : Shared} {Q : VK} {us ws : List Value} {vs zs : List L2.V} (F : FnOk X.prog X.w X.K X.mg X.base (L2.CX X.prog X.w) k f fd ps sp) (hr : Room k X.A) (hb : KwB X.K fd ps n ks perm) (hx : Passes (L2.CX X.prog X.w) X E)
    (I : L2.Inv X pins σ H s) (r : Vals vs us) (rz : Vals zs ws) (h1 : vs.length = n) (h2 : zs.length = ks.length) (h : sp (gPerm L2.V.non perm vs zs) H Q E) : wpAny (model X.prog X.w) X.A (call (.ref f) us (ks.zip ws)) (EP X pins σ Q) X.xe s := by
  have rr : Vals (gPerm L2.V.non perm vs zs) (gPerm Value.none perm us ws) := perm_vals (r.append rz) perm
  refine wpAny_call (codeAny_mono (F.run X.A X.stack s H ⟨us, ks.zip ws⟩ _ _ Q E hr I.env0 (hb.to s us ws I.kIn (by rw [← r.length]; exact h1) (by rw [← rz.length]; exact h2)) rr h) fun o s' hq => ?_)
  cases o with
  | error e => exact hx pins σ H s e s' I hq
  | ok fl =>
    cases fl with
    | ret u => exact I.after hq
    | next => exact False.elim hq
    | brk => exact False.elim hq
    | cont => exact False.elim hq
theorem pe_calK (C : CalK X.prog X.w X.K X.mg X.base k x ps n ks perm sp) (hr : Room k X.A) (hx : Passes (L2.CX X.prog X.w) X E) (hg : Gl X x) (ha : PA X (e :: es) t) (hkw : PK X kws tk)
    (hall : (backToKw pos (keywordEach kws X.env)).all (·.1.isSome) = true := by rfl) (hks : (backToKw pos (keywordEach kws X.env)).filterMap (·.1) = ks := by rfl) (hdb : (x == ("__debug__" : Str)) = false := by decide)
    (he : starEach (e :: es) X.env = (false, eval e X.env) :: starEach es X.env := by rfl) (hpl : ((backTo pos (starEach (e :: es) X.env)).any (·.1) || (backToKw pos (keywordEach kws X.env)).any (·.1.isNone)) = false := by rfl) :
    PE X (.Call (.Name x p) (e :: es) kws pos) (tCalK n ks.length sp perm E t tk) := by
  obtain ⟨f, fd, F, hm, hk, hb⟩ := C.ex
  refine ⟨fun pins s σ H Q I h => wpAny_Call_Name_kw (ld_glob I hg hm ?_ hdb)⟩
  refine PySem.W.callWith_KW (h₀ := X.base) I.ok.mod.kin hk hall (thn (ha.run pos pins s σ H _ I h) fun us s1 ⟨vs, H1, I1, r, q⟩ => ?_) hpl he
  refine thn (hkw.run pos pins s1 σ H1 _ I1 q) fun ws s2 ⟨zs, H2, I2, rz, l1, l2, q2⟩ => ⟨I2.kIn, ?_⟩
  rw [hks]
  exact run_calK F hr hb hx I2 r rz l1 l2 q2
theorem pe_calK0 (C : CalK X.prog X.w X.K X.mg X.base k x ps 0 ks perm sp) (hr : Room k X.A) (hx : Passes (L2.CX X.prog X.w) X E) (hg : Gl X x) (hkw : PK X kws tk)
    (hall : (backToKw pos (keywordEach kws X.env)).all (·.1.isSome) = true := by rfl) (hks : (backToKw pos (keywordEach kws X.env)).filterMap (·.1) = ks := by rfl) (hdb : (x == ("__debug__" : Str)) = false := by decide)
    (hpl : ((backTo pos (starEach [] X.env)).any (·.1) || (backToKw pos (keywordEach kws X.env)).any (·.1.isNone)) = false := by rfl) :
    PE X (.Call (.Name x p) [] kws pos) (tCalK 0 ks.length sp perm E tNil tk) := by
  obtain ⟨f, fd, F, hm, hk, hb⟩ := C.ex
  refine ⟨fun pins s σ H Q I h => wpAny_Call_Name_kw (ld_glob I hg hm ?_ hdb)⟩
  refine PySem.W.callWith_KW0 (h₀ := X.base) I.ok.mod.kin hk hall ?_ hpl
  refine thn (hkw.run pos pins s σ H _ I h) fun ws s2 ⟨zs, H2, I2, rz, l1, l2, q2⟩ => ⟨I2.kIn, ?_⟩
  rw [hks]
  exact run_calK (us := []) (vs := []) F hr hb hx I2 .nil rz rfl l2 q2
end
/-- a def called with keywords -/
theorem Cal.kw {P : Program} {w : World} {K : PySem.W.Frag} {mg : Str → Option Value} {base : Heap} {k : Nat} {x : Str} {st : Stmt} {ps : List Str} {sp : Sp} (C : Cal P w K mg base k x st ps sp) (n : Nat) (ks : List Str) (perm : List Nat)
    (h : ∀ (kV doc pm : Value) (an : Option Addr) (cdv ct : Value) (us ws : List Value), us.length = n → ws.length = ks.length → bindArgs (PySem.W.fnOf x x (defArgs st) (defBody st) (defScope st) .none kV doc pm an cdv ct) ⟨us, ks.zip ws⟩ = pure (ps.zip (gPerm Value.none perm us ws))) : CalK P w K mg base k x ps n ks perm sp := by
  obtain ⟨f, fd, F, hm, hk, hb, hF⟩ := C.ex
  obtain ⟨oc, od, kV, doc, pm, an, cdv, ct, osl, rfl, lk, _⟩ := hF.ex
  exact ⟨f, _, F, hm, hk, ⟨fun s us ws _ h1 h2 => .of_eq (h kV doc pm an cdv ct us ws h1 h2)⟩⟩
section
variable {W : Wd} {n : Nat} {ρ : Rho} {q m : Nat} {V : AP} {G : Nat → Hp → Prop} {κ : Nat → Nat → Nat} {pre : Nat → List D → Prop} {post : Nat → List D → Nat → Out → Prop} {E : XK} {P : Nat → D → Prop} {tas tks : TA} {perm : List Nat}
theorem de_calK (F : Fit V G κ W) (hE : W.E = E) (h : DA tas W n ρ fun n ds => DA tks W n ρ fun n es => ds.length = q ∧ es.length = m ∧ pre n (gPerm D.non perm ds es) ∧ (∀ n' C ns l, post n (gPerm D.non perm ds es) n' (.exc C ns l) → W.EP (κ n n') C ns l) ∧ ∀ n' b d, post n (gPerm D.non perm ds es) n' (.ret b d) → P (κ n n') d) :
    DE (tCalK q m (Prm perm.length V G pre post) perm E tas tks) W n ρ P := fun Z T σ H e Q k =>
  h Z T σ H e _ fun n vs ds H1 p e1 i1 => p Z (zipT vs ds ++ T) σ H1 (e1.pushAll i1) _ fun n zs es H2 ⟨h1, h2, hp, hx, hq⟩ e2 i2 =>
    ⟨by rw [i1.len]; exact h1, by rw [i2.len]; exact h2, call_prm F e2.popAll (perm_all ((e2.topAll i1.len).append i2) perm) (by simp [gPerm]) hp (fun n' => hq n' false) (fun n' => hq n' true) k (exc_out F hE e2.popAll hx)⟩
end
end HD

namespace HD
open PySem PySem.Spec PyProof.Rows L2
/-! ### what a def gives, by a function -/
abbrev PD (m : Nat) (pre : List D → Prop) (f : List D → Out) : Sp := Prm m V0 G0 (fun _ ds => pre ds) (fun _ ds _ o => o = f ds)
/-- a def that may use up to c turns of what G counts, and raises nothing -/
abbrev PL (m : Nat) (V : AP) (G : Nat → Hp → Prop) (c : Nat) (pre : List D → Prop) (R : List D → Bool → D → Prop) : Sp := Prm m V G (fun n ds => c ≤ n ∧ pre ds) (fun n ds n' o => n ≤ n' + c ∧ ∃ b d, o = .ret b d ∧ R ds b d)
def is_int : D → Bool
  | .int _ => true
  | .bl _ => true
  | _ => false
def is_bool : D → Bool
  | .bl _ => true
  | _ => false
def is_tuple : D → Bool
  | .tup _ => true
  | _ => false
def is_list : D → Bool
  | .lst _ => true
  | _ => false
def is_str : D → Bool
  | .str _ => true
  | _ => false
def is_dict : D → Bool
  | .dic _ _ => true
  | .dct => true
  | _ => false
section
variable {W : Wd} {n : Nat} {Z : ZL} {T : TL} {ρ : Rho} {σ : L2.St} {H : Hp} {P : Nat → D → Prop} {K : PySem.W.Frag} {d d1 d2 : D} {q m c : Nat} {V : AP} {G : Nat → Hp → Prop} {pre : List D → Prop} {f : List D → Out} {E : XK} {tas tks : TA} {perm : List Nat}
theorem de_det (h : DA tas W n ρ fun n ds => ds.length = m ∧ pre ds ∧ ∃ b d, f ds = .ret b d ∧ P n d) : DE (tCall (PD m pre f) [] E tas) W n ρ P :=
  de_call fit0 (h.imp fun n ds ⟨h1, h2, b, d, h3, h4⟩ => ⟨h1, h2, fun _ C ns l q => (by rw [h3] at q; cases q), fun _ b' d' q => by rw [h3] at q; cases q; exact h4⟩)
theorem df_det (h : DA tas W n ρ fun n ds => ds.length = m ∧ pre ds ∧ ∃ d, f ds = .ret true d ∧ P n d) : DF (tCall (PD m pre f) [] E tas) W n ρ P :=
  df_call fit0 (h.imp fun n ds ⟨h1, h2, d, h3, h4⟩ => ⟨h1, h2, fun _ C ns l q => (by rw [h3] at q; cases q), fun _ d' q => (by rw [h3] at q; cases q), fun _ d' q => by rw [h3] at q; cases q; exact h4⟩)
/-- what comes out: a value or an error that the caller lets out -/
def Outs (EP : Addr → List Str → List D → Prop) (P : D → Prop) : Out → Prop
  | .ret _ d => P d
  | .exc C ns l => EP C ns l
theorem de_detE (hE : W.E = E) (h : DA tas W n ρ fun n ds => ds.length = m ∧ pre ds ∧ Outs (W.EP n) (P n) (f ds)) : DE (tCall (PD m pre f) [] E tas) W n ρ P :=
  de_callE fit0 hE (h.imp fun n ds ⟨h1, h2, h3⟩ => ⟨h1, h2, fun _ C ns l q => by rw [← q] at h3; exact h3, fun _ b d q => by rw [← q] at h3; exact h3⟩)
theorem df_detE (hE : W.E = E) (h : DA tas W n ρ fun n ds => ds.length = m ∧ pre ds ∧ (∀ d, f ds ≠ .ret false d) ∧ Outs (W.EP n) (P n) (f ds)) : DF (tCall (PD m pre f) [] E tas) W n ρ P :=
  df_callE fit0 hE (h.imp fun n ds ⟨h1, h2, h0, h3⟩ => ⟨h1, h2, fun _ C ns l q => by rw [← q] at h3; exact h3, fun _ d q => h0 d q.symm, fun _ d q => by rw [← q] at h3; exact h3⟩)
theorem de_detK (hE : W.E = E) (h : DA tas W n ρ fun n ds => DA tks W n ρ fun n es => ds.length = q ∧ es.length = m ∧ pre (gPerm D.non perm ds es) ∧ Outs (W.EP n) (P n) (f (gPerm D.non perm ds es))) : DE (tCalK q m (PD perm.length pre f) perm E tas tks) W n ρ P :=
  de_calK fit0 hE (h.imp fun n ds h => h.imp fun n es ⟨h1, h2, h3, h4⟩ => ⟨h1, h2, h3, fun _ C ns l q => by rw [← q] at h4; exact h4, fun _ b d q => by rw [← q] at h4; exact h4⟩)
theorem de_law {R : List D → Bool → D → Prop} (F : Fit V G (fun _ n' => n') W) (h : DA tas W n ρ fun n ds => ds.length = m ∧ c ≤ n ∧ pre ds ∧ ∀ n' b d, n ≤ n' + c → R ds b d → P n' d) : DE (tCall (PL m V G c pre R) [] E tas) W n ρ P :=
  de_call F (h.imp fun n ds ⟨h1, h2, h3, h4⟩ => ⟨h1, ⟨h2, h3⟩, fun n' C ns l ⟨_, b, d, q, _⟩ => (by cases q), fun n' b' d' ⟨h5, b, d, q, r⟩ => by cases q; exact h4 n' b' d' h5 r⟩)
theorem df_law {R : List D → Bool → D → Prop} (F : Fit V G (fun _ n' => n') W) (h : DA tas W n ρ fun n ds => ds.length = m ∧ c ≤ n ∧ pre ds ∧ (∀ d, ¬ R ds false d) ∧ ∀ n' d, n ≤ n' + c → R ds true d → P n' d) : DF (tCall (PL m V G c pre R) [] E tas) W n ρ P :=
  df_call F (h.imp fun n ds ⟨h1, h2, h3, h0, h4⟩ => ⟨h1, ⟨h2, h3⟩, fun n' C ns l ⟨_, b, d, q, _⟩ => (by cases q), fun n' d' ⟨h5, b, d, q, r⟩ => (by cases q; exact h0 _ r), fun n' d' ⟨h5, b, d, q, r⟩ => by cases q; exact h4 n' d' h5 r⟩)
/-! ### isinstance of data and of kept errors -/
def rIsX0 (K : PySem.W.Frag) : List L2.V → Hp → VK → Prop := fun xs H Q => ∃ (a Dc : Addr) (c : L2.V) (cv : Value) (b : Bool), xs = [.ref a, c] ∧ H a = some (excH a Dc none) ∧ ExcC K Dc ∧ (∀ u, RelV c u → u = cv) ∧ PySem.W.kitOne K (.ref Dc) cv = some b ∧ Q (.bl b) H
def rIsiU (K : PySem.W.Frag) : List L2.V → Hp → VK → Prop := fun xs H Q => rIsi K xs H Q ∨ rIsX0 K xs H Q
theorem call_isiU {X : Cx} : CallR X (.builtin "isinstance") (rIsiU X.K) := call_isi.or call_isX0
theorem dc_orl {r r' : List L2.V → Hp → VK → Prop} {ds : List D} (h : DC r W n ρ ds P) : DC (fun xs H Q => r xs H Q ∨ r' xs H Q) W n ρ ds P := fun Z T σ H vs e i Q k => .inl (h Z T σ H vs e i Q k)
theorem u_isi {m c : String} {b : Bool} (e : d.tn = some m) (hb : kitB m c = some b) (p : P n (.bl b)) : DC (rIsiU K) W n ρ [d, .ty c] P := dc_orl (b_isi e hb p)
theorem u_is_int (hd : d.tn.isSome = true) (p : P n (.bl (is_int d))) : DC (rIsiU K) W n ρ [d, .ty "int"] P := by
  cases d <;> first | exact absurd hd Bool.false_ne_true | exact u_isi (b := true) rfl (by decide +kernel) p | exact u_isi (b := false) rfl (by decide +kernel) p
theorem u_is_bool (hd : d.tn.isSome = true) (p : P n (.bl (is_bool d))) : DC (rIsiU K) W n ρ [d, .ty "bool"] P := by
  cases d <;> first | exact absurd hd Bool.false_ne_true | exact u_isi (b := true) rfl (by decide +kernel) p | exact u_isi (b := false) rfl (by decide +kernel) p
theorem u_is_tuple (hd : d.tn.isSome = true) (p : P n (.bl (is_tuple d))) : DC (rIsiU K) W n ρ [d, .ty "tuple"] P := by
  cases d <;> first | exact absurd hd Bool.false_ne_true | exact u_isi (b := true) rfl (by decide +kernel) p | exact u_isi (b := false) rfl (by decide +kernel) p
theorem u_is_list (hd : d.tn.isSome = true) (p : P n (.bl (is_list d))) : DC (rIsiU K) W n ρ [d, .ty "list"] P := by
  cases d <;> first | exact absurd hd Bool.false_ne_true | exact u_isi (b := true) rfl (by decide +kernel) p | exact u_isi (b := false) rfl (by decide +kernel) p
theorem u_is_str (hd : d.tn.isSome = true) (p : P n (.bl (is_str d))) : DC (rIsiU K) W n ρ [d, .ty "str"] P := by
  cases d <;> first | exact absurd hd Bool.false_ne_true | exact u_isi (b := true) rfl (by decide +kernel) p | exact u_isi (b := false) rfl (by decide +kernel) p
theorem u_is_dict (hd : d.tn.isSome = true) (p : P n (.bl (is_dict d))) : DC (rIsiU K) W n ρ [d, .ty "dict"] P := by
  cases d <;> first | exact absurd hd Bool.false_ne_true | exact u_isi (b := true) rfl (by decide +kernel) p | exact u_isi (b := false) rfl (by decide +kernel) p
theorem u_is_lt (hd : d.tn.isSome = true) (p : P n (.bl (is_list d || is_tuple d))) : DC (rIsiT K) W n ρ [d, .tup [.ty "list", .ty "tuple"]] P := by
  cases d <;> first | exact absurd hd Bool.false_ne_true | exact b_isiT2 (b1 := true) (b2 := true) rfl (by decide +kernel) (by decide +kernel) p | exact b_isiT2 (b1 := true) (b2 := false) rfl (by decide +kernel) (by decide +kernel) p | exact b_isiT2 (b1 := false) (b2 := true) rfl (by decide +kernel) (by decide +kernel) p | exact b_isiT2 (b1 := false) (b2 := false) rfl (by decide +kernel) (by decide +kernel) p
theorem u_isiC {m : String} {C : Addr} {b : Bool} (e : d.tn = some m) (hb : PySem.W.kitOne K (.type m) (.ref C) = some b) (p : P n (.bl b)) : DC (rIsiU K) W n ρ [d, .raw C] P := dc_orl (b_isiC e hb p)
theorem u_isiI {C : Addr} {ns : List Str} {l : List D} {c : D} {cv : Value} {b : Bool} (I : InsK K C) (hc : (∃ m, c = .ty m ∧ cv = .type m) ∨ ∃ D, c = .raw D ∧ cv = .ref D) (hb : PySem.W.kitOne K (.ref C) cv = some b) (p : P n (.bl b)) : DC (rIsiU K) W n ρ [.ins C ns l, c] P := dc_orl (b_isiI I hc hb p)
theorem u_isiX {C Dd : Addr} {b : Bool} (I : ExcC K C) (hb : PySem.W.kitOne K (.ref C) (.ref Dd) = some b) (p : P n (.bl b)) : DC (rIsiU K) W n ρ [.exc C [] [], .raw Dd] P := fun Z T σ H vs ev ia Q k => by
  obtain ⟨v1, v2, rfl, i1, i2⟩ := ws2 ia
  cases isw_raw i2
  rcases i1 with i1 | ⟨_, _, _, _, i1⟩
  · cases i1 with
    | exc0 hx ha => exact .inr ⟨_, C, .ref Dd, .ref Dd, b, rfl, ha, I, fun u r => r, hb, k _ _ _ H p ev (.bl _)⟩
    | exc hne => exact absurd rfl hne
  · cases i1
/-! ### known answers -/
theorem bT {A B : Prop} (h : A) : (true = true → A) ∧ (true = false → B) := ⟨fun _ => h, (fun z => nomatch z)⟩
theorem bF {A B : Prop} (h : B) : (false = true → A) ∧ (false = false → B) := ⟨(fun z => nomatch z), fun _ => h⟩
/-! ### equality of plain things -/
theorem r_eqI {i j : Int} (p : P n (.bl (decide (i = j)))) : DR (rEqD K) W n ρ (.int i) (.int j) P := dr_eq rfl rfl rfl rfl (by
  have : PyData.eqv (.int i) (.int j) = decide (i = j) := by
    show (i == j) = _
    exact Bool.beq_eq_decide_eq i j
  rw [this]; exact p)
theorem r_neI {i j : Int} (p : P n (.bl (!decide (i = j)))) : DR (rNeD K) W n ρ (.int i) (.int j) P := dr_ne rfl rfl rfl rfl (by
  have : PyData.eqv (.int i) (.int j) = decide (i = j) := by
    show (i == j) = _
    exact Bool.beq_eq_decide_eq i j
  rw [this]; exact p)
end
end HD

namespace HD
open PySem PySem.Spec PyProof.Rows L2
theorem szl {n : Nat} (h : n ≤ 100000) : n ≤ sizeLine := Nat.le_trans h (by decide)
theorem szlt {n : Nat} (h : n < 100000) : n < sizeLine := Nat.lt_of_lt_of_le h (by decide)
theorem in_self {S : List Nat} : ∀ i, i ∈ S → i ∈ S := fun _ h => h
/-! ### comprehensions by a function, by a relation -/
def noOwnB (ρ : Rho) (vs : List Nat) : Bool := vs.all fun i => match ρ[i]? with
  | some (some (true, _)) => false
  | _ => true
theorem noOwn_by {ρ : Rho} {vs : List Nat} (h : noOwnB ρ vs = true) : NoOwn ρ vs := fun i d hi q => by
  have := List.all_eq_true.mp h i hi
  rw [q] at this
  cases this
/-- item by item -/
inductive Each (R : D → D → Prop) : List D → List D → Prop
  | nil : Each R [] []
  | cons {d y : D} {ds ys : List D} : R d y → Each R ds ys → Each R (d :: ds) (y :: ys)
theorem Each.snoc {R : D → D → Prop} {d y : D} : ∀ {ds ys : List D}, Each R ds ys → R d y → Each R (ds ++ [d]) (ys ++ [y])
  | _, _, .nil, r => .cons r .nil
  | _, _, .cons h t, r => .cons h (t.snoc r)
theorem Each.len {R : D → D → Prop} : ∀ {ds ys : List D}, Each R ds ys → ys.length = ds.length
  | _, _, .nil => rfl
  | _, _, .cons _ t => by rw [List.length_cons, List.length_cons, t.len]
theorem Each.map {R : D → D → Prop} {f : D → D} (hf : ∀ d y, R d y → y = f d) : ∀ {ds ys : List D}, Each R ds ys → ys = ds.map f
  | _, _, .nil => rfl
  | _, _, .cons h t => by rw [List.map_cons, hf _ _ h, t.map hf]
theorem take_snoc {α : Type} : ∀ {l : List α} {i : Nat} {x : α}, l[i]? = some x → l.take (i + 1) = l.take i ++ [x]
  | [], i, x, h => by simp at h
  | a :: l, 0, x, h => by
    have e : a = x := Option.some.inj h
    subst e
    simp
  | a :: l, i + 1, x, h => by
    have ih := take_snoc (l := l) (i := i) (x := x) h
    rw [List.take_succ_cons, List.take_succ_cons, ih]
    rfl
section
variable {W : Wd} {n : Nat} {ρ : Rho} {K : PySem.W.Frag} {P : Nat → D → Prop} {wi : TI} {g : TG} {S vs : List Nat} {tt : TT} {te : TE}
theorem df_lc_cost (c : Nat) (R : D → D → Prop) (hno : NoOwn ρ vs) (h : DI wi W n ρ fun n ds => ds.length ≤ sizeLine ∧ c * ds.length ≤ n ∧ (∀ n' d, d ∈ ds → c ≤ n' → DG g S d W (wipeR ρ vs) fun ρ2 => DE te W n' ρ2 fun n'' y => n' ≤ n'' + c ∧ R d y) ∧ ∀ n' ys, n ≤ n' + c * ds.length → Each R ds ys → P n' (.lst ys))
    (hS : ∀ i, i ∈ S → i ∈ vs) : DF (tLc wi g tYes te vs) W n ρ P :=
  df_lc hno hS fun Z T σ H e Q k => h Z T σ H e Q fun n J ds T0 H' ⟨h1, hc, h2, h3⟩ e' ok => k n J ds T0 H' ⟨fun i n' acc => i ≤ ds.length ∧ n ≤ n' + c * i ∧ Each R (ds.take i) acc, ⟨Nat.zero_le _, by omega, .nil⟩, fun i n' d acc hd ⟨_, hm, hI⟩ m Z T σ H v e i0 Q k2 => by
    have hi : i < ds.length := (List.getElem?_eq_some_iff.mp hd).1
    have hcc : c * (i + 1) ≤ c * ds.length := Nat.mul_le_mul_left c hi
    rw [Nat.mul_succ] at hcc
    exact h2 n' d (List.mem_of_getElem? hd) (by omega) m Z T σ H v e i0 Q fun ρ' σ' p e2 ag =>
      k2 ρ' σ' (dt_yes ⟨fun _ => p.imp fun n'' y ⟨hq, r⟩ => by
        have l := hI.len
        rw [List.length_take] at l
        refine ⟨by omega, hi, by rw [Nat.mul_succ]; omega, ?_⟩
        rw [take_snoc hd]
        exact hI.snoc r, fun z => nomatch z⟩) e2 ag, fun n' acc ⟨_, hm, hI⟩ => h3 n' acc hm (by rw [List.take_length] at hI; exact hI)⟩ e' ok
theorem df_lc_each (R : D → D → Prop) (hno : NoOwn ρ vs) (h : DI wi W n ρ fun _ ds => ds.length ≤ sizeLine ∧ (∀ n d, d ∈ ds → DG g S d W (wipeR ρ vs) fun ρ2 => DE te W n ρ2 fun _ y => R d y) ∧ ∀ n ys, Each R ds ys → P n (.lst ys))
    (hS : ∀ i, i ∈ S → i ∈ vs) : DF (tLc wi g tYes te vs) W n ρ P :=
  df_lc hno hS fun Z T σ H e Q k => h Z T σ H e Q fun n J ds T0 H' ⟨h1, h2, h3⟩ e' ok => k n J ds T0 H' ⟨fun i _ acc => i ≤ ds.length ∧ Each R (ds.take i) acc, ⟨Nat.zero_le _, .nil⟩, fun i n d acc hd ⟨_, hI⟩ m Z T σ H v e i0 Q k2 => h2 n d (List.mem_of_getElem? hd) m Z T σ H v e i0 Q fun ρ' σ' p e2 ag =>
      k2 ρ' σ' (dt_yes ⟨fun _ => p.imp fun _ y r => by
        have hi : i < ds.length := (List.getElem?_eq_some_iff.mp hd).1
        have l := hI.len
        rw [List.length_take] at l
        refine ⟨by omega, hi, ?_⟩
        rw [take_snoc hd]
        exact hI.snoc r, fun z => nomatch z⟩) e2 ag, fun _ acc ⟨_, hI⟩ => h3 _ acc (by rw [List.take_length] at hI; exact hI)⟩ e' ok
theorem df_lc_map (f : D → D) (hno : NoOwn ρ vs) (h : DI wi W n ρ fun n ds => ds.length ≤ sizeLine ∧ (∀ n d, d ∈ ds → DG g S d W (wipeR ρ vs) fun ρ2 => DE te W n ρ2 fun n y => y = f d) ∧ ∀ n, P n (.lst (ds.map f))) (hS : ∀ i, i ∈ S → i ∈ vs) : DF (tLc wi g tYes te vs) W n ρ P :=
  df_lc_each (fun d y => y = f d) hno (fun Z T σ H e Q k => h Z T σ H e Q fun n J ds T0 H' ⟨h1, h2, h3⟩ e' ok => k n J ds T0 H' ⟨h1, h2, fun n ys q => by rw [q.map fun _ _ h => h]; exact h3 n⟩ e' ok) hS
/-- with a test -/
theorem df_lc_filter (p : D → Bool) (f : D → D) (hno : NoOwn ρ vs) (h : DI wi W n ρ fun n ds => ds.length ≤ sizeLine ∧ (∀ n d, d ∈ ds → DG g S d W (wipeR ρ vs) fun ρ2 => DT tt W n ρ2 fun n b => b = p d ∧ (b = true → DE te W n ρ2 fun n y => y = f d)) ∧ ∀ n, P n (.lst ((ds.filter p).map f)))
    (hS : ∀ i, i ∈ S → i ∈ vs) : DF (tLc wi g tt te vs) W n ρ P :=
  df_lc hno hS fun Z T σ H e Q k => h Z T σ H e Q fun n J ds T0 H' ⟨h1, h2, h3⟩ e' ok => k n J ds T0 H' ⟨fun i _ acc => i ≤ ds.length ∧ acc = ((ds.take i).filter p).map f, ⟨Nat.zero_le _, rfl⟩, fun i n d acc hd ⟨_, hI⟩ m Z T σ H v e i0 Q k2 => h2 n d (List.mem_of_getElem? hd) m Z T σ H v e i0 Q fun ρ' σ' q e2 ag =>
      k2 ρ' σ' (q.imp fun _ b ⟨hb, hq⟩ => by
        have hi : i < ds.length := (List.getElem?_eq_some_iff.mp hd).1
        subst hI
        have hl : (((ds.take i).filter p).map f).length ≤ i := by
          rw [List.length_map]
          exact Nat.le_trans (List.length_filter_le _ _) (by rw [List.length_take]; omega)
        refine ⟨fun hb' => (hq hb').imp fun _ y r => ⟨by omega, hi, ?_⟩, fun hb' => ⟨hi, ?_⟩⟩
        · rw [take_snoc hd, List.filter_append, List.map_append, r]
          have : p d = true := by rw [← hb]; exact hb'
          simp [this]
        · rw [take_snoc hd, List.filter_append, List.map_append]
          have : p d = false := by rw [← hb]; exact hb'
          simp [this]) e2 ag, fun _ acc ⟨_, hI⟩ => by
        rw [List.take_length] at hI
        subst hI
        exact h3 _⟩ e' ok
theorem b_allM {ds : List D} {g : D → Bool} (p : P n (.bl (ds.all g))) : DC (rAll K) W n ρ [.lst (ds.map fun d => .bl (g d))] P := by
  have e : (ds.map fun d => D.bl (g d)) = (ds.map g).map D.bl := by rw [List.map_map]; rfl
  rw [e]
  refine b_all ?_
  rw [List.all_map]
  exact p
theorem b_anyM {ds : List D} {g : D → Bool} (p : P n (.bl (ds.any g))) : DC (rAny K) W n ρ [.lst (ds.map fun d => .bl (g d))] P := by
  have e : (ds.map fun d => D.bl (g d)) = (ds.map g).map D.bl := by rw [List.map_map]; rfl
  rw [e]
  refine b_any ?_
  rw [List.any_map]
  exact p
end
end HD
namespace HD
open PySem PySem.Spec PyProof.Rows L2
section
variable {W : Wd} {n : Nat} {ρ : Rho} {N : Nat → Rho → Prop} {R : Nat → Bool → D → Prop} {B C : Nat → Rho → Prop} {E : XK}
theorem ds_raise' {cls : Addr} (hE : W.E = E) (h : W.EP n cls [] []) : DS (fun _ _ H => E (.ref cls) none H) W n ρ N R B C := ds_raise h hE
end
/-! ### sizes of whole numbers -/
theorem fdiv_le {x s : Int} (h : 0 < s) : (x.fdiv s).natAbs ≤ x.natAbs := by
  rw [Int.fdiv_eq_ediv_of_nonneg _ (Int.le_of_lt h)]
  have h1 := Int.mul_ediv_add_emod x s
  have h2 := Int.emod_nonneg x (Int.ne_of_gt h)
  have h3 := Int.emod_lt_of_pos x h
  rcases Int.lt_or_le x 0 with hx | hx
  · have h4 : x / s < 0 := Int.ediv_neg_of_neg_of_pos hx h
    have h5 : x ≤ x / s := by
      have := Int.mul_le_mul_of_nonneg_left (show x / s + 1 ≤ 0 by omega) (show 0 ≤ s - 1 by omega)
      rw [Int.mul_zero, Int.sub_mul, Int.mul_add, Int.one_mul, Int.mul_one] at this
      omega
    omega
  · have h4 : 0 ≤ x / s := Int.ediv_nonneg hx (Int.le_of_lt h)
    have h5 : x / s ≤ x := Int.ediv_le_self _ hx
    omega
theorem c_div {i j : Int} {b : Nat} (h : 0 < j) (hb : j.natAbs < 2 ^ b) (h0 : 0 < b := by decide) (h9 : b ≤ 9000 := by decide) : CDivN i j ∨ CDivW i j := .inr (wide_div h hb h0 h9)
theorem c_mul {i j : Int} {a b : Nat} (ha : i.natAbs < 2 ^ a) (hb : j.natAbs < 2 ^ b) (h0 : 0 < a := by decide) (h1 : 0 < b := by decide) (h : a + b ≤ 1000000 := by decide) : CMul i j ∨ CMulW i j := .inr (wide_mul ha hb h0 h1 h)
theorem c_small {i j : Int} (h : -(2 ^ 64) < j ∧ j < 2 ^ 64) : CMul i j ∨ CMulW i j := .inl (.inr h)
theorem c_smallL {i j : Int} (h : -(2 ^ 64) < i ∧ i < 2 ^ 64) : CMul i j ∨ CMulW i j := .inl (.inl h)
theorem c_divN {i j : Int} (h : j ≠ 0) (hb : j.natAbs < 1073741824) : CDivN i j ∨ CDivW i j := .inl ⟨h, hb⟩
theorem pow_lt {i : Int} {a b : Nat} (h : i.natAbs < 2 ^ a) (hab : a ≤ b) : i.natAbs < 2 ^ b := Nat.lt_of_lt_of_le h (Nat.pow_le_pow_right (by decide) hab)
theorem sub_lt {i j : Int} {a : Nat} (h1 : i.natAbs < 2 ^ a) (h2 : j.natAbs < 2 ^ a) : (i - j).natAbs < 2 ^ (a + 1) := by
  rw [Nat.pow_succ]; omega
end HD

namespace HD
open PySem PySem.Spec PyProof.Rows L2

/-! ### the state of a law's draws -/
def stK (g c : Addr) (left turn : Int) : List (Key × L2.V) := [(.inr "great", .ref g), (.inr "cells", .ref c), (.inr "left", .int left), (.inr "turn", .int turn)]
section
variable {g c : Addr} {l t l' t' : Int}
theorem ks_ne {a b : Str} (h : a ≠ b) : ¬ (Sum.inr a : Key) = .inr b := fun z => h (Sum.inr.inj z)
theorem st_great : valV (stK g c l t) (.inr "great") = some (.ref g) := valV_pos rfl
theorem st_cells : valV (stK g c l t) (.inr "cells") = some (.ref c) := (valV_neg (ks_ne (by decide))).trans (valV_pos rfl)
theorem st_left : valV (stK g c l t) (.inr "left") = some (.int l) := (valV_neg (ks_ne (by decide))).trans ((valV_neg (ks_ne (by decide))).trans (valV_pos rfl))
theorem st_turn : valV (stK g c l t) (.inr "turn") = some (.int t) := (valV_neg (ks_ne (by decide))).trans ((valV_neg (ks_ne (by decide))).trans ((valV_neg (ks_ne (by decide))).trans (valV_pos rfl)))
theorem put_left : putK (stK g c l t) (.inr "left") (.int l') = stK g c l' t := by
  have h1 : ¬ (Sum.inr "great" : Key) = .inr "left" := by decide
  have h2 : ¬ (Sum.inr "cells" : Key) = .inr "left" := by decide
  have h3 : ¬ (Sum.inr "turn" : Key) = .inr "left" := by decide
  unfold putK stK
  simp [h1, h2, h3]
theorem put_turn : putK (stK g c l t) (.inr "turn") (.int t') = stK g c l t' := by
  have h1 : ¬ (Sum.inr "great" : Key) = .inr "turn" := by decide
  have h2 : ¬ (Sum.inr "cells" : Key) = .inr "turn" := by decide
  have h3 : ¬ (Sum.inr "left" : Key) = .inr "turn" := by decide
  unfold putK stK
  simp [h1, h2, h3]
end
/-- the script's list: tracked, or never changed -/
def Scr (K : PySem.W.Frag) (tr : Prop) (H : Hp) (a : Addr) (xs : List L2.V) : Prop := (tr ∧ H a = some (.lst xs)) ∨ (¬ tr ∧ ((∃ o, H a = some (.frz o (.lst xs))) ∨ ∀ H' : Hp, SqL K H' a xs))
theorem Scr.sq {K : PySem.W.Frag} {tr : Prop} {H : Hp} {a : Addr} {xs : List L2.V} (h : Scr K tr H a xs) : SqL K H a xs := by
  rcases h with ⟨_, h⟩ | ⟨_, ⟨o, h⟩ | h⟩
  · exact .inl (.inl h)
  · exact .inl (.inr ⟨o, h⟩)
  · exact h H
theorem scr_of {K : PySem.W.Frag} {H : Hp} {a : Addr} {xs : List L2.V} (h : SqL K H a xs) : ∃ tr, Scr K tr H a xs := by
  rcases h with (h | ⟨o, h⟩) | h
  · exact ⟨True, .inl ⟨True.intro, h⟩⟩
  · exact ⟨False, .inr ⟨id, .inl ⟨o, h⟩⟩⟩
  · exact ⟨False, .inr ⟨id, .inr fun _ => .inr h⟩⟩
/-- a law's script, its state, its tables -/
structure LP (K : PySem.W.Frag) (Tt : List (Addr × Str)) where
  s : Addr
  g : Addr
  c : Addr
  a : Addr
  cells : List Int
  xs : List L2.V
  tr : Prop
def LP.V {K : PySem.W.Frag} {Tt : List (Addr × Str)} (L : LP K Tt) : AP := fun b => b = L.s ∨ b = L.g ∨ b = L.c ∨ (L.tr ∧ b = L.a) ∨ ∃ p ∈ Tt, p.1 = b
/-- n draws at the most are left -/
def StOk (H : Hp) (s g c : Addr) (cells : List Int) (n : Nat) : Prop := ∃ (gr : List Int) (left turn : Int), H s = some (.dK (stK g c left turn)) ∧ H g = some (.lst (gr.map .int)) ∧ H c = some (.lst (cells.map .int)) ∧ 0 ≤ left ∧ (∀ x ∈ gr, 0 ≤ x) ∧ 0 ≤ turn ∧ turn + (n : Int) ≤ 2 ^ 40
def LP.G {K : PySem.W.Frag} {Tt : List (Addr × Str)} (L : LP K Tt) : Nat → Hp → Prop := fun n H => StOk H L.s L.g L.c L.cells n ∧ Scr K L.tr H L.a L.xs ∧ LamX.Tabs Tt H ∧ L.g ≠ L.c ∧ (L.tr → L.a ≠ L.g)
theorem LP.stab {K : PySem.W.Frag} {Tt : List (Addr × Str)} (L : LP K Tt) : Stab L.V L.G := by
  constructor
  · rintro n H ⟨⟨gr, left, turn, h1, h2, h3, _⟩, hs, ht, _⟩ b hb
    rcases hb with rfl | rfl | rfl | ⟨tr, rfl⟩ | ⟨p, hp, rfl⟩
    · rw [h1]; exact fun z => nomatch z
    · rw [h2]; exact fun z => nomatch z
    · rw [h3]; exact fun z => nomatch z
    · rcases hs with ⟨_, h⟩ | ⟨h, _⟩
      · rw [h]; exact fun z => nomatch z
      · exact absurd tr h
    · obtain ⟨ps, h, _⟩ := ht p hp
      rw [h]; exact fun z => nomatch z
  · rintro n H H' k ⟨⟨gr, left, turn, h1, h2, h3, h4⟩, hs, ht, hn⟩
    refine ⟨⟨gr, left, turn, k _ _ h1 (.inl (.inl rfl)), k _ _ h2 (.inl (.inr (.inl rfl))), k _ _ h3 (.inl (.inr (.inr (.inl rfl)))), h4⟩, ?_, fun p hp => ?_, hn⟩
    · rcases hs with ⟨tr, h⟩ | ⟨tr, ⟨o, h⟩ | h⟩
      · exact .inl ⟨tr, k _ _ h (.inl (.inr (.inr (.inr (.inl ⟨tr, rfl⟩)))))⟩
      · exact .inr ⟨tr, .inl ⟨o, k _ _ h (.inr True.intro)⟩⟩
      · exact .inr ⟨tr, .inr h⟩
    · obtain ⟨ps, q1, q2, q3⟩ := ht p hp
      refine ⟨ps, k _ _ q1 (.inr True.intro), q2, fun pos cv hc => ?_⟩
      obtain ⟨c, e1, e2⟩ := q3 pos cv hc
      exact ⟨c, e1, k _ _ e2 (.inr True.intro)⟩
/-! ### promises of a law's functions -/
def spL (K : PySem.W.Frag) (Tt : List (Addr × Str)) (m c : Nat) (pre : LP K Tt → List D → Prop) (R : LP K Tt → List D → Bool → D → Prop) : Sp := fun vs H Q E => ∃ L : LP K Tt, PL m L.V L.G c (pre L) (R L) vs H Q E
theorem DS.impR {t : TS} {W : Wd} {n : Nat} {ρ : Rho} {N N' : Nat → Rho → Prop} {R R' : Nat → Bool → D → Prop} {B C : Nat → Rho → Prop} (h : DS t W n ρ N R B C) (k : ∀ n ρ, N n ρ → N' n ρ) (k2 : ∀ n b d, R n b d → R' n b d) : DS t W n ρ N' R' B C :=
  fun Z T σ H e De f => h Z T σ H e De ⟨fun n ρ σ H q => f.nx n ρ σ H (k n ρ q), fun n v d H q => f.rt n v d H (k2 n false d q), fun n a o d H q => f.rf n a o d H (k2 n true d q), f.bk, f.ct⟩
section
variable {P : Program} {w : World} {K : PySem.W.Frag} {Tt : List (Addr × Str)} {mg : Str → Option Value} {base : Heap} {k m c : Nat} {x : Str} {st : Stmt} {N ps : List Str} {pre : LP K Tt → List D → Prop} {R : LP K Tt → List D → Bool → D → Prop}
theorem Def.okL (Dd : Def K mg x st ps) (S : FnScope N ps (defScope st)) (hn : m = ps.length)
    (h : ∀ (f : Addr) (cdv : Value) (A : Around) (outer : List PySem.Env) (s : Shared) (H : Hp) (E : XK), Room k (A.deeper (envOfC x (defScope st) s.heap.objs.size f cdv)) →
      ∃ t, PSs (cxD P w K mg base N x st f cdv A outer s H E) (defBody st) t ∧ ∀ (L : LP K Tt) (W : Wd) (n : Nat) (ds : List D), W.V = L.V → W.G = L.G → W.E = E → ds.length = m → c ≤ n → pre L ds →
        DS t W n (startR N ds) (fun n' _ => n ≤ n' + c ∧ R L ds false .non) (fun n' b d => n ≤ n' + c ∧ R L ds b d) (fun _ _ => False) (fun _ _ => False)) : Cal P w K mg base (k + 1) x st ps (spL K Tt m c pre R) := by
  refine Dd.raw S (fun vs H Q E ⟨L, q⟩ => by rw [prm_len q, hn]) fun f cdv A outer s H vs Q E hr ⟨L, q⟩ => ?_
  obtain ⟨t, ht, hd⟩ := h f cdv A outer s H E hr
  exact ⟨t, ht, prm_body L.stab q fun W n ds w1 w2 w3 w4 hl ⟨hc, hp⟩ => (hd L W n ds w1 w2 w3 hl hc hp).impR (fun n' ρ ⟨a, b⟩ => ⟨a, _, _, rfl, b⟩) fun n' b d ⟨h1, h2⟩ => ⟨h1, _, _, rfl, h2⟩⟩
/-- from one promise another -/
theorem Cal.conv {sp sp' : Sp} (C : Cal P w K mg base k x st ps sp) (key : ∀ vs H Q E, sp' vs H Q E → sp vs H Q E) : Cal P w K mg base k x st ps sp' := by
  obtain ⟨f, fd, F, hm, hk, hb, hF⟩ := C.ex
  exact ⟨f, fd, ⟨fun vs H Q E q => F.len vs H Q E (key vs H Q E q), fun A outer s H args us vs Q E hr e0 hbt r q => F.run A outer s H args us vs Q E hr e0 hbt r (key vs H Q E q)⟩, hm, hk, hb, hF⟩
variable {W : Wd} {n : Nat} {ρ : Rho} {Q : Nat → D → Prop} {E : XK} {tas : TA}
theorem de_lawL (L : LP K Tt) (hV : W.V = L.V) (hG : W.G = L.G) (h : DA tas W n ρ fun n ds => ds.length = m ∧ c ≤ n ∧ pre L ds ∧ ∀ n' b d, n ≤ n' + c → R L ds b d → Q n' d) : DE (tCall (spL K Tt m c pre R) [] E tas) W n ρ Q := fun Z T σ H e q k =>
  h Z T σ H e _ fun n vs ds H' ⟨hl, hc, hp, hq⟩ e' i => by
    refine ⟨L, ?_⟩
    rw [List.append_nil]
    exact call_prm (fitW hV hG) e' i hl ⟨hc, hp⟩ (fun n' d ⟨h1, b, d', h2, h3⟩ => by cases h2; exact hq n' _ _ h1 h3) (fun n' d ⟨h1, b, d', h2, h3⟩ => by cases h2; exact hq n' _ _ h1 h3) k fun n' C ns l od _ ⟨_, _, _, p, _⟩ => by cases p
theorem df_lawL (L : LP K Tt) (hV : W.V = L.V) (hG : W.G = L.G) (h : DA tas W n ρ fun n ds => ds.length = m ∧ c ≤ n ∧ pre L ds ∧ (∀ d, ¬ R L ds false d) ∧ ∀ n' d, n ≤ n' + c → R L ds true d → Q n' d) : DF (tCall (spL K Tt m c pre R) [] E tas) W n ρ Q := fun Z T σ H e q k =>
  h Z T σ H e _ fun n vs ds H' ⟨hl, hc, hp, h0, hq⟩ e' i => by
    refine ⟨L, ?_⟩
    rw [List.append_nil]
    exact call_prmF (fitW hV hG) e' i hl ⟨hc, hp⟩ (fun n' d ⟨h1, b, d', h2, h3⟩ => by cases h2; exact h0 _ h3) (fun n' d ⟨h1, b, d', h2, h3⟩ => by cases h2; exact hq n' _ h1 h3) k fun n' C ns l od _ ⟨_, _, _, p, _⟩ => by cases p
end
/-! ### an environment of slots that are read -/
def Slots (X : AP) (H : Hp) : L2.St → Rho → Prop
  | [], [] => True
  | _ :: σ, none :: ρ => Slots X H σ ρ
  | some v :: σ, some (false, d) :: ρ => Is X H v d ∧ Slots X H σ ρ
  | _, _ => False
theorem Slots.len {X : AP} {H : Hp} : ∀ {σ : L2.St} {ρ : Rho}, Slots X H σ ρ → σ.length = ρ.length
  | [], [], _ => rfl
  | x :: σ, none :: ρ, h => by
    have h' : Slots X H σ ρ := by cases x <;> exact h
    simp [h'.len]
  | some v :: σ, some (false, d) :: ρ, h => by simp [h.2.len]
  | [], _ :: _, h => h.elim
  | _ :: _, [], h => by rename_i x _; cases x <;> exact h.elim
  | none :: _, some (b, _) :: _, h => by cases b <;> exact False.elim h
  | some _ :: _, some (true, _) :: _, h => h.elim
theorem Slots.no {X : AP} {H : Hp} : ∀ {σ : L2.St} {ρ : Rho}, Slots X H σ ρ → ∀ (i : Nat) (d : D), ρ[i]? ≠ some (some (true, d))
  | [], [], _, i, d => by simp
  | x :: σ, none :: ρ, h, 0, d => by simp
  | x :: σ, none :: ρ, h, i + 1, d => by
    have h' : Slots X H σ ρ := by cases x <;> exact h
    simpa using h'.no i d
  | some v :: σ, some (false, d') :: ρ, h, 0, d => by simp
  | some v :: σ, some (false, d') :: ρ, h, i + 1, d => by simpa using h.2.no i d
  | [], _ :: _, h, _, _ => h.elim
  | _ :: _, [], h, _, _ => by rename_i x _; cases x <;> exact h.elim
  | none :: _, some (b, _) :: _, h, _, _ => by cases b <;> exact False.elim h
  | some _ :: _, some (true, _) :: _, h, _, _ => h.elim
theorem Slots.sh {X : AP} {H : Hp} : ∀ {σ : L2.St} {ρ : Rho}, Slots X H σ ρ → ∀ (i : Nat) (d : D), ρ[i]? = some (some (false, d)) → ∃ v, σ[i]? = some (some v) ∧ Is X H v d
  | [], [], _, i, d, e => by simp at e
  | x :: σ, none :: ρ, h, 0, d, e => by simp at e
  | x :: σ, none :: ρ, h, i + 1, d, e => by
    have h' : Slots X H σ ρ := by cases x <;> exact h
    obtain ⟨v, q1, q2⟩ := h'.sh i d (by simpa using e)
    exact ⟨v, by simpa using q1, q2⟩
  | some v :: σ, some (false, d') :: ρ, h, 0, d, e => by
    simp at e
    subst e
    exact ⟨v, rfl, h.1⟩
  | some v :: σ, some (false, d') :: ρ, h, i + 1, d, e => by
    obtain ⟨v, q1, q2⟩ := h.2.sh i d (by simpa using e)
    exact ⟨v, by simpa using q1, q2⟩
  | [], _ :: _, h, _, _, _ => h.elim
  | _ :: _, [], h, _, _, _ => by rename_i x _ _; cases x <;> exact h.elim
  | none :: _, some (b, _) :: _, h, _, _, _ => by cases b <;> exact False.elim h
  | some _ :: _, some (true, _) :: _, h, _, _, _ => h.elim
theorem env_slots {W : Wd} {n : Nat} {σ : L2.St} {ρ : Rho} {H : Hp} (h : Slots W.X0 H σ ρ) (h0 : Frm W.V W.H0 H) (g : W.G n H) : Env W n [] [] ρ σ H := by
  have no : ∀ a, ¬ Own ρ σ a := fun a ⟨i, d, q, _⟩ => h.no i d q
  have m : Mv W.X0 H (XX W [] ρ σ) H := fun a o q hx => ⟨q, fun x => by
    rcases x with x | x | ⟨o, x⟩
    · exact hx x
    · exact no a x
    · cases x⟩
  refine ⟨h.len, fun i d q => ?_, fun i d q => absurd q (h.no i d), fun i j d e a q => absurd q (h.no i d), fun p hp => (nomatch hp), List.nodup_nil, fun p hp => (nomatch hp), h0, g⟩
  obtain ⟨v, q1, q2⟩ := h.sh i d q
  exact ⟨v, q1, q2.mv m⟩
/-- a world in which nothing changes -/
def Wq (H : Hp) (E : XK) : Wd where
  V := fun _ => False
  X0 := fun _ => False
  G := fun _ _ => True
  H0 := H
  E := E
  EP := fun _ _ _ _ => False
  vx := fun _ h => h
  xd := fun _ h => h.elim
  vd := fun _ _ _ _ h => h.elim
  stab := fun _ _ _ _ _ => True.intro
  hE := fun _ _ _ _ _ _ h => h.elim
/-- the world of a script that is read -/
def Wscr (K : PySem.W.Frag) (tr : Prop) (a : Addr) (xs : List L2.V) (H : Hp) (E : XK) (h : Scr K tr H a xs) : Wd where
  V := fun b => tr ∧ b = a
  X0 := fun b => tr ∧ b = a
  G := fun _ H => Scr K tr H a xs
  H0 := H
  E := E
  EP := fun _ _ _ _ => False
  vx := fun _ h => h
  xd := fun b ⟨t, e⟩ => by
    subst e
    rcases h with ⟨_, h⟩ | ⟨h, _⟩
    · rw [h]; exact fun z => nomatch z
    · exact absurd t h
  vd := fun _ H h b ⟨t, e⟩ => by
    subst e
    rcases h with ⟨_, h⟩ | ⟨h, _⟩
    · rw [h]; exact fun z => nomatch z
    · exact absurd t h
  stab := fun _ H H' k h => by
    rcases h with ⟨tr, h⟩ | ⟨tr, ⟨o, h⟩ | h⟩
    · exact .inl ⟨tr, k _ _ h (.inl ⟨tr, rfl⟩)⟩
    · exact .inr ⟨tr, .inl ⟨o, k _ _ h (.inr True.intro)⟩⟩
    · exact .inr ⟨tr, .inr h⟩
  hE := fun _ _ _ _ _ _ h => h.elim
theorem Scr.keep {K : PySem.W.Frag} {tr : Prop} {a : Addr} {xs : List L2.V} {H H' : Hp} (h : Scr K tr H a xs) (h' : Scr K tr H' a xs) (f : Frm (fun b => tr ∧ b = a) H H') : ∀ b o, H b = some o → H' b = some o := fun b o q => by
  by_cases hb : tr ∧ b = a
  · obtain ⟨t, rfl⟩ := hb
    rcases h with ⟨_, h⟩ | ⟨h, _⟩
    · rcases h' with ⟨_, h'⟩ | ⟨h', _⟩
      · rw [h] at q; rw [h']; exact q
      · exact absurd t h'
    · exact absurd t h
  · exact f b o q hb
/-- the script walked -/
theorem di_script {W : Wd} {n : Nat} {ρ : Rho} {K : PySem.W.Frag} {tl : TE} {P : Nat → List D → Prop} {a : Addr} {ns : List Int} (hs : ∀ n H, W.G n H → SqL K H a (ns.map .int)) (h : DE tl W n ρ fun n d => d = .raw a ∧ P n (ns.map .int)) : DI (iSeq K tl) W n ρ P := fun Z T σ H e Q k =>
  h Z T σ H e _ fun n v d H' ⟨hd, p⟩ e' i => by
    subst hd
    cases i
    refine ⟨a, rfl, .inl ⟨⟨_, hs n H' e'.g⟩, k n _ (ns.map .int) [] H' p e' fun n Z T ρ σ H hT e i => ?_⟩⟩
    have q := hs n H e.g
    have hl : (ns.map L2.V.int).length = (ns.map D.int).length := by rw [List.length_map, List.length_map]
    refine ⟨fun hi => ⟨⟨_, (ns.map L2.V.int)[i]'(by rw [hl]; exact hi), q, by simp⟩, fun x H' ⟨eh, y⟩ => ?_⟩, fun hi => ⟨_, q, by rw [hl]; exact hi⟩⟩
    subst eh
    have y1 := y _ q
    rw [List.getElem?_map] at y1
    obtain ⟨z, hz, rfl⟩ := Option.map_eq_some_iff.mp y1
    exact ⟨.int z, by rw [List.getElem?_map, hz]; rfl, e.push (.int z)⟩
theorem c_pow {i j : Int} (h : 0 ≤ j ∧ j ≤ 1000000 ∧ i.natAbs < 2 ^ 64 := by decide) : CPow i j := h
theorem each_ints : ∀ {ds ys : List D}, Each (fun _ y => ∃ z, y = D.int z) ds ys → ∃ zs : List Int, ys = zs.map D.int
  | _, _, .nil => ⟨[], rfl⟩
  | _, _, .cons ⟨z, h⟩ t => by
    obtain ⟨zs, e⟩ := each_ints t
    exact ⟨z :: zs, by rw [h, e]; rfl⟩
theorem merge_st {g c : Addr} : mergeK [] [((.inr "great" : Key), L2.V.ref g), (.inr "cells", .ref c), (.inr "left", .int 0), (.inr "turn", .int 0)] = stK g c 0 0 := by
  have h1 : ¬ (Sum.inr "great" : Key) = .inr "cells" := by decide
  have h2 : ¬ (Sum.inr "great" : Key) = .inr "left" := by decide
  have h3 : ¬ (Sum.inr "great" : Key) = .inr "turn" := by decide
  have h4 : ¬ (Sum.inr "cells" : Key) = .inr "left" := by decide
  have h5 : ¬ (Sum.inr "cells" : Key) = .inr "turn" := by decide
  have h6 : ¬ (Sum.inr "left" : Key) = .inr "turn" := by decide
  unfold mergeK stK
  simp [putK, h1, h2, h3, h4, h5, h6]
/-! ### promises of the draws -/
def spBegun (K : PySem.W.Frag) : Sp := fun vs H Q E => ∃ (a : Addr) (ns : List Int), vs = [.ref a] ∧ SqL K H a (ns.map .int) ∧ ns.length ≤ 1000 ∧ ∀ (s g c : Addr) (gr cells : List Int) (H' : Hp), (∀ x ∈ gr, 0 ≤ x) → H s = none → H g = none → H c = none → s ≠ g → s ≠ c → g ≠ c →
  H' s = some (.dK (stK g c 0 0)) → H' g = some (.lst (gr.map .int)) → H' c = some (.lst (cells.map .int)) → (∀ b o, H b = some o → H' b = some o) → Q (.ref s) H'
def spBlend : Sp := fun vs H Q E => ∃ (s g c : Addr) (cells : List Int) (left turn : Int), vs = [.ref s] ∧ H s = some (.dK (stK g c left turn)) ∧ H c = some (.lst (cells.map .int)) ∧ 0 ≤ turn ∧ turn < 2 ^ 40 ∧
  ∀ (v : Int) (H' : Hp), 0 ≤ v → H' s = some (.dK (stK g c left (turn + 1))) → (∀ b o, b ≠ s → H b = some o → H' b = some o) → Q (.int v) H'
/-- a draw below size -/
def drawPre {K : PySem.W.Frag} {Tt : List (Addr × Str)} (L : LP K Tt) (ds : List D) : Prop := ∃ size : Int, ds = [.raw L.s, .int size] ∧ 0 < size ∧ size.natAbs < 2 ^ 9000
def drawR {K : PySem.W.Frag} {Tt : List (Addr × Str)} (L : LP K Tt) (ds : List D) (b : Bool) (d : D) : Prop := ∃ k : Int, b = false ∧ d = .int k ∧ 0 ≤ k ∧ ∀ size, ds = [.raw L.s, .int size] → k < size
abbrev spDraw (K : PySem.W.Frag) (Tt : List (Addr × Str)) : Sp := spL K Tt 2 1 drawPre drawR
/-- the end of a draw -/
def tailTS (K : PySem.W.Frag) : TS := tSeq (tAsg (tOp rMod (tCB rInt1 (tCons (tOp (rIxU K) (tVar 0) (tC (.str "left"))) tNil)) (tVar 1)) (gName 2)) (tSeq (sDPut (tVar 0) (tC (.str "left")) (tOp rFdiv (tOp (rIxU K) (tVar 0) (tC (.str "left"))) (tVar 1))) (tRet (tVar 2)))
theorem draw_tail {K : PySem.W.Frag} {D : Ends} {s g c : Addr} {left turn size : Int} {H : Hp} (hst : H s = some (.dK (stK g c left turn))) (h0 : 0 < size) (hs : size.natAbs < 2 ^ 9000)
    (q : D.rt (.int (left.fmod size)) (upd H s (.dK (stK g c (left.fdiv size) turn)))) : tailTS K D [some (.ref s), some (.int size), none] H := by
  have g1 : DGet H s (.str "left") (some (.int left)) := .inl ⟨_, .inr "left", .inl hst, rfl, st_left.symm⟩
  refine ⟨_, rfl, .inr ⟨s, _, rfl, g1, .inl ⟨left, rfl, _, rfl, left, size, rfl, rfl, by omega, ?_⟩⟩⟩
  refine ⟨_, rfl, .inr ⟨s, _, rfl, g1, ⟨_, rfl, ⟨left, size, rfl, rfl, c_div h0 hs, ⟨_, rfl, ⟨s, _, rfl, .inl ⟨_, .inr "left", hst, rfl, (by show 4 < sizeLine; exact szlt (by decide)), rfl⟩, ⟨_, rfl, ?_⟩⟩⟩⟩⟩⟩⟩
  rw [put_left]
  exact q
theorem dp_ints {K : PySem.W.Frag} {H : Hp} : ∀ (xs : List Int), DpAll K H (xs.map L2.V.int) (xs.map PyData.int)
  | [] => .nil
  | x :: xs => .cons (.int x) (dp_ints xs)
abbrev ixS (K : PySem.W.Frag) (x : Str) : TE := tOp (rIxU K) (tVar 0) (tC (.str x))
/-- the beginning of a draw: nothing left -/
def headTS (K : PySem.W.Frag) (E : XK) : TS := tIfS (tTest (tOp (rEqD K) (ixS K "left") (tC (.int 0)))) (sDPut (tVar 0) (tC (.str "left")) (tIf (tTest (tOp (rNeD K) (ixS K "great") (tLst tNil))) (tBM K "list" rPopAt (ixS K "great") (tCons (tC (.int 0)) tNil)) (tCall spBlend [] E (tCons (tVar 0) tNil)))) tNext
theorem draw_head {K : PySem.W.Frag} {D : Ends} {E : XK} {s g c : Addr} {left turn size : Int} {gr cells : List Int} {H : Hp} (hst : H s = some (.dK (stK g c left turn))) (hg : H g = some (.lst (gr.map .int))) (hc : H c = some (.lst (cells.map .int))) (ngc : g ≠ c)
    (h0 : 0 ≤ left) (hgr : ∀ x ∈ gr, 0 ≤ x) (ht : 0 ≤ turn) (ht2 : turn < 2 ^ 40)
    (q : ∀ (left1 turn1 : Int) (gr1 : List Int) (H1 : Hp), H1 s = some (.dK (stK g c left1 turn1)) → H1 g = some (.lst (gr1.map .int)) → H1 c = some (.lst (cells.map .int)) → 0 ≤ left1 → (∀ x ∈ gr1, 0 ≤ x) → turn ≤ turn1 → turn1 ≤ turn + 1 → (∀ b o, b ≠ s → b ≠ g → H b = some o → H1 b = some o) →
      D.nx [some (.ref s), some (.int size), none] H1) : headTS K E D [some (.ref s), some (.int size), none] H := by
  have nsg : g ≠ s := fun z => by rw [z, hst] at hg; cases hg
  have nsc : c ≠ s := fun z => by rw [z, hst] at hc; cases hc
  refine ⟨_, rfl, .inr ⟨s, _, rfl, .inl ⟨_, .inr "left", .inl hst, rfl, st_left.symm⟩, ⟨.int left, .int 0, .int left, .int 0, rfl, rfl, ⟨_, rfl, ?_⟩⟩⟩⟩
  cases hb : PyData.eqv (.int left) (.int 0) with
  | false =>
    show D.nx _ _
    exact q left turn gr H hst hg hc h0 hgr (Int.le_refl _) (by omega) fun b o _ _ h => h
  | true =>
    rw [if_pos rfl]
    refine ⟨_, rfl, .inr ⟨s, _, rfl, .inl ⟨_, .inr "great", .inl hst, rfl, st_great.symm⟩, ⟨szl (by decide), fun p hp => ?_⟩⟩⟩
    have keep : ∀ b o, H b = some o → upd H p (.lst []) b = some o := fun b o h => by rw [upd_ne (ne_of_none h hp)]; exact h
    refine ⟨.list (gr.map .int), .list [], .lst (.inl (.inl (keep _ _ hg))) (dp_ints gr), .lst (.inl (.inl upd_same)) .nil, ?_, rfl, ⟨_, rfl, ?_⟩⟩
    · exact PySem.W.ke_shaped_ints gr
    cases gr with
    | nil =>
      have e : (!PyData.eqv (.list (([] : List Int).map .int)) (.list [])) = false := rfl
      rw [e]
      refine ⟨_, rfl, ?_⟩
      refine ⟨s, g, c, cells, left, turn, rfl, keep _ _ hst, keep _ _ hc, ht, ht2, fun v H' hv hs' hk => ?_⟩
      refine ⟨_, rfl, ⟨s, _, rfl, .inl ⟨_, .inr "left", hs', rfl, (by show 4 < sizeLine; exact szlt (by decide)), rfl⟩, ?_⟩⟩
      rw [put_left]
      refine q v (turn + 1) [] _ upd_same (by rw [upd_ne nsg]; exact hk _ _ nsg (keep _ _ hg)) (by rw [upd_ne nsc]; exact hk _ _ nsc (keep _ _ hc)) hv hgr (by omega) (Int.le_refl _) fun b o h1 _ h => ?_
      rw [upd_ne h1]
      exact hk b o h1 (keep b o h)
    | cons x r =>
      have e : (!PyData.eqv (.list ((x :: r : List Int).map .int)) (.list [])) = true := rfl
      rw [e]
      refine ⟨_, rfl, .inr ⟨s, _, rfl, .inl ⟨_, .inr "great", .inl (keep _ _ hst), rfl, st_great.symm⟩, ⟨.inl ⟨rfl, _, .inl (.inl (keep _ _ hg))⟩, ⟨g, _, 0, 0, .int x, rfl, rfl, keep _ _ hg, by decide, by decide, ?_, rfl, ?_⟩⟩⟩⟩
      · exact seqIndex_of (Int.le_refl 0) (by rw [List.length_map, List.length_cons]; omega)
      refine ⟨_, rfl, ⟨s, _, rfl, .inl ⟨_, .inr "left", (by rw [upd_ne (Ne.symm nsg)]; exact keep _ _ hst), rfl, (by show 4 < sizeLine; exact szlt (by decide)), rfl⟩, ?_⟩⟩
      rw [put_left]
      refine q x turn r _ upd_same (by rw [upd_ne nsg, upd_same]; rfl) (by rw [upd_ne nsc, upd_ne (Ne.symm ngc)]; exact keep _ _ hc) (hgr x List.mem_cons_self) (fun y hy => hgr y (List.mem_cons_of_mem _ hy)) (Int.le_refl _) (by omega) fun b o h1 h2 h => ?_
      rw [upd_ne h1, upd_ne h2]
      exact keep b o h
/-! ### one of several -/
def pickPre {K : PySem.W.Frag} {Tt : List (Addr × Str)} (L : LP K Tt) (ds : List D) : Prop := ∃ l, (ds = [.raw L.s, .lst l] ∨ ds = [.raw L.s, .tup l]) ∧ 0 < l.length ∧ l.length ≤ 100000
def pickR {K : PySem.W.Frag} {Tt : List (Addr × Str)} (L : LP K Tt) (ds : List D) (b : Bool) (d : D) : Prop := b = false ∧ ∀ l, (ds = [.raw L.s, .lst l] ∨ ds = [.raw L.s, .tup l]) → d ∈ l
abbrev spPick (K : PySem.W.Frag) (Tt : List (Addr × Str)) : Sp := spL K Tt 2 1 pickPre pickR
section
variable {K : PySem.W.Frag} {Tt : List (Addr × Str)} {W : Wd} {n : Nat} {ρ : Rho} {Q : Nat → D → Prop} {E : XK} {tas : TA}
theorem de_draw (L : LP K Tt) (hV : W.V = L.V) (hG : W.G = L.G) (h : DA tas W n ρ fun n ds => ∃ size : Int, ds = [.raw L.s, .int size] ∧ 0 < size ∧ size.natAbs < 2 ^ 9000 ∧ 1 ≤ n ∧ ∀ n' k, n ≤ n' + 1 → 0 ≤ k → k < size → Q n' (.int k)) : DE (tCall (spDraw K Tt) [] E tas) W n ρ Q :=
  de_lawL L hV hG (h.imp fun n ds ⟨size, e, h1, h2, h3, h4⟩ => ⟨by rw [e]; rfl, h3, ⟨size, e, h1, h2⟩, fun n' b d h5 ⟨k, _, h6, h7, h8⟩ => by rw [h6]; exact h4 n' k h5 h7 (h8 size e)⟩)
theorem de_pick (L : LP K Tt) (hV : W.V = L.V) (hG : W.G = L.G) (h : DA tas W n ρ fun n ds => ∃ l, (ds = [.raw L.s, .lst l] ∨ ds = [.raw L.s, .tup l]) ∧ 0 < l.length ∧ l.length ≤ 100000 ∧ 1 ≤ n ∧ ∀ n' d, n ≤ n' + 1 → d ∈ l → Q n' d) : DE (tCall (spPick K Tt) [] E tas) W n ρ Q :=
  de_lawL L hV hG (h.imp fun n ds ⟨l, e, h1, h2, h3, h4⟩ => ⟨by rcases e with e | e <;> (rw [e]; rfl), h3, ⟨l, e, h1, h2⟩, fun n' b d h5 ⟨_, h6⟩ => h4 n' d h5 (h6 l e)⟩)
end
theorem atI_mem {ds : List D} {k : Int} (h0 : 0 ≤ k) (h1 : k < ds.length) : ∃ d, atI ds k = some d ∧ d ∈ ds := by
  have hk : k.toNat < ds.length := by omega
  refine ⟨ds[k.toNat], ?_, List.getElem_mem hk⟩
  unfold atI ixN
  rw [if_pos h0, if_pos h1]
  exact List.getElem?_eq_getElem hk
theorem p9 {x : Int} (h : x.natAbs < 2 ^ 64) : x.natAbs < 2 ^ 9000 := pow_lt h (by decide)
theorem p92 {x : Int} (h : x.natAbs < 2 ^ 200) : x.natAbs < 2 ^ 9000 := pow_lt h (by decide)
section
variable {W : Wd} {n : Nat} {ρ : Rho} {K : PySem.W.Frag} {P : Nat → D → Prop} {q m : Nat} {pre : List D → Prop} {f : List D → Out} {E : XK} {tas tks : TA} {perm : List Nat}
/-- a call by keywords of which nothing is raised -/
theorem de_detK0 (h : DA tas W n ρ fun n ds => DA tks W n ρ fun n es => ds.length = q ∧ es.length = m ∧ pre (gPerm D.non perm ds es) ∧ ∃ b d, f (gPerm D.non perm ds es) = .ret b d ∧ P n d) : DE (tCalK q m (PD perm.length pre f) perm E tas tks) W n ρ P := fun Z T σ H e Q k =>
  h Z T σ H e _ fun n vs ds H1 p e1 i1 => p Z (zipT vs ds ++ T) σ H1 (e1.pushAll i1) _ fun n zs es H2 ⟨h1, h2, hp, b, d, hf, hq⟩ e2 i2 =>
    ⟨by rw [i1.len]; exact h1, by rw [i2.len]; exact h2, call_prm fit0 e2.popAll (perm_all ((e2.topAll i1.len).append i2) perm) (by simp [gPerm]) hp (fun _ d' z => by have z2 := z.trans hf; cases z2; exact hq) (fun _ d' z => by have z2 := z.trans hf; cases z2; exact hq) k fun _ C ns l od _ z => by have z2 := z.trans hf; cases z2⟩
theorem toPs_ints : ∀ ns : List Int, toPs (ns.map D.int) = some (ns.map PyData.int)
  | [] => rfl
  | i :: r => by
    rw [List.map_cons]
    unfold toPs
    rw [toPs_ints r]
    rfl
theorem toP_ints (ns : List Int) : D.toP (.lst (ns.map D.int)) = some (.list (ns.map PyData.int)) := by
  unfold D.toP
  rw [toPs_ints]
theorem r_eqNil {ns : List Int} (p : P n (.bl ns.isEmpty)) : DR (rEqD K) W n ρ (.lst (ns.map D.int)) (.lst []) P :=
  dr_eq (toP_ints ns) rfl (PySem.W.ke_shaped_ints ns) rfl (by cases ns <;> exact p)
end
section
variable {W : Wd} {n : Nat} {ρ : Rho} {K : PySem.W.Frag} {P : Nat → D → Prop} {wi : TI} {g : TG} {S vs : List Nat} {tt : TT} {te : TE}
/-- with a test; nothing drawn -/
theorem df_lc_filterN (p : D → Bool) (f : D → D) (hno : NoOwn ρ vs) (h : DI wi W n ρ fun n ds => ds.length ≤ sizeLine ∧ (∀ n' d, d ∈ ds → n ≤ n' → DG g S d W (wipeR ρ vs) fun ρ2 => DT tt W n' ρ2 fun n'' b => b = p d ∧ n ≤ n'' ∧ (b = true → DE te W n'' ρ2 fun n3 y => n ≤ n3 ∧ y = f d)) ∧ ∀ n', n ≤ n' → P n' (.lst ((ds.filter p).map f)))
    (hS : ∀ i, i ∈ S → i ∈ vs) : DF (tLc wi g tt te vs) W n ρ P :=
  df_lc hno hS fun Z T σ H e Q k => h Z T σ H e Q fun n J ds T0 H' ⟨h1, h2, h3⟩ e' ok => k n J ds T0 H' ⟨fun i n' acc => i ≤ ds.length ∧ n ≤ n' ∧ acc = ((ds.take i).filter p).map f, ⟨Nat.zero_le _, Nat.le_refl _, rfl⟩, fun i n' d acc hd ⟨_, hn, hI⟩ m Z T σ H v e i0 Q k2 => h2 n' d (List.mem_of_getElem? hd) hn m Z T σ H v e i0 Q fun ρ' σ' q e2 ag =>
      k2 ρ' σ' (q.imp fun n'' b ⟨hb, hn2, hq⟩ => by
        have hi : i < ds.length := (List.getElem?_eq_some_iff.mp hd).1
        subst hI
        have hl : (((ds.take i).filter p).map f).length ≤ i := by
          rw [List.length_map]
          exact Nat.le_trans (List.length_filter_le _ _) (by rw [List.length_take]; omega)
        refine ⟨fun hb' => (hq hb').imp fun n3 y ⟨hn3, r⟩ => ⟨by omega, hi, hn3, ?_⟩, fun hb' => ⟨hi, hn2, ?_⟩⟩
        · rw [take_snoc hd, List.filter_append, List.map_append, r]
          have : p d = true := by rw [← hb]; exact hb'
          simp [this]
        · rw [take_snoc hd, List.filter_append, List.map_append]
          have : p d = false := by rw [← hb]; exact hb'
          simp [this]) e2 ag, fun n' acc ⟨_, hn, hI⟩ => by
        rw [List.take_length] at hI
        subst hI
        exact h3 n' hn⟩ e' ok
end
theorem filter_none {ds : List D} {p : D → Bool} {α : Type} (f : D → α) : ((ds.filter fun d => !p d).map f).isEmpty = ds.all p := by
  induction ds with
  | nil => rfl
  | cons d r ih =>
    cases h : p d with
    | true => simp [List.filter_cons, h] at ih ⊢; exact ih
    | false => simp [List.filter_cons, h]
end HD

namespace HD
open PySem PySem.Spec PyProof.Rows L2

/-! ### a lambda made: nothing but the maker's table changes -/
def ExtP (P : Addr) (H H' : Hp) : Prop := ∀ b o, b ≠ P → H b = some o → H' b = some o
/-- the lambda's object -/
abbrev lamO (X : Cx) (params : Arguments) (body : Expr) (scope : Scope) (pm : Value) (c' : Addr) (ctv : Value) : Obj :=
  PySem.W.kla_obj "<lambda>" (X.env.qual ++ "<lambda>") params body scope (cloFrom X.env.cells scope.names []) pm c' ctv
section
variable {X : Cx} {pins : List (Addr × Obj)} {σ : L2.St} {H : Hp} {s : Shared}
theorem tabs_grown {T : List (Addr × Str)} {P c' : Addr} {nm : Str} {ps : Array Value} {pos : Pos} (hP : H P = some (.tbl ps)) (ok : TriplesOk ps.toList) (old : ∀ (p : Pos) (cv : Value), codeAmong p ps.toList = some cv → ∃ c, cv = .ref c ∧ H c = some (LamX.CodeO c nm))
    (only : ∀ p ∈ T, p.1 = P → p.2 = nm) (hT : LamX.Tabs T H) (new : H c' = none) : LamX.Tabs T (upd (upd H P (.tbl (ps ++ #[rawInt pos.line, rawInt pos.col, .ref c']))) c' (LamX.CodeO c' nm)) := by
  have stays : ∀ b nm', H b = some (LamX.CodeO b nm') → upd (upd H P (.tbl (ps ++ #[rawInt pos.line, rawInt pos.col, .ref c']))) c' (LamX.CodeO c' nm) b = some (LamX.CodeO b nm') := fun b nm' e => by
    have b1 : b ≠ c' := ne_of_none e new
    have b2 : b ≠ P := fun z => by
      rw [z, hP] at e
      exact LamX.codeO_ne ps (Option.some.inj e).symm
    rw [upd_ne b1, upd_ne b2]; exact e
  intro p hp
  by_cases h : p.1 = P
  · have h2 := only p hp h
    rw [h, h2]
    have e1 : (ps ++ #[rawInt pos.line, rawInt pos.col, Value.ref c']).toList = ps.toList ++ [rawInt pos.line, rawInt pos.col, .ref c'] := by simp
    refine ⟨ps ++ #[rawInt pos.line, rawInt pos.col, .ref c'], ?_, ?_, fun p' cv h3 => ?_⟩
    · rw [upd_ne (ne_of_none hP new), upd_same]
    · rw [e1]; exact PySem.TriplesOk_snoc _ _ _ _ ok
    · rw [e1] at h3
      cases LamX.among_app _ ok h3 with
      | inl z =>
        obtain ⟨c0, q1, q2⟩ := old p' cv z
        exact ⟨c0, q1, stays c0 nm q2⟩
      | inr z => exact ⟨c', z, upd_same⟩
  · obtain ⟨qs, q1, q2, q3⟩ := hT p hp
    refine ⟨qs, ?_, q2, fun p' cv h3 => ?_⟩
    · rw [upd_ne (ne_of_none q1 new), upd_ne h]; exact q1
    · obtain ⟨c0, q4, q5⟩ := q3 p' cv h3
      exact ⟨c0, q4, stays c0 p.2 q5⟩
theorem mk_lam {T : List (Addr × Str)} {c P : Addr} {params : Arguments} {body : Expr} {scope : Scope} {pos : Pos} {E Q : Value → Shared → Prop} (I : L2.Inv X pins σ H s) (B : LamX.TabB X.base X.mg c P) (co : X.env.code = .ref c) (mem : (P, X.env.qual ++ "<lambda>") ∈ T)
    (only : ∀ p ∈ T, p.1 = P → p.2 = X.env.qual ++ "<lambda>") (hT : LamX.Tabs T H) (nodef : defaultsOf params X.env = ([], [])) (cap : ∀ y ∈ scope.names, y.2 = .free → ∃ c, X.env.cells.lookup y.1 = some c)
    (k : ∀ (f c' : Addr) (pm ctv : Value) (H1 : Hp) (s' : Shared), L2.Inv X pins σ H1 s' → ExtP P H H1 → LamX.Tabs T H1 → s'.heap.get? f = some (lamO X params body scope pm c' ctv) → H1 f = none → f ∉ frs X.stack → H1 c' = some (LamX.CodeO c' (X.env.qual ++ "<lambda>")) → Q (.ref f) s') :
    wpAny (model X.prog X.w) X.A (eval (.Lambda params body scope pos) X.env) Q E s := by
  obtain ⟨ps, hP, ok, old⟩ := hT _ mem
  have bm : s.heap.BuiltinsAt X.mg P := B.bm.keeps I.bk
  have tb : s.heap.get? P = some { cls := .none, data := .fields ps } := I.hok P _ hP
  have ltP := Heap.lt_size tb
  have far : ∀ f, s.heap.objs.size ≤ f → f ∉ frs X.stack := fun f hf z => by
    cases List.mem_cons.mp (I.stkSub _ z) with
    | inl e =>
      have h1 := I.lt
      rw [← e] at h1
      exact absurd h1 (Nat.not_lt.mpr hf)
    | inr e => exact I.nofs hf e
  have hC := B.code.keeps I.bk
  have hG := I.mod.glob.keeps I.bk
  have clo := closure_ok cap
  refine PySem.W.kla_eval nodef ?_
  rcases hc : codeAmong pos ps.toList with _ | cv
  · refine PySem.W.kla_makeFunction (ps := ps) (P := P) (c := c) (mg := X.mg) clo I.ok.glob hG co hC tb ok hc B.gP bm ?_
    intro c' ctv h' tk keepH ge lt rec grown
    obtain ⟨_, oc, vs, t, e0, e1, e2, e3⟩ := rec
    cases e0
    have new : H c' = none := I.hok.fresh ge
    have sz : s.heap.objs.size ≤ h'.objs.size := by omega
    have J := LamX.inv_table (t' := tk) (c := c') (q := X.env.qual ++ "<lambda>") (more := #[rawInt pos.line, rawInt pos.col, .ref c']) (h' := h'.push (lamO X params body scope ((X.mg "__name__").getD .none) c' ctv)) I hP
      (fun b o n q => Heap.get?_push_of_some _ (keepH b o n q)) (Heap.get?_push_of_some _ grown) ge ⟨oc, vs, t, Heap.get?_push_of_some _ e1, e2, e3⟩
    refine k h'.objs.size c' _ ctv _ _ J (fun b o n q => ?_) (tabs_grown hP ok old only hT new) (Heap.get?_push_size _ rfl) ?_ (far _ sz) upd_same
    · rw [upd_ne (ne_of_none q new), upd_ne n]; exact q
    · have m1 : h'.objs.size ≠ c' := fun z => absurd lt (by rw [z]; exact Nat.lt_irrefl _)
      have m2 : h'.objs.size ≠ P := fun z => absurd (Nat.lt_of_lt_of_le ltP sz) (by rw [z]; exact Nat.lt_irrefl _)
      rw [upd_ne m1, upd_ne m2]
      exact I.hok.fresh sz
  · obtain ⟨c', rfl, hco⟩ := old pos cv hc
    refine PySem.W.kla_makeFunctionHit (ps := ps) (P := P) (c := c) (mg := X.mg) clo I.ok.glob hG co hC tb ok hc bm ?_
    intro ctv h' tk keepH sz
    have J : L2.Inv X pins σ H { s with heap := h'.push (lamO X params body scope ((X.mg "__name__").getD .none) c' ctv), toks := tk } := I.kept fun b o q => Heap.get?_push_of_some _ (keepH b o q)
    exact k h'.objs.size c' _ ctv H _ J (fun _ _ _ q => q) hT (Heap.get?_push_size _ rfl) (I.hok.fresh sz) (far _ sz) hco
end
/-- x(lambda: ..) -/
def tLam1 (T : List (Addr × Str)) (P : Addr) (TT : (XK → Hp → VK → Prop) → Hp → VK → Prop) (t : XK → TE) : TE := fun σ H Q => LamX.Tabs T H ∧ ∀ H1, ExtP P H H1 → LamX.Tabs T H1 → TT (fun E H' Q' => t E σ H' Q') H1 Q
/-- what the call x(lambda: ..) asks of the def x, told once -/
structure LamD (X : Cx) (T : List (Addr × Str)) (x a : Str) (c P : Addr) (TT : (XK → Hp → VK → Prop) → Hp → VK → Prop) : Prop where
  ex : ∃ (g : Addr) (pg : Arguments) (bg : List Stmt) (sg : Scope) (dV kV doc pm cdv ct oc : Value) (an od : Option Addr) (osl : Array (Option Value)) (Ng : List Str), X.mg x = some (.ref g) ∧ PySem.W.keepIn X.K (.ref g) = true ∧
    X.K.lookup g = some ⟨oc, od, .func (PySem.W.fnOf x x pg bg sg dV kV doc pm an cdv ct), osl⟩ ∧ PySem.W.codeIn X.K cdv x = true ∧ L2.Binds X.K (PySem.W.fnOf x x pg bg sg dV kV doc pm an cdv ct) [a] [] ∧ FnScope Ng [a] sg ∧ Ng[0]? = some a ∧ Vis sg a ∧
    LamX.GivesTo X Ng x sg g cdv bg a (X.env.qual ++ "<lambda>") TT
  TB : LamX.TabB X.base X.mg c P
  co : X.env.code = .ref c
  mem : (P, X.env.qual ++ "<lambda>") ∈ T
  only : ∀ p ∈ T, p.1 = P → p.2 = X.env.qual ++ "<lambda>"
theorem pe_lam1 {X : Cx} {T : List (Addr × Str)} {P c : Addr} {TT : (XK → Hp → VK → Prop) → Hp → VK → Prop} {x a : Str} {k : Nat} {params : Arguments} {body : Expr} {scope : Scope} {t : XK → TE} {p lpos pos : Pos} (M : LamD X T x a c P TT) (hg : Gl X x) (hr : Room (k + 2) X.A)
    (L : LamX.LamS X.env.scope scope) (nodef : defaultsOf params X.env = ([], [])) (bnd : ∀ (q : Str) (cl : List (Str × Addr)) (pm cv ctv : Value), bindArgs (PySem.W.kla_fn "<lambda>" q params body scope cl pm cv ctv) ⟨[], []⟩ = pure [])
    (hb : ∀ (A : Around) (outer : List PySem.Env) (s : Shared) (H : Hp) (E : XK) (f c' : Addr), Room k (A.deeper (LamX.lamEnv X scope s.heap.objs.size f c')) → PE (LamX.lamCx X A outer s H E scope f c') body (t E))
    (d1 : (x == ("__debug__" : Str)) = false := by decide) (d2 : (a == ("__debug__" : Str)) = false := by decide) (d3 : (a == ("__classdict__" : Str)) = false := by decide) : PE X (.Call (.Name x p) [.Lambda params body scope lpos] [] pos) (tLam1 T P TT t) := by
  obtain ⟨g, pg, bg, sg, dV, kV, doc, pm, cdv, ct, oc, an, od, osl, Ng, hm, hk, lk, hcg, hbd, Sg, n0, va, G⟩ := M.ex
  constructor
  intro pins s σ H Q I ⟨hT, h⟩
  refine wpAny_Call_Name_kw (ld_glob I hg hm ?_ d1)
  refine PySem.W.callWith_K (h₀ := X.base) I.ok.mod.kin hk ?_ (by rfl) (by rfl)
  show wpAny _ _ (spliced ((false, _) :: backTo pos (starEach [] X.env))) _ _ s
  refine Calls.spliced_cons (mk_lam I M.TB M.co M.mem M.only hT nodef (L.has I.ok) ?_)
  intro f c' pm' ctv H1 s' J ext T1 hf hfn hfr hco
  have run : codeAny (model X.prog X.w) X.A (.call (.ref g) ⟨[.ref f], []⟩) (CR C8.CX0 X.stack X.prog X.w H1 s' Q C8.E0) s' := by
    refine LamX.run_ofS (N := Ng) (us := [.ref f]) (vs := [.ref f]) (ps := [a]) lk hcg Sg hr J.env0 (hbd s' [.ref f] J.kIn rfl) (.cons rfl .nil) rfl ?_
    intro hr'
    obtain ⟨tt, htt, hq⟩ := G f c' s' H1 Q (fun E H' Q' => t E σ H' Q') (fun W pn xe E p1 p2 tk hW => LamX.pe_act (i := 0) J L hf hfn hfr (bnd _ _ _ _ _) tk hW hr' (fun A outer s H hr2 => hb A outer s H E f c' hr2) n0 va d2 d3) hco (h H1 ext T1)
    exact ⟨tt, htt.nox, hq⟩
  refine Calls.spliced_nil ⟨J.kIn, wpAny_call (codeAny_mono run ?_)⟩
  intro r s2 hq
  cases r with
  | error e => exact (show False from hq).elim
  | ok fl =>
    cases fl with
    | ret u => exact J.after hq
    | _ => exact False.elim hq
/-- caught: None, or the error -/
def TCaught (K : PySem.W.Frag) (CS : Addr) : (XK → Hp → VK → Prop) → Hp → VK → Prop := fun tl H Q =>
  tl (fun cls d H' => ∃ C : Addr, cls = .ref C ∧ PySem.W.exmOne K cls (.ref CS) = some true ∧ ∀ a, H' a = none → Q (.ref a) (upd H' a (excH a C d))) H fun _ H' => Q .non H'
/-- what is read only -/
def shR (ρ : Rho) : Rho := ρ.map fun s => match s with
  | some (true, _) => none
  | s => s
theorem shR_get {ρ : Rho} {i : Nat} {b : Bool} {d : D} (h : (shR ρ)[i]? = some (some (b, d))) : b = false ∧ ρ[i]? = some (some (false, d)) := by
  unfold shR at h
  rw [List.getElem?_map] at h
  obtain ⟨s, h1, h2⟩ := Option.map_eq_some_iff.mp h
  match s, h2 with
  | some (false, d'), h2 =>
    cases h2
    exact ⟨rfl, h1⟩
/-- the heap behind the making of a lambda -/
theorem LP.grown {K : PySem.W.Frag} {Tt : List (Addr × Str)} (L : LP K Tt) {n : Nat} {H H1 : Hp} {P : Addr} {q : Str} (mem : (P, q) ∈ Tt) (g : L.G n H) (x : ExtP P H H1) (t : LamX.Tabs Tt H1) : L.G n H1 := by
  obtain ⟨⟨gr, left, turn, h1, h2, h3, h4⟩, hs, ht, hn⟩ := g
  obtain ⟨ps, hP, _⟩ := ht _ mem
  have ne : ∀ b o, H b = some o → (∀ qs, o ≠ .tbl qs) → b ≠ P := fun b o e k z => by
    rw [z, hP] at e
    exact k ps (Option.some.inj e).symm
  refine ⟨⟨gr, left, turn, x _ _ (ne _ _ h1 fun _ z => nomatch z) h1, x _ _ (ne _ _ h2 fun _ z => nomatch z) h2, x _ _ (ne _ _ h3 fun _ z => nomatch z) h3, h4⟩, ?_, t, hn⟩
  rcases hs with ⟨tr, h⟩ | ⟨tr, ⟨o, h⟩ | h⟩
  · exact .inl ⟨tr, x _ _ (ne _ _ h fun _ z => nomatch z) h⟩
  · exact .inr ⟨tr, .inl ⟨o, x _ _ (ne _ _ h fun _ z => nomatch z) h⟩⟩
  · exact .inr ⟨tr, .inr h⟩
/-- the world of the lambda's body -/
def Wlam {W : Wd} {n : Nat} {Z : ZL} {T : TL} {ρ : Rho} {σ : L2.St} {H : Hp} (e : Env W n Z T ρ σ H) (Q : Nat → D → Prop) (K : PySem.W.Frag) (CS : Addr) (k : VK) (hk : RetK W Z T ρ σ Q k) : Wd where
  V := W.V
  X0 := XX W Z ρ σ
  G := W.G
  H0 := H
  E := fun cls d H' => ∃ C : Addr, cls = .ref C ∧ PySem.W.exmOne K cls (.ref CS) = some true ∧ ∀ a, H' a = none → k (.ref a) (upd H' a (excH a C d))
  EP := fun n C ns l => ns = [] ∧ l = [] ∧ PySem.W.exmOne K (.ref C) (.ref CS) = some true ∧ Q n (.exc C [] [])
  vx := fun a h => .inl (W.vx a h)
  xd := fun a h => e.xdom h
  vd := W.vd
  stab := W.stab
  hE := fun n' C ns l od H' ⟨h1, h2, ex, q⟩ fr g x => by
    refine ⟨C, rfl, ex, fun a ha => ?_⟩
    have h0 : od = none := by
      rcases x with ⟨_, _, x⟩ | ⟨_, _, x, _⟩
      · exact x
      · exact absurd h1 x
    subst h0
    have e2 := e.heap fr g
    exact hk n' _ _ _ q (e2.new ha) (.exc0 (fun x => e2.xdom x ha) upd_same)
theorem de_caught {K : PySem.W.Frag} {Tt : List (Addr × Str)} {W : Wd} {n : Nat} {ρ : Rho} {Q : Nat → D → Prop} {P CS : Addr} {q : Str} {te : XK → TE} (L : LP K Tt) (hV : W.V = L.V) (hG : W.G = L.G) (mem : (P, q) ∈ Tt)
    (h : ∀ (W' : Wd) (E' : XK), W'.V = L.V → W'.G = L.G → W'.E = E' → W'.EP = (fun n C ns l => ns = [] ∧ l = [] ∧ PySem.W.exmOne K (.ref C) (.ref CS) = some true ∧ Q n (.exc C [] [])) → DE (te E') W' n (shR ρ) fun n' _ => Q n' .non) :
    DE (tLam1 Tt P (TCaught K CS) te) W n ρ Q := fun Z T σ H e Qk k => by
  have g0 : L.G n H := by rw [← hG]; exact e.g
  refine ⟨g0.2.2.1, fun H1 ext T1 => ?_⟩
  have vP : W.V P := by rw [hV]; exact .inr (.inr (.inr (.inr ⟨_, mem, rfl⟩)))
  have e1 : Env W n Z T ρ σ H1 := e.heap (fun b o hb hv => ext b o (fun z => hv (by rw [z]; exact vP)) hb) (by rw [hG]; exact L.grown mem g0 ext T1)
  have m : ∀ b, XX (Wlam e1 Q K CS Qk k) [] (shR ρ) σ b → XX W Z ρ σ b := fun b x => by
    rcases x with x | ⟨i, d, x, _⟩ | ⟨o, x⟩
    · exact x
    · have := (shR_get x).1
      cases this
    · cases x
  have mv : Mv (XX W Z ρ σ) H1 (XX (Wlam e1 Q K CS Qk k) [] (shR ρ) σ) H1 := fun b o hb hx => ⟨hb, fun x => hx (m b x)⟩
  have e2 : Env (Wlam e1 Q K CS Qk k) n [] [] (shR ρ) σ H1 := by
    refine ⟨by unfold shR; rw [List.length_map]; exact e.len, fun i d x => ?_, fun i d x => ?_, fun i j d d' a x => ?_, fun p hp => (nomatch hp), List.nodup_nil, fun p hp => (nomatch hp), fun a o ha _ => ha, e1.g⟩
    · obtain ⟨v, h1, h2⟩ := e1.sh i d (shR_get x).2
      exact ⟨v, h1, h2.mv mv⟩
    · have := (shR_get x).1
      cases this
    · have := (shR_get x).1
      cases this
  exact h (Wlam e1 Q K CS Qk k) _ hV hG rfl rfl [] [] σ H1 e2 _ fun n' v d H' p e3 _ => k n' .non .non H' p (e1.heap e3.fr e3.g) .non
/-! ### defs whose code object is known (the makers of lambdas) -/
structure DefC (K : PySem.W.Frag) (mg : Str → Option Value) (x : Str) (st : Stmt) (ps : List Str) (c : Addr) : Prop where
  ex : ∃ (f : Addr) (oc : Value) (od : Option Addr) (kV doc pm : Value) (an : Option Addr) (ct : Value) (osl : Array (Option Value)), K.lookup f = some ⟨oc, od, .func (PySem.W.fnOf x x (defArgs st) (defBody st) (defScope st) .none kV doc pm an (.ref c) ct), osl⟩ ∧
    PySem.W.codeIn K (.ref c) x = true ∧ PySem.W.keepIn K (.ref f) = true ∧ mg x = some (.ref f) ∧ Binds K (PySem.W.fnOf x x (defArgs st) (defBody st) (defScope st) .none kV doc pm an (.ref c) ct) ps []
section
variable {P : Program} {w : World} {K : PySem.W.Frag} {Tt : List (Addr × Str)} {mg : Str → Option Value} {base : Heap} {k m c0 : Nat} {c : Addr} {x : Str} {st : Stmt} {N ps : List Str} {pre : LP K Tt → List D → Prop} {R : LP K Tt → List D → Bool → D → Prop}
theorem DefC.def (Dd : DefC K mg x st ps c) : Def K mg x st ps := by
  obtain ⟨f, oc, od, kV, doc, pm, an, ct, osl, lk, hc, hk, hm, hb⟩ := Dd.ex
  exact ⟨f, _, ⟨⟨oc, od, kV, doc, pm, an, .ref c, ct, osl, rfl, lk, hc⟩, hk⟩, hm, hb⟩
theorem DefC.raw {sp : Sp} (Dd : DefC K mg x st ps c) (S : FnScope N ps (defScope st)) (len : ∀ vs H Q E, sp vs H Q E → vs.length = ps.length)
    (h : ∀ (f : Addr) (A : Around) (outer : List PySem.Env) (s : Shared) (H : Hp) (vs : List L2.V) (Q : VK) (E : XK), Room k (A.deeper (envOfC x (defScope st) s.heap.objs.size f (.ref c))) → sp vs H Q E →
      ∃ t, PSs (cxD P w K mg base N x st f (.ref c) A outer s H E) (defBody st) t ∧ t { nx := fun _ H' => Q .non H', rt := Q } (L2.start N vs) H) : Cal P w K mg base (k + 1) x st ps sp := by
  obtain ⟨f, oc, od, kV, doc, pm, an, ct, osl, lk, hc, hk, hm, hb⟩ := Dd.ex
  exact ⟨f, _, fn_of lk hc S len fun A outer s H vs Q E hr q => h f A outer s H vs Q E hr q, hm, hk, hb, ⟨⟨oc, od, kV, doc, pm, an, .ref c, ct, osl, rfl, lk, hc⟩, hk⟩⟩
theorem DefC.okL (Dd : DefC K mg x st ps c) (S : FnScope N ps (defScope st)) (hn : m = ps.length)
    (h : ∀ (f : Addr) (A : Around) (outer : List PySem.Env) (s : Shared) (H : Hp) (E : XK), Room k (A.deeper (envOfC x (defScope st) s.heap.objs.size f (.ref c))) →
      ∃ t, PSs (cxD P w K mg base N x st f (.ref c) A outer s H E) (defBody st) t ∧ ∀ (L : LP K Tt) (W : Wd) (n : Nat) (ds : List D), W.V = L.V → W.G = L.G → W.E = E → ds.length = m → c0 ≤ n → pre L ds →
        DS t W n (startR N ds) (fun n' _ => n ≤ n' + c0 ∧ R L ds false .non) (fun n' b d => n ≤ n' + c0 ∧ R L ds b d) (fun _ _ => False) (fun _ _ => False)) : Cal P w K mg base (k + 1) x st ps (spL K Tt m c0 pre R) := by
  refine Dd.raw S (fun vs H Q E ⟨L, q⟩ => by rw [prm_len q, hn]) fun f A outer s H vs Q E hr ⟨L, q⟩ => ?_
  obtain ⟨t, ht, hd⟩ := h f A outer s H E hr
  exact ⟨t, ht, prm_body L.stab q fun W n ds w1 w2 w3 w4 hl ⟨hc, hp⟩ => (hd L W n ds w1 w2 w3 hl hc hp).impR (fun n' ρ ⟨a, b⟩ => ⟨a, _, _, rfl, b⟩) fun n' b d ⟨h1, h2⟩ => ⟨h1, _, _, rfl, h2⟩⟩
end
theorem LamD.of {X : Cx} {T : List (Addr × Str)} {x a : Str} {c P : Addr} {TT : (XK → Hp → VK → Prop) → Hp → VK → Prop} {st : Stmt} {Ng : List Str} (Dd : Def X.K X.mg x st [a]) (S : FnScope Ng [a] (defScope st)) (n0 : Ng[0]? = some a) (va : Vis (defScope st) a)
    (G : ∀ (g : Addr) (cdv : Value), LamX.GivesTo X Ng x (defScope st) g cdv (defBody st) a (X.env.qual ++ "<lambda>") TT) (TB : LamX.TabB X.base X.mg c P) (co : X.env.code = .ref c) (mem : (P, X.env.qual ++ "<lambda>") ∈ T) (only : ∀ p ∈ T, p.1 = P → p.2 = X.env.qual ++ "<lambda>") : LamD X T x a c P TT := by
  obtain ⟨f, fd, F, hm, hb⟩ := Dd.ex
  obtain ⟨oc, od, kV, doc, pm, an, cdv, ct, osl, rfl, lk, hc⟩ := F.ex
  exact ⟨⟨f, _, _, _, _, _, _, _, _, _, _, _, _, _, Ng, hm, F.kp, lk, hc, hb, S, n0, va, G f cdv⟩, TB, co, mem, only⟩
/-- in a lambda's body errors go out as the lambda's own -/
theorem passLam {X : Cx} {A : Around} {outer : List PySem.Env} {s : Shared} {H : Hp} {E : XK} {scope : Scope} {f c' : Addr} : Passes (L2.CX (LamX.lamCx X A outer s H E scope f c').prog (LamX.lamCx X A outer s H E scope f c').w) (LamX.lamCx X A outer s H E scope f c') E := passes_call (takes_of rfl rfl rfl rfl) fun _ _ _ _ h => h
/-! ### the law itself -/
def spLaw (K : PySem.W.Frag) (Tt : List (Addr × Str)) : Sp := fun vs H Q _ => ∃ (a : Addr) (ns : List Int), vs = [.ref a] ∧ SqL K H a (ns.map .int) ∧ ns.length ≤ 63 ∧ LamX.Tabs Tt H ∧ ∀ H', Q (.bl true) H'
theorem law_run {K : PySem.W.Frag} {Tt : List (Addr × Str)} {u : TS} {E : XK} {Q : VK} {H : Hp} {vs : List L2.V} {n0 n1 : Str} {N : List Str} (h : spLaw K Tt vs H Q E)
    (k : ∀ (L : LP K Tt) (W : Wd) (ns : List Int), W.V = L.V → W.G = L.G → W.E = E → ns.length ≤ 63 → (∀ n H, W.G n H → SqL K H L.a (ns.map .int)) →
      DS u W (2 ^ 30) (some (false, .raw L.a) :: some (false, .raw L.s) :: List.replicate N.length none) (fun _ _ => False) (fun _ _ d => d = .bl true) (fun _ _ => False) (fun _ _ => False)) :
    tSeq (tAsg (tCall (spBegun K) [] E (tCons (tVar 0) tNil)) (gName 1)) u { nx := fun _ H' => Q .non H', rt := Q } (L2.start (n0 :: n1 :: N) vs) H := by
  obtain ⟨a, ns, rfl, hsq, hl, hT, q⟩ := h
  obtain ⟨tr, hs⟩ := scr_of hsq
  refine ⟨_, rfl, ⟨a, ns, rfl, hsq, by omega, fun s g c gr cells H' hgr hs0 hg0 hc0 nsg nsc ngc h1 h2 h3 keep => ?_⟩⟩
  have hG : (LP.mk s g c a cells (ns.map .int) tr : LP K Tt).G (2 ^ 30) H' := by
    refine ⟨⟨gr, 0, 0, h1, h2, h3, Int.le_refl _, hgr, Int.le_refl _, by decide⟩, ?_, hT.ext keep, ngc, fun t z => ?_⟩
    · rcases hs with ⟨t, h⟩ | ⟨t, ⟨o, h⟩ | h⟩
      · exact .inl ⟨t, keep _ _ h⟩
      · exact .inr ⟨t, .inl ⟨o, keep _ _ h⟩⟩
      · exact .inr ⟨t, .inr h⟩
    · rcases hs with ⟨_, h⟩ | ⟨t', _⟩
      · have z : a = g := z
        rw [z, hg0] at h; cases h
      · exact t' t
  have st := (LP.mk s g c a cells (ns.map .int) tr : LP K Tt).stab
  obtain ⟨W, w1, w2, w3, w4, w5⟩ : ∃ W : Wd, W.V = (LP.mk s g c a cells (ns.map .int) tr : LP K Tt).V ∧ W.G = (LP.mk s g c a cells (ns.map .int) tr : LP K Tt).G ∧ W.E = E ∧ W.X0 = W.V ∧ W.H0 = H' :=
    ⟨{ V := (LP.mk s g c a cells (ns.map .int) tr : LP K Tt).V, X0 := (LP.mk s g c a cells (ns.map .int) tr : LP K Tt).V, G := (LP.mk s g c a cells (ns.map .int) tr : LP K Tt).G, H0 := H', E := E, EP := fun _ _ _ _ => False, vx := fun _ h => h, xd := fun b hb => st.vd _ _ hG b hb, vd := st.vd, stab := st.stab, hE := fun _ _ _ _ _ _ h => False.elim h }, rfl, rfl, rfl, rfl, rfl⟩
  have none_slots : ∀ (X : AP) (m : Nat), Slots X H' (List.replicate m none) (List.replicate m none) := fun X m => by
    induction m with
    | zero => exact True.intro
    | succ m ih => exact ih
  have e : Env W (2 ^ 30) [] [] (some (false, .raw a) :: some (false, .raw s) :: List.replicate N.length none) (some (.ref a) :: some (.ref s) :: List.replicate N.length none) H' :=
    env_slots ⟨.raw a, .raw s, none_slots _ _⟩ (fun b o hb _ => by rw [w5] at hb; exact hb) (by rw [w2]; exact hG)
  exact k ⟨s, g, c, a, cells, ns.map .int, tr⟩ W ns w1 w2 w3 hl (fun n H g => by rw [w2] at g; exact g.2.1.sq) [] [] _ H' e _ ⟨fun _ _ _ _ h => h.elim, fun n v d H2 hd _ _ i => (by rw [hd] at i; cases i; exact q H2), fun n a o d H2 hd _ _ _ _ ho => (by rw [hd] at ho; cases ho), fun _ _ _ _ h => h.elim, fun _ _ _ _ h => h.elim⟩
end HD

namespace HD
open PySem PySem.Spec PyProof.Rows L2
/-! ### from the head's facts -/
section
variable {K : PySem.W.Frag} {mg : Str → Option Value} {x : Str} {st : Stmt} {ps : List Str} {f : Addr} {fd : FuncData}
theorem fun_of (F : FunD K x x (defArgs st) (defBody st) (defScope st) [] [] f fd) : Fun K x x st f fd := by
  obtain ⟨oc, od, dV, kV, doc, pm, an, cdv, ct, osl, rfl, lk, hc, hD, _⟩ := F.ex
  rcases hD with ⟨_, rfl⟩ | ⟨h, _⟩
  · exact ⟨⟨oc, od, kV, doc, pm, an, cdv, ct, osl, rfl, lk, hc⟩, F.kp⟩
  · exact absurd rfl h
theorem def_of (F : FunD K x x (defArgs st) (defBody st) (defScope st) [] [] f fd) (hm : mg x = some (.ref f))
    (h : ∀ (kV doc pm : Value) (an : Option Addr) (cdv ct : Value) (us : List Value), us.length = ps.length → bindArgs (PySem.W.fnOf x x (defArgs st) (defBody st) (defScope st) .none kV doc pm an cdv ct) ⟨us, []⟩ = pure (ps.zip us)) : Def K mg x st ps := ⟨f, fd, fun_of F, hm, F.bindsN h⟩
theorem defC_of {p : Str × Option Str} (F : FunD K x x (defArgs st) (defBody st) (defScope st) [] [] (He.fAd K p) fd) (hm : mg x = some (.ref (He.fAd K p)))
    (h : ∀ (kV doc pm : Value) (an : Option Addr) (cdv ct : Value) (us : List Value), us.length = ps.length → bindArgs (PySem.W.fnOf x x (defArgs st) (defBody st) (defScope st) .none kV doc pm an cdv ct) ⟨us, []⟩ = pure (ps.zip us)) : DefC K mg x st ps (He.cT K p).1 := by
  have b := F.bindsN h
  obtain ⟨oc, od, dV, kV, doc, pm, an, cdv, ct, osl, rfl, lk, hc, hD, _⟩ := F.ex
  rcases hD with ⟨_, rfl⟩ | ⟨z, _⟩
  · obtain ⟨c, e⟩ := He.codeIn_ref hc
    subst e
    have ec : (He.cT K p).1 = c := He.codeOf_eq lk rfl
    rw [ec]
    exact ⟨_, oc, od, kV, doc, pm, an, ct, osl, lk, hc, F.kp, hm, b⟩
  · exact absurd rfl z
theorem Cal.fnok {P : Program} {w : World} {base : Heap} {k : Nat} {sp : Sp} (C : Cal P w K mg base k x st ps sp) (F : FunD K x x (defArgs st) (defBody st) (defScope st) [] [] f fd) (hm : mg x = some (.ref f)) : FnOk P w K mg base (L2.CX P w) k f fd ps sp := by
  obtain ⟨f', fd', G, hm', _, _, F'⟩ := C.ex
  rw [hm] at hm'
  cases hm'
  obtain ⟨oc, od, kV, doc, pm, an, cdv, ct, osl, e, lk, _⟩ := F'.ex
  obtain ⟨oc2, od2, dV2, kV2, doc2, pm2, an2, cdv2, ct2, osl2, e2, lk2, _⟩ := F.ex
  rw [lk] at lk2
  cases lk2
  exact G
end
/-- what isinstance asks of an error class, decided -/
def excCB (K : PySem.W.Frag) (D : Addr) : Bool := He.eqO (PySem.W.findIn K (.ref D) "__getattribute__") (some (some (.builtin "BaseException.__getattribute__"))) && (He.eqO (PySem.W.findIn K (.ref D) "__getattr__") (some none) && (decide (PySem.W.subIn K (.ref D) (.type "BaseException") = some true) &&
  (PySem.W.hasDictIn K D && (He.eqO (PySem.W.findIn K (.ref D) "__class__") (some (some (.builtin "object.__class__"))) && (He.eqO (PySem.W.specialIn K (.builtin "object.__class__") "__get__") (some (some (.builtin "getset_descriptor.__get__"))) &&
  (decide (PySem.W.takesIn K (.builtin "object.__class__") = some true) && decide (PySem.W.mroIn K D (.type "object") = some true)))))))
theorem excC_of {K : PySem.W.Frag} {D : Addr} (h : excCB K D = true) : ExcC K D := by
  unfold excCB at h
  simp only [Bool.and_eq_true] at h
  obtain ⟨h1, h2, h3, h4, h5, h6, h7, h8⟩ := h
  exact ⟨He.eqO_ok h1, He.eqO_ok h2, of_decide_eq_true h3, h4, He.eqO_ok h5, He.eqO_ok h6, of_decide_eq_true h7, of_decide_eq_true h8⟩
theorem excT_of {K : PySem.W.Frag} {mg : Str → Option Value} {h : Heap} {x : Str} (X : K.In h) (G : h.Ns mainGlobals mg) (c1 : (He.Fa.glo x).ok K = true) (c2 : (He.Fa.exc x).ok K = true) : ExcT K mg x (He.ga K x) := by
  obtain ⟨h1, h2, h3, h4⟩ := He.exc_ok c2
  exact ⟨He.glo_ok X G c1, h1, h2, h3, h4⟩
end HD

namespace HD
open PySem PySem.Spec PyProof.Rows L2
/-! ### classes: C(..) as a promise on data -/
/-- __init__ called on a new instance; sp tells of C(..) -/
def spInit (C : Addr) (sp : Sp) : Sp := fun vs H Q E => ∃ (x dx : Addr) (vs' : List L2.V) (H1 : Hp) (Q' : VK), vs = .ref x :: vs' ∧ H1 x = none ∧ H1 dx = none ∧ dx ≠ x ∧ H = upd (upd H1 dx (.own x)) x (.ins C dx []) ∧ (∀ H2, Q' (.ref x) H2 → Q .non H2) ∧ sp vs' H1 Q' E
structure DefI (K : PySem.W.Frag) (mg : Str → Option Value) (x q : Str) (st : Stmt) (ps : List Str) (C : Addr) : Prop where
  ex : ∃ (f : Addr) (fd : FuncData), Fun K "__init__" q st f fd ∧ Mk K C f ∧ mg x = some (.ref C) ∧ Binds K fd ("self" :: ps) []
structure CalC (P : Program) (w : World) (K : PySem.W.Frag) (mg : Str → Option Value) (base : Heap) (k : Nat) (x q : Str) (st : Stmt) (ps : List Str) (C : Addr) (sp : Sp) : Prop where
  ex : ∃ (f : Addr) (fd : FuncData), FnOk P w K mg base (L2.CX P w) k f fd ("self" :: ps) (spInit C sp) ∧ Mk K C f ∧ mg x = some (.ref C) ∧ Binds K fd ("self" :: ps) [] ∧ Fun K "__init__" q st f fd
/-- within __init__: the new instance at x has the fields ns with the data l -/
def DSI (x dx C : Addr) (t : TS) (W : Wd) (n : Nat) (ρ : Rho) (ns : List Str) (l : List D) (P : Nat → Rho → List Str → List D → Prop) : Prop :=
  ∀ (T : TL) (σ : L2.St) (H : Hp) (fs : List (Str × L2.V)), Env W n [(x, .ins C dx fs)] T ρ σ H → fs.map (·.1) = ns → IsAll (XX W [(x, .ins C dx fs)] ρ σ) H (fs.map (·.2)) l →
    ∀ De : Ends, (∀ (n' : Nat) (ρ' : Rho) (σ' : L2.St) (H' : Hp) (fs' : List (Str × L2.V)) (ns' : List Str) (l' : List D), P n' ρ' ns' l' → Env W n' [(x, .ins C dx fs')] T ρ' σ' H' → fs'.map (·.1) = ns' → IsAll (XX W [(x, .ins C dx fs')] ρ' σ') H' (fs'.map (·.2)) l' → De.nx σ' H') → t De σ H
section
variable {x dx C : Addr} {W : Wd} {n : Nat} {ρ : Rho} {ns : List Str} {l : List D} {P : Nat → Rho → List Str → List D → Prop} {t u : TS} {te : TE} {f : Str} {K : PySem.W.Frag}
theorem putF_new {f : Str} {v : L2.V} : ∀ {fs : List (Str × L2.V)}, f ∉ fs.map (·.1) → putF f v fs = fs ++ [(f, v)]
  | [], _ => rfl
  | (g, y) :: r, h => by
    have h1 : g ≠ f := fun z => h (by rw [z]; exact List.mem_cons_self)
    have h2 : f ∉ r.map (·.1) := fun z => h (List.mem_cons_of_mem _ z)
    show (if g = f then (g, v) :: r else (g, y) :: putF f v r) = (g, y) :: (r ++ [(f, v)])
    rw [if_neg h1, putF_new h2]
theorem dsi_do (h : DS t W n ρ (fun n ρ' => DSI x dx C u W n ρ' ns l P) (fun _ _ _ => False) (fun _ _ => False) (fun _ _ => False)) : DSI x dx C (tSeq t u) W n ρ ns l P := fun T σ H fs e hk ha De k =>
  h [(x, .ins C dx fs)] (zipT (fs.map (·.2)) l ++ T) σ H (e.pushAll ha) _ ⟨fun n' ρ' σ' H' q e' => q T σ' H' fs e'.popAll hk (e'.topAll ha.len) De k, fun _ _ _ _ h => h.elim, fun _ _ _ _ _ h => h.elim, fun _ _ _ _ h => h.elim, fun _ _ _ _ h => h.elim⟩
theorem dsi_seq (h : DSI x dx C t W n ρ ns l fun n' ρ' ns' l' => DSI x dx C u W n' ρ' ns' l' P) : DSI x dx C (tSeq t u) W n ρ ns l P := fun T σ H fs e hk ha De k =>
  h T σ H fs e hk ha _ fun n' ρ' σ' H' fs' ns' l' q e' hk' ha' => q T σ' H' fs' e' hk' ha' De k
/-- self.f = e -/
theorem dsi_fld (h0 : ρ[0]? = some (some (false, .raw x))) (c : Cls K C) (na : NoAttr K C f) (hf : f ∉ ns) (hl : l.length < 900) (h : DE te W n ρ fun n' d => P n' ρ (ns ++ [f]) (l ++ [d])) : DSI x dx C (sFld K (tVar 0) te f) W n ρ ns l P := fun T σ H fs e hk ha De k =>
  h [(x, .ins C dx fs)] (zipT (fs.map (·.2)) l ++ T) σ H (e.pushAll ha) _ fun n' v d H' p e' iv => by
    obtain ⟨v0, s0, i0⟩ := e'.sh 0 _ h0
    cases i0
    have ha' := e'.topAll ha.len
    have hfs : fs.length = l.length := by have := ha.len; rw [List.length_map] at this; exact this
    have hz := (e'.z (x, .ins C dx fs) List.mem_cons_self).1
    refine ⟨.ref x, s0, x, C, dx, fs, rfl, hz, c, na, by omega, ?_⟩
    have hpf : putF f v fs = fs ++ [(f, v)] := putF_new (by rw [hk]; exact hf)
    have e2 : Env W n' [(x, .ins C dx fs)] (zipT (fs.map (·.2) ++ [v]) (l ++ [d]) ++ T) ρ σ H' := by
      have ee := (e'.popAll).pushAll (ha'.snoc iv)
      exact ee
    have e3 := e2.zput (o' := .ins C dx (fs ++ [(f, v)])) (by exact fun h => h)
    have hm : (fs ++ [(f, v)]).map (·.2) = fs.map (·.2) ++ [v] := by rw [List.map_append]; rfl
    have hl3 : (fs.map (·.2) ++ [v]).length = (l ++ [d]).length := (ha'.snoc iv).len
    rw [hpf]
    refine k n' ρ σ _ _ _ _ p e3.popAll (by rw [List.map_append, hk]; rfl) ?_
    rw [hm]
    exact e3.topAll hl3
end
section
variable {P : Program} {w : World} {K : PySem.W.Frag} {mg : Str → Option Value} {base : Heap} {k m : Nat} {x q : Str} {st : Stmt} {N ps : List Str} {C : Addr} {V : AP} {G : Nat → Hp → Prop} {pre : Nat → List D → Prop} {post : Nat → List D → Nat → Out → Prop}
theorem init_body {N : List Str} {vs : List L2.V} {H : Hp} {Q : VK} {E : XK} {t : TS} {n0 : Str} (S : Stab V G) (h : spInit C (Prm m V G pre post) vs H Q E)
    (k : ∀ (x dx : Addr) (W : Wd) (n : Nat) (ds : List D), W.V = V → W.G = G → W.E = E → W.EP = (fun n' C ns l => post n ds n' (.exc C ns l)) → ds.length = m → pre n ds →
      DSI x dx C t W n (some (false, .raw x) :: startR N ds) [] [] (fun n' _ ns l => post n ds n' (.ret true (.ins C ns l)))) :
    t { nx := fun _ H' => Q .non H', rt := Q } (L2.start (n0 :: N) vs) H := by
  obtain ⟨x, dx, vs', H1, Q', rfl, hx, hdx, hne, rfl, hQ, X, ds, n, hVX, hX, hG, hi, hl, hp, k1, k2, k3⟩ := h
  have W0 : ∃ W : Wd, W.V = V ∧ W.X0 = X ∧ W.G = G ∧ W.H0 = H1 ∧ W.E = E ∧ W.EP = (fun n' C ns l => post n ds n' (.exc C ns l)) := ⟨{ V := V, X0 := X, G := G, H0 := H1, E := E, EP := fun n' C ns l => post n ds n' (.exc C ns l), vx := hVX, xd := hX, vd := S.vd, stab := S.stab, hE := fun n' C ns l od H' p f g x => k3 n' C ns l od H' p f g x }, rfl, rfl, rfl, rfl, rfl, rfl⟩
  obtain ⟨W, w1, w2, w3, w4, w5, w6⟩ := W0
  have hlen := hi.len
  have gR : ∀ (i : Nat) (b : Bool) (d : D), (startR N ds)[i]? = some (some (b, d)) → b = false ∧ ds[i]? = some d := fun i b d q => by
    unfold startR at q
    rw [List.getElem?_append, List.length_map, List.getElem?_map] at q
    by_cases h : i < ds.length
    · rw [if_pos h] at q
      cases r : ds[i]? with
      | none => rw [r] at q; cases q
      | some d' => rw [r] at q; cases q; exact ⟨rfl, rfl⟩
    · rw [if_neg h, List.getElem?_replicate] at q
      split at q <;> cases q
  have no : ∀ (i : Nat) (d : D), ((some (false, D.raw x) : Option (Bool × D)) :: startR N ds)[i]? ≠ some (some (true, d)) := fun i d q => by
    cases i with
    | zero => cases q
    | succ i =>
      have := (gR i true d q).1
      cases this
  have noo : ∀ a, ¬ Own (some (false, .raw x) :: startR N ds) (L2.start (n0 :: N) (.ref x :: vs')) a := fun a ⟨i, d, q, _⟩ => no i d q
  have m : Mv X H1 (XX W [] (some (false, .raw x) :: startR N ds) (L2.start (n0 :: N) (.ref x :: vs'))) H1 := fun a o q hx => ⟨q, fun x => by
    rcases x with x | x | ⟨o, x⟩
    · rw [w2] at x; exact hx x
    · exact noo a x
    · cases x⟩
  have e : Env W n [] [] (some (false, .raw x) :: startR N ds) (L2.start (n0 :: N) (.ref x :: vs')) H1 := by
    refine ⟨?_, fun i d q => ?_, fun i d q => absurd q (no i d), fun i j d1 d2 a q1 => absurd q1 (no i d1), fun p hp => (nomatch hp), List.nodup_nil, fun p hp => (nomatch hp), fun a o h1 h2 => ?_, by rw [w3]; exact hG⟩
    · unfold L2.start startR
      simp [hlen]
    · cases i with
      | zero =>
        cases q
        exact ⟨.ref x, rfl, .raw x⟩
      | succ i =>
        obtain ⟨_, q⟩ := gR i false d q
        obtain ⟨v, h1, h2⟩ := hi.got q
        refine ⟨v, ?_, h2.mv m⟩
        have hlt : i < vs'.length := (List.getElem?_eq_some_iff.mp h1).1
        rw [start_get, if_pos (by simp; exact hlt), List.getElem?_cons_succ, h1]; rfl
    · rw [w4] at h1; exact h1
  have e1 := e.new (p := dx) (o := .own x) hdx
  have hx1 : (upd H1 dx (.own x)) x = none := by rw [upd_ne (Ne.symm hne)]; exact hx
  have e2 := e1.lay (p := x) (o := .ins C dx []) hx1
  refine k x dx W n ds w1 w3 w5 w6 hl hp [] _ _ [] e2 rfl .nil _ fun n' ρ' σ' H' fs' ns' l' p e' hk ha => hQ H' (k2 n' x (.ins C dx fs') (.ins C ns' l') H' p ?_ ?_ hx ?_ ?_)
  · have f := e'.fr
    rw [w1, w4] at f
    exact f
  · have g := e'.g
    rw [w3] at g
    exact g
  · exact (e'.z (x, .ins C dx fs') List.mem_cons_self).1
  · refine .ins hk (ha.mv (fun b o q hx => ⟨q, fun z => hx ?_⟩) _)
    rcases z with z | z
    · exact .inl (by rw [w2]; exact z)
    · exact .inr (.inr ⟨_, by rw [z]; exact List.mem_cons_self⟩)
theorem DefI.ok {n0 : Str} (Dd : DefI K mg x q st ps C) (S : FnScope (n0 :: N) ("self" :: ps) (defScope st)) (hn : m = ps.length) (ST : Stab V G)
    (h : ∀ (f : Addr) (cdv : Value) (A : Around) (outer : List PySem.Env) (s : Shared) (H : Hp) (E : XK), Room k (A.deeper (envOfC q (defScope st) s.heap.objs.size f cdv)) →
      ∃ t, PSs (cxD P w K mg base (n0 :: N) q st f cdv A outer s H E) (defBody st) t ∧ ∀ (x dx : Addr) (W : Wd) (n : Nat) (ds : List D), W.V = V → W.G = G → W.E = E → W.EP = (fun n' C ns l => post n ds n' (.exc C ns l)) → ds.length = m → pre n ds →
        DSI x dx C t W n (some (false, .raw x) :: startR N ds) [] [] (fun n' _ ns l => post n ds n' (.ret true (.ins C ns l)))) : CalC P w K mg base (k + 1) x q st ps C (Prm m V G pre post) := by
  obtain ⟨f, fd, F, M, hm, hb⟩ := Dd.ex
  refine ⟨f, fd, F.okX S (fun vs H Q E ⟨x, dx, vs', H1, Q', h, _, _, _, _, _, p⟩ => by rw [h, List.length_cons, prm_len p, hn]; rfl) fun cdv A outer s H vs Q E hr hq => ?_, M, hm, hb, F⟩
  obtain ⟨t, ht, hd⟩ := h f cdv A outer s H E hr
  exact ⟨t, ht, init_body ST hq hd⟩
end
section
variable {X : Cx} {k : Nat} {x q : Str} {st : Stmt} {ps : List Str} {C : Addr} {sp : Sp} {E : XK} {p pos : Pos} {e : Expr} {es : List Expr} {t : TA}
theorem PE.imp {X : Cx} {e : Expr} {t t' : TE} (h : PE X e t) (k : ∀ σ H Q, t' σ H Q → t σ H Q) : PE X e t' := ⟨fun pins s σ H Q I q => h.run pins s σ H Q I (k σ H Q q)⟩
/-- C(e, ..) -/
theorem pe_mk (Cc : CalC X.prog X.w X.K X.mg X.base k x q st ps C sp) (hr : Room (k + 1) X.A) (hx : Passes (L2.CX X.prog X.w) X E) (hg : Gl X x) (ha : PA X (e :: es) t) (hdb : (x == ("__debug__" : Str)) = false := by decide)
    (he : starEach (e :: es) X.env = (false, eval e X.env) :: starEach es X.env := by rfl) (hpl : (backTo pos (starEach es X.env)).any (·.1) = false := by rfl) : PE X (.Call (.Name x p) (e :: es) [] pos) (tCall sp [] E t) := by
  obtain ⟨f, fd, F, M, hm, hb, _⟩ := Cc.ex
  refine ⟨fun pins s σ H Q I h => ?_⟩
  refine wpAny_Call_Name_kw (ld_glob I hg hm ?_ hdb)
  refine PySem.W.callWith_K (h₀ := X.base) I.ok.mod.kin M.kp (thn (ha.run pos pins s σ H _ I h) fun us s1 ⟨vs, H1, I1, r, q⟩ => ⟨I1.kIn, ?_⟩) he hpl
  refine run_make M F hr hb .nil hx I1 r fun x dx h1 h2 h3 => ?_
  exact ⟨x, dx, vs ++ [], H1, Q, rfl, h1, h2, h3, rfl, fun H2 q => ⟨rfl, q⟩, q⟩
end
end HD

namespace HD
open PySem PySem.Spec PyProof.Rows L2
/-! ### slots forgotten at once -/
inductive Rfn : Rho → Rho → Prop
  | nil : Rfn [] []
  | keep {a : Option (Bool × D)} {r r' : Rho} : Rfn r r' → Rfn (a :: r) (a :: r')
  | skip {a : Option (Bool × D)} {r r' : Rho} : Rfn r r' → Rfn (a :: r) (none :: r')
theorem Rfn.len {r r' : Rho} (h : Rfn r r') : r'.length = r.length := by
  induction h with
  | nil => rfl
  | keep _ ih => simp [ih]
  | skip _ ih => simp [ih]
theorem Rfn.get {r r' : Rho} (h : Rfn r r') : ∀ (i : Nat) (s : Bool × D), r'[i]? = some (some s) → r[i]? = some (some s) := by
  induction h with
  | nil => intro i s e; simp at e
  | keep _ ih =>
    intro i s e
    cases i with
    | zero => simpa using e
    | succ i => simpa using ih i s (by simpa using e)
  | skip _ ih =>
    intro i s e
    cases i with
    | zero => simp at e
    | succ i => simpa using ih i s (by simpa using e)
theorem Rfn.refl : ∀ (r : Rho), Rfn r r
  | [] => .nil
  | _ :: r => .keep (Rfn.refl r)
section
variable {W : Wd} {n : Nat} {Z : ZL} {T : TL} {ρ ρ0 : Rho} {σ : L2.St} {H : Hp} {N N' : Nat → Rho → Prop} {R : Nat → Bool → D → Prop} {B C : Nat → Rho → Prop} {t u : TS} {te ta tb : TE} {tt : TT} {d : D} {K : PySem.W.Frag} {P : Nat → D → Prop}
theorem Env.rfn (e : Env W n Z T ρ σ H) (h : Rfn ρ ρ0) : Env W n Z T ρ0 σ H := by
  have own : ∀ a, Own ρ0 σ a → Own ρ σ a := fun a ⟨i, d, q1, q2⟩ => ⟨i, d, h.get i _ q1, q2⟩
  have m : Mv (XX W Z ρ σ) H (XX W Z ρ0 σ) H := fun a o q hx => ⟨q, fun x => hx (by
    rcases x with x | x | x
    · exact .inl x
    · exact .inr (.inl (own a x))
    · exact .inr (.inr x))⟩
  refine ⟨by rw [h.len]; exact e.len, fun i d q => ?_, fun i d q => ?_, fun i j d1 d2 a q1 q2 => e.inj i j d1 d2 a (h.get i _ q1) (h.get j _ q2), e.z, e.zn, fun p hp => (e.t p hp).mv m, e.fr, e.g⟩
  · obtain ⟨v, h1, h2⟩ := e.sh i d (h.get i _ q)
    exact ⟨v, h1, h2.mv m⟩
  · obtain ⟨a, o, h1, h2, h3, h4⟩ := e.ow i d (h.get i _ q)
    exact ⟨a, o, h1, h2, h3.mv m, h4⟩
theorem ds_rfn (h : Rfn ρ ρ0) (k : DS t W n ρ0 N R B C) : DS t W n ρ N R B C := fun Z T σ H e De f => k Z T σ H (e.rfn h) De f
theorem dgx {g : TG} {S : List Nat} {P : Rho → Prop} (h : DG g S d W ρ P) : ∃ S, DG g S d W ρ P := ⟨S, h⟩
/-- a for, told by what is left of the items; LW tells the slots exactly -/
theorem ds_forR {wi : TI} {g : TG} {LW : List D → Nat → Rho → Prop} (h : DI wi W n ρ fun n ds => ∃ ρ0, Rfn ρ ρ0 ∧ LW ds n ρ0)
    (cons : ∀ d r n ρ', LW (d :: r) n ρ' → ∃ S, DG g S d W ρ' fun ρ2 => DS t W n ρ2 (fun n ρ3 => ∃ ρ4, Rfn ρ3 ρ4 ∧ LW r n ρ4) R N (fun n ρ3 => ∃ ρ4, Rfn ρ3 ρ4 ∧ LW r n ρ4)) (nil : ∀ n ρ', LW [] n ρ' → N n ρ') :
    DS (tFor wi g t) W n ρ N R B C := fun Z T σ H e De f =>
  h Z T σ H e _ fun n J ds T0 H' ⟨ρ0, r0, h0⟩ e' ok => by
    refine ⟨fun i m σ H => m = ds.length - i ∧ i ≤ ds.length ∧ ∃ n ρ', LW (ds.drop i) n ρ' ∧ Env W n Z (T0 ++ T) ρ' σ H, ⟨_, rfl, Nat.zero_le _, n, ρ0, h0, e'.rfn r0⟩, ?_⟩
    rintro i m σ' H2 ⟨rfl, hi, n, ρ', hI, e2⟩
    have o := ok n Z (T0 ++ T) ρ' σ' H2 (fun p hp => List.mem_append_left _ hp) e2 i
    by_cases hlt : i < ds.length
    · refine .inr ⟨(o.1 hlt).1, fun σ3 H3 => ∃ n ρ3, LW (ds.drop (i + 1)) n ρ3 ∧ Env W n Z (T0 ++ T) ρ3 σ3 H3, fun σ3 H3 ⟨n, ρ3, h3, e3⟩ => ⟨ds.length - (i + 1), by omega, rfl, hlt, n, ρ3, h3, e3⟩, fun x H3 y => ?_⟩
      obtain ⟨d, hd', e3⟩ := (o.1 hlt).2 x H3 y
      have hdr : ds.drop i = d :: ds.drop (i + 1) := by
        rw [List.drop_eq_getElem_cons hlt]
        rw [List.getElem?_eq_getElem hlt] at hd'
        rw [Option.some.inj hd']
      rw [hdr] at hI
      obtain ⟨S, hDG⟩ := cons d _ n ρ' hI
      refine hDG n Z (T0 ++ T) σ' H3 x e3.pop1 e3.top _ fun ρ4 σ4 p4 e4 _ => ?_
      exact p4 Z (T0 ++ T) σ4 H3 e4 _ ⟨fun n ρ5 σ5 H5 ⟨ρ6, r6, n5⟩ e5 => ⟨n, ρ6, n5, e5.rfn r6⟩, f.rt, f.rf, fun n ρ5 σ5 H5 n5 e5 => f.nx n ρ5 σ5 H5 n5 e5.popAll, fun n ρ5 σ5 H5 ⟨ρ6, r6, n5⟩ e5 => ⟨n, ρ6, n5, e5.rfn r6⟩⟩
    · have e1 : i = ds.length := by omega
      subst e1
      rw [List.drop_length] at hI
      exact .inl ⟨o.2 (Nat.le_refl _), f.nx n ρ' σ' H2 (nil n ρ' hI) e2.popAll⟩
theorem ds_whileR (LW : Nat → Nat → Rho → Prop) (m0 : Nat) (h0 : ∃ ρ0, Rfn ρ ρ0 ∧ LW m0 n ρ0) (hs : ∀ m n ρ', LW m n ρ' → DT tt W n ρ' fun n b => (b = true → DS t W n ρ' (fun n r => ∃ m', m' < m ∧ ∃ r0, Rfn r r0 ∧ LW m' n r0) R N (fun n r => ∃ m', m' < m ∧ ∃ r0, Rfn r r0 ∧ LW m' n r0)) ∧ (b = false → N n ρ')) :
    DS (tWhile tt t) W n ρ N R B C := fun Z T σ H e De f => by
  obtain ⟨ρ0, r0, h0⟩ := h0
  refine (ds_while (fun m n r => LW m n r) m0 h0 fun m n ρ' hI => (hs m n ρ' hI).imp fun n b p => ⟨fun hb => ?_, p.2⟩) Z T σ H (e.rfn r0) De f
  intro Z T σ H e De f
  exact p.1 hb Z T σ H e De ⟨fun n ρ σ H ⟨m', hm, r1, q1, q2⟩ e => f.nx n r1 σ H ⟨m', hm, q2⟩ (e.rfn q1), f.rt, f.rf, f.bk, fun n ρ σ H ⟨m', hm, r1, q1, q2⟩ e => f.ct n r1 σ H ⟨m', hm, q2⟩ (e.rfn q1)⟩
/-! ### two new objects at once -/
def oVs : HO → List L2.V
  | .lst xs => xs
  | .dK kvs => kvs.map (·.2)
  | .ins _ _ fs => fs.map (·.2)
  | _ => []
def dVs : D → List D
  | .lst l => l
  | .dic _ l => l
  | .ins _ _ l => l
  | _ => []
theorem Ob.all {X : AP} {o : HO} : Ob X H o d → IsAll X H (oVs o) (dVs d)
  | .lst h => h
  | .dic _ h => h
  | .ins _ h => h
theorem Ob.re {X X' : AP} {H' : Hp} {o : HO} : Ob X H o d → IsAll X' H' (oVs o) (dVs d) → Ob X' H' o d
  | .lst _, k => .lst k
  | .dic e _, k => .dic e k
  | .ins e _, k => .ins e k
/-- a, b = new, new -/
theorem ds_par_oo {i j : Nat} (h : DF ta W n ρ fun n d1 => DF tb W n ρ fun n d2 => N n ((ρ.set i (some (true, d1))).set j (some (true, d2)))) : DS (tPar i j (tCons ta (tCons tb tNil))) W n ρ N R B C := fun Z T σ H e De f =>
  h Z T σ H e _ fun n a o d1 H1 p1 e1 ho => p1 ((a, o) :: Z) (zipT (oVs o) (dVs d1) ++ T) σ H1 (e1.pushAll ho.all) _ fun n b o2 d2 H2 p2 e2 ho2 => by
    have hl := ho.all.len
    have i1 := e2.topAll hl
    have hoo : Ob (XX W ((b, o2) :: (a, o) :: Z) ρ σ) H2 o d1 := ho.re i1
    -- first b, then a
    have sw : Env W n ((a, o) :: (b, o2) :: Z) T ρ σ H2 := by
      have q := e2.popAll
      have mem : ∀ p, p ∈ (a, o) :: (b, o2) :: Z ↔ p ∈ (b, o2) :: (a, o) :: Z := fun p => by simp only [List.mem_cons]; constructor <;> (rintro (h | h | h) <;> simp_all)
      have xx : ∀ c, XX W ((a, o) :: (b, o2) :: Z) ρ σ c → XX W ((b, o2) :: (a, o) :: Z) ρ σ c := fun c x => by
        rcases x with x | x | ⟨u, x⟩
        · exact .inl x
        · exact .inr (.inl x)
        · exact .inr (.inr ⟨u, (mem _).mp x⟩)
      have m : Mv (XX W ((b, o2) :: (a, o) :: Z) ρ σ) H2 (XX W ((a, o) :: (b, o2) :: Z) ρ σ) H2 := fun c u q hx => ⟨q, fun x => hx (xx c x)⟩
      have nd := q.zn
      refine ⟨q.len, fun i d h => ?_, fun i d h => ?_, q.inj, fun p hp => q.z p ((mem p).mp hp), ?_, fun p hp => (q.t p hp).mv m, q.fr, q.g⟩
      · obtain ⟨v, h1, h2⟩ := q.sh i d h
        exact ⟨v, h1, h2.mv m⟩
      · obtain ⟨c, u, h1, h2, h3, h4, h5⟩ := q.ow i d h
        exact ⟨c, u, h1, h2, h3.mv m, h4, fun ⟨o', z⟩ => h5 ⟨o', (mem _).mp z⟩⟩
      · simp only [List.map_cons, List.nodup_cons, List.mem_cons, not_or] at nd ⊢
        exact ⟨⟨fun z => nd.1.1 z.symm, nd.2.1⟩, nd.1.2, nd.2.2⟩
    have mab : Mv (XX W ((b, o2) :: (a, o) :: Z) ρ σ) H2 (XX W ((a, o) :: (b, o2) :: Z) ρ σ) H2 := fun c u q hx => ⟨q, fun x => hx (by
      rcases x with x | x | ⟨u', x⟩
      · exact .inl x
      · exact .inr (.inl x)
      · refine .inr (.inr ⟨u', ?_⟩)
        simp only [List.mem_cons] at x ⊢
        rcases x with x | x | x <;> simp_all)⟩
    have sw2 : Env W n ((a, o) :: (b, o2) :: Z) (zipT (oVs o2) (dVs d2) ++ T) ρ σ H2 := sw.pushAll (ho2.all.mv mab _)
    have t1 := sw2.take (i := i) (hoo.mv mab)
    have t2 := t1.take (i := j) (ho2.re (t1.topAll ho2.all.len))
    exact ⟨.ref a, .ref b, rfl, f.nx _ _ _ _ p2 t2.popAll⟩
/-- a, b = new, e -/
theorem ds_par_os {i j : Nat} (h : DF ta W n ρ fun n d1 => DE tb W n ρ fun n d2 => N n ((ρ.set i (some (true, d1))).set j (some (false, d2)))) : DS (tPar i j (tCons ta (tCons tb tNil))) W n ρ N R B C := fun Z T σ H e De f =>
  h Z T σ H e _ fun n a o d1 H1 p1 e1 ho => p1 ((a, o) :: Z) (zipT (oVs o) (dVs d1) ++ T) σ H1 (e1.pushAll ho.all) _ fun n v d2 H2 p2 e2 iv => by
    have hl := ho.all.len
    have i1 := e2.topAll hl
    have hoo : Ob (XX W ((a, o) :: Z) ρ σ) H2 o d1 := ho.re i1
    have e3 : Env W n ((a, o) :: Z) ((v, d2) :: T) ρ σ H2 := (e2.popAll).push iv
    have t1 := e3.take (i := i) hoo
    have t2 := t1.set (i := j) t1.top
    exact ⟨.ref a, v, rfl, f.nx _ _ _ _ p2 t2.pop1⟩
/-- a, b = e, new -/
theorem ds_par_so {i j : Nat} (h : DE ta W n ρ fun n d1 => DF tb W n ρ fun n d2 => N n ((ρ.set i (some (false, d1))).set j (some (true, d2)))) : DS (tPar i j (tCons ta (tCons tb tNil))) W n ρ N R B C := fun Z T σ H e De f =>
  h Z T σ H e _ fun n v d1 H1 p1 e1 iv => p1 Z ((v, d1) :: T) σ H1 (e1.push iv) _ fun n a o d2 H2 p2 e2 ho => by
    -- the shared one first: it is not the pending object's
    have e3 : Env W n ((a, o) :: Z) (zipT (oVs o) (dVs d2) ++ ((v, d1) :: T)) ρ σ H2 := e2.pushAll ho.all
    have t1 := e3.set (i := i) (e3.popAll).top
    have hoo : Ob (XX W ((a, o) :: Z) (ρ.set i (some (false, d1))) (σ.set i (some v))) H2 o d2 := ho.re (t1.topAll ho.all.len)
    have t2 := t1.take (i := j) hoo
    exact ⟨v, .ref a, rfl, f.nx _ _ _ _ p2 (t2.popAll).pop1⟩
/-! ### dicts -/
def keyIn (ks : List Key) (k : Key) : Bool := ks.any fun x => decide (x = k)
theorem keyIn_iff {ks : List Key} {k : Key} : keyIn ks k = true ↔ k ∈ ks := by
  unfold keyIn
  rw [List.any_eq_true]
  exact ⟨fun ⟨x, h1, h2⟩ => by rw [← of_decide_eq_true h2]; exact h1, fun h => ⟨k, h, decide_eq_true rfl⟩⟩
def putL : List Key → List D → Key → D → List D
  | k' :: ks, x :: l, k, d => (if k' = k then d else x) :: putL ks l k d
  | _, l, _, _ => l
def putD (ks : List Key) (l : List D) (k : Key) (d : D) : List Key × List D := if keyIn ks k = true then (ks, putL ks l k d) else (ks ++ [k], l ++ [d])
theorem putL_all {X : AP} {k : Key} {v : L2.V} (hv : Is X H v d) : ∀ {kvs : List (Key × L2.V)} {l : List D}, IsAll X H (kvs.map (·.2)) l → IsAll X H ((kvs.map fun kv => if kv.1 = k then (kv.1, v) else kv).map (·.2)) (putL (kvs.map (·.1)) l k d)
  | [], _, h => by
    cases h
    exact .nil
  | (k', w) :: kvs, _, .cons (d := x) (ds := l) h t => by
    have ih := putL_all (k := k) hv t
    by_cases q : k' = k
    · simp only [List.map_cons, putL, if_pos q]
      exact .cons hv ih
    · simp only [List.map_cons, putL, if_neg q]
      exact .cons h ih
theorem keys_same {k : Key} {v : L2.V} : ∀ {kvs : List (Key × L2.V)}, (kvs.map fun kv => if kv.1 = k then (kv.1, v) else kv).map (·.1) = kvs.map (·.1)
  | [] => rfl
  | (k', w) :: kvs => by
    have ih := keys_same (k := k) (v := v) (kvs := kvs)
    by_cases q : k' = k
    · simp only [List.map_cons, if_pos q, ih]
    · simp only [List.map_cons, if_neg q, ih]
theorem any_keys {k : Key} : ∀ {kvs : List (Key × L2.V)}, (kvs.any fun kv => decide (kv.1 = k)) = keyIn (kvs.map (·.1)) k
  | [] => rfl
  | (k', w) :: kvs => by
    show (decide (k' = k) || _) = (decide (k' = k) || _)
    rw [any_keys]; rfl
theorem put_all {X : AP} {k : Key} {v : L2.V} (hv : Is X H v d) {kvs : List (Key × L2.V)} {l : List D} (h : IsAll X H (kvs.map (·.2)) l) : (putK kvs k v).map (·.1) = (putD (kvs.map (·.1)) l k d).1 ∧ IsAll X H ((putK kvs k v).map (·.2)) (putD (kvs.map (·.1)) l k d).2 := by
  unfold putK putD
  rw [any_keys]
  by_cases q : keyIn (kvs.map (·.1)) k = true
  · rw [if_pos q, if_pos q]
    exact ⟨keys_same, putL_all hv h⟩
  · rw [if_neg q, if_neg q, List.map_append, List.map_append]
    exact ⟨rfl, h.append (.cons hv .nil)⟩
theorem own_dic {i : Nat} {ks : List Key} {ds : List D} (e : Env W n Z T ρ σ H) (h : ρ[i]? = some (some (true, .dic ks ds))) : ∃ a kvs, σ[i]? = some (some (.ref a)) ∧ H a = some (.dK kvs) ∧ kvs.map (·.1) = ks ∧ IsAll (XX W Z ρ σ) H (kvs.map (·.2)) ds := by
  obtain ⟨a, o, h1, h2, h3, _⟩ := e.ow i _ h
  cases h3 with
  | dic e q => exact ⟨a, _, h1, h2, e, q⟩
/-- d[k] = e, d a slot's own -/
theorem ds_dput {i : Nat} {ks : List Key} {ds : List D} {ty tv : TE} (h : ρ[i]? = some (some (true, .dic ks ds))) (k : DE tv W n ρ fun n d1 => DE ty W n ρ fun n d2 => ∃ key, d2 = kD key ∧ ks.length < sizeLine ∧ N n (ρ.set i (some (true, .dic (putD ks ds key d1).1 (putD ks ds key d1).2)))) :
    DS (sDPut (tVar i) ty tv) W n ρ N R B C := fun Z T σ H e De f =>
  k Z T σ H e _ fun n v d1 H1 p1 e1 iv => by
    obtain ⟨a, kvs, s1, h1, hk, ha⟩ := own_dic e1 h
    refine ⟨.ref a, s1, p1 Z ((v, d1) :: T) σ H1 (e1.push iv) _ fun n y d2 H2 ⟨key, ed, hl, q⟩ e2 iy => ?_⟩
    subst ed
    have ey := isw_kD (.inl iy)
    subst ey
    obtain ⟨a', kvs2, s2, h2, hk2, ha2⟩ := own_dic e2 h
    rw [s1] at s2; cases s2
    subst hk2
    have pp := put_all (k := key) e2.top ha2
    have hlen : kvs2.length < sizeLine := by rw [List.length_map] at hl; exact hl
    exact ⟨a, _, rfl, DPut.k h2 hlen, f.nx _ _ _ _ q ((e2.put h s1 (.dic pp.1 pp.2)).pop1)⟩
theorem valV_some : ∀ {kvs : List (Key × L2.V)} {k : Key}, (valV kvs k).isSome = keyIn (kvs.map (·.1)) k
  | [], k => by simp [valV, keyIn]
  | (k', v) :: r, k => by
    by_cases h : k' = k
    · subst h
      rw [valV_pos rfl]; simp [keyIn]
    · rw [valV_neg h, valV_some]
      simp [keyIn, h]
theorem r_inDic {ks : List Key} {ds : List D} {k : Key} {d1 : D} (e1 : d1 = kD k) (p : P n (.bl (keyIn ks k))) : DR (rInU K) W n ρ d1 (.dic ks ds) P := dr_orr (dr_orr (dr_orr fun Z T σ H v1 v2 e i1 i2 Q q => by
  subst e1
  obtain ⟨a, kvs, rfl, ha, hk, h1⟩ := isw_dic i2
  subst hk
  have ev := isw_kD i1
  subst ev
  refine ⟨a, _, rfl, DGet.k ha, ?_⟩
  rw [valV_some]
  exact q _ _ _ H p e (.bl _)))
theorem r_notInDic {ks : List Key} {ds : List D} {k : Key} {d1 : D} (e1 : d1 = kD k) (p : P n (.bl (!keyIn ks k))) : DR (rNotInU K) W n ρ d1 (.dic ks ds) P := dr_orr (dr_orr (dr_orr fun Z T σ H v1 v2 e i1 i2 Q q => by
  subst e1
  obtain ⟨a, kvs, rfl, ha, hk, h1⟩ := isw_dic i2
  subst hk
  have ev := isw_kD i1
  subst ev
  refine ⟨a, _, rfl, DGet.k ha, ?_⟩
  rw [valV_some]
  exact q _ _ _ H p e (.bl _)))
/-- {k: v} -/
theorem df_disp1 {tk tv : TE} (h : DE tk W n ρ fun n d1 => DE tv W n ρ fun n d2 => ∃ k, d1 = kD k ∧ P n (.dic [k] [d2])) : DF (tDisp [(tk, tv)]) W n ρ P := fun Z T σ H e Q q p hp =>
  h ((p, .dK []) :: Z) T σ _ (e.lay hp) _ fun n x d1 H1 q1 e1 i1 => q1 _ ((x, d1) :: T) σ H1 (e1.push i1) _ fun n y d2 H2 ⟨k, ed, pp⟩ e2 i2 => by
    subst ed
    have ex := isw_kD (.inl e2.top)
    subst ex
    have z := e2.z (p, .dK []) List.mem_cons_self
    refine ⟨z.1, [(k, y)], rfl, Nat.le_of_ble_eq_true rfl, ?_⟩
    have e3 := ((e2.pop1).push i2).zput (o' := .dK [(k, y)]) (by exact fun h => h)
    exact q _ _ _ _ _ pp e3.pop1 (.dic rfl (.cons e3.top .nil))
/-! ### defs told by a relation -/
abbrev PR (m : Nat) (pre : List D → Prop) (R : List D → Out → Prop) : Sp := Prm m V0 G0 (fun _ ds => pre ds) (fun _ ds _ o => R ds o)
theorem de_rel {m : Nat} {pre : List D → Prop} {R : List D → Out → Prop} {E : XK} {tas : TA} (h : DA tas W n ρ fun n ds => ds.length = m ∧ pre ds ∧ ∀ o, R ds o → ∃ b d, o = .ret b d ∧ P n d) : DE (tCall (PR m pre R) [] E tas) W n ρ P :=
  de_call fit0 (h.imp fun n ds ⟨h1, h2, h3⟩ => ⟨h1, h2, fun _ C ns l q => (by obtain ⟨_, _, e, _⟩ := h3 _ q; cases e), fun _ b d q => by obtain ⟨_, _, e, p⟩ := h3 _ q; cases e; exact p⟩)
theorem df_rel {m : Nat} {pre : List D → Prop} {R : List D → Out → Prop} {E : XK} {tas : TA} (h : DA tas W n ρ fun n ds => ds.length = m ∧ pre ds ∧ ∀ o, R ds o → ∃ d, o = .ret true d ∧ P n d) : DF (tCall (PR m pre R) [] E tas) W n ρ P :=
  df_call fit0 (h.imp fun n ds ⟨h1, h2, h3⟩ => ⟨h1, h2, fun _ C ns l q => (by obtain ⟨_, e, _⟩ := h3 _ q; cases e), fun _ d q => (by obtain ⟨_, e, p⟩ := h3 _ q; cases e), fun _ d q => by obtain ⟨_, e, p⟩ := h3 _ q; cases e; exact p⟩)
theorem de_relE {m : Nat} {pre : List D → Prop} {R : List D → Out → Prop} {E : XK} {tas : TA} (hE : W.E = E) (h : DA tas W n ρ fun n ds => ds.length = m ∧ pre ds ∧ ∀ o, R ds o → Outs (W.EP n) (P n) o) : DE (tCall (PR m pre R) [] E tas) W n ρ P :=
  de_callE fit0 hE (h.imp fun n ds ⟨h1, h2, h3⟩ => ⟨h1, h2, fun _ C ns l q => h3 _ q, fun _ b d q => h3 _ q⟩)
theorem de_relK {m q : Nat} {pre : List D → Prop} {R : List D → Out → Prop} {E : XK} {tas tks : TA} {perm : List Nat} (hE : W.E = E) (h : DA tas W n ρ fun n ds => DA tks W n ρ fun n es => ds.length = q ∧ es.length = m ∧ pre (gPerm D.non perm ds es) ∧ ∀ o, R (gPerm D.non perm ds es) o → Outs (W.EP n) (P n) o) : DE (tCalK q m (PR perm.length pre R) perm E tas tks) W n ρ P :=
  de_calK fit0 hE (h.imp fun n ds h => h.imp fun n es ⟨h1, h2, h3, h4⟩ => ⟨h1, h2, h3, fun _ C ns l q => h4 _ q, fun _ b d q => h4 _ q⟩)
end
theorem detG {m : Nat} {ds : List D} {pre : Prop} {o : Out} {Q : D → Prop} {b : Bool} {d : D} (h0 : ds.length = m) (h1 : pre) (h2 : o = .ret b d) (q : Q d) : ds.length = m ∧ pre ∧ ∃ b d, o = .ret b d ∧ Q d := ⟨h0, h1, b, d, h2, q⟩
theorem detK {m k : Nat} {ds es : List D} {pre : Prop} {o : Out} {Q : D → Prop} {b : Bool} {d : D} (h0 : ds.length = m) (h00 : es.length = k) (h1 : pre) (h2 : o = .ret b d) (q : Q d) : ds.length = m ∧ es.length = k ∧ pre ∧ ∃ b d, o = .ret b d ∧ Q d := ⟨h0, h00, h1, b, d, h2, q⟩
theorem each_all {R : D → Prop} : ∀ {ds ys : List D}, Each (fun _ y => R y) ds ys → ∀ y ∈ ys, R y
  | _, _, .nil, _, h => nomatch h
  | _, _, .cons r t, y, h => (List.mem_cons.mp h).elim (fun e => by rw [e]; exact r) (each_all t y)
/-! ### defs that are never called -/
abbrev spNever (m : Nat) : Sp := fun vs _ _ _ => vs.length = m ∧ False
theorem never_ok {P : Program} {w : World} {K : PySem.W.Frag} {mg : Str → Option Value} {base : Heap} {x : Str} {st : Stmt} {ps : List Str} {m : Nat} (Dd : Def K mg x st ps) {k : Nat} : Cal P w K mg base k x st ps (spNever m) := by
  obtain ⟨f, fd, F, hm, hb⟩ := Dd.ex
  exact ⟨f, fd, ⟨fun _ _ _ _ h => h.2.elim, fun _ _ _ _ _ _ _ _ _ _ _ _ _ h => h.2.elim⟩, hm, F.kp, hb, F⟩
/-! ### a class' facts -/
structure ClsT (K : PySem.W.Frag) (C : Addr) (fs : List Str) : Prop where
  I : InsK K C
  na : ∀ f ∈ fs, NoAttr K C f
  self : PySem.W.kitOne K (.ref C) (.ref C) = some true
  no : ∀ m ∈ ["NoneType", "bool", "int", "str", "list", "tuple", "dict"], PySem.W.kitOne K (.type m) (.ref C) = some false ∧ PySem.W.kitOne K (.ref C) (.type m) = some false
def clsB (K : PySem.W.Frag) (C : Addr) (fs : List Str) : Bool := PySem.W.plainGet K C Str.empty && (PySem.W.hasDictIn K C && (PySem.W.plainOver K C && (He.eqO (PySem.W.findIn K (.ref C) "__setattr__") (some (some (.builtin "object.__setattr__"))) &&
  (He.eqO (PySem.W.findIn K (.ref C) "__class__") (some (some (.builtin "object.__class__"))) && (He.eqO (PySem.W.specialIn K (.builtin "object.__class__") "__get__") (some (some (.builtin "getset_descriptor.__get__"))) &&
  (decide (PySem.W.takesIn K (.builtin "object.__class__") = some true) && (decide (PySem.W.mroIn K C (.type "object") = some true) && (fs.all (fun f => He.eqO (PySem.W.findIn K (.ref C) f) (some none)) && (decide (PySem.W.kitOne K (.ref C) (.ref C) = some true) &&
  ["NoneType", "bool", "int", "str", "list", "tuple", "dict"].all fun m => decide (PySem.W.kitOne K (.type m) (.ref C) = some false) && decide (PySem.W.kitOne K (.ref C) (.type m) = some false))))))))))
theorem clsT_of {K : PySem.W.Frag} {C : Addr} {fs : List Str} (h : clsB K C fs = true) : ClsT K C fs := by
  unfold clsB at h
  simp only [Bool.and_eq_true] at h
  obtain ⟨h1, h2, h3, h4, h5, h6, h7, h8, h9, h10, h11⟩ := h
  refine ⟨⟨⟨h1, h2, h3, He.eqO_ok h4⟩, He.eqO_ok h5, He.eqO_ok h6, of_decide_eq_true h7, of_decide_eq_true h8⟩, fun f hf => He.eqO_ok (List.all_eq_true.mp h9 f hf), of_decide_eq_true h10, fun m hm => ?_⟩
  have := List.all_eq_true.mp h11 m hm
  simp only [Bool.and_eq_true] at this
  exact ⟨of_decide_eq_true this.1, of_decide_eq_true this.2⟩
def isC (C : Addr) : D → Bool
  | .ins C' _ _ => decide (C' = C)
  | _ => false
theorem tn_mem : ∀ {d : D} {m : String}, d.tn = some m → m ∈ ["NoneType", "bool", "int", "str", "list", "tuple", "dict"] := fun {d m} h => by
  cases d <;> (cases h; try decide)
section
variable {W : Wd} {n : Nat} {ρ : Rho} {K : PySem.W.Frag} {C : Addr} {fs : List Str} {d : D} {P : Nat → D → Prop}
/-- plain, or of the class C -/
def pc (C : Addr) (d : D) : Prop := d.tn.isSome = true ∨ ∃ ns l, d = .ins C ns l
theorem u_isC (T : ClsT K C fs) (hd : pc C d) (p : P n (.bl (isC C d))) : DC (rIsiU K) W n ρ [d, .raw C] P := by
  rcases hd with hd | ⟨ns, l, rfl⟩
  · obtain ⟨m, e⟩ := Option.isSome_iff_exists.mp hd
    have : isC C d = false := by cases d <;> first | rfl | cases hd
    rw [this] at p
    exact u_isiC e (T.no m (tn_mem e)).1 p
  · have : isC C (.ins C ns l) = true := by simp [isC]
    rw [this] at p
    exact u_isiI T.I (.inr ⟨C, rfl, rfl⟩) T.self p
end
/-! ### a list that is empty or not -/
section
variable {W : Wd} {n : Nat} {ρ : Rho} {K : PySem.W.Frag} {P : Nat → D → Prop}
theorem r_neNil {ns : List Int} (p : P n (.bl (!ns.isEmpty))) : DR (rNeD K) W n ρ (.lst (ns.map D.int)) (.lst []) P :=
  dr_ne (toP_ints ns) rfl (PySem.W.ke_shaped_ints ns) rfl (by cases ns <;> exact p)
theorem r_neNilP {ds : List D} {ps : List PyData} (h : toPs ds = some ps) (hs : SeqAt.shaped (.list ps) = true) (p : P n (.bl (!ds.isEmpty))) : DR (rNeD K) W n ρ (.lst ds) (.lst []) P :=
  dr_ne (by unfold D.toP; rw [h]) rfl hs rfl (by
    have e : ps.isEmpty = ds.isEmpty := by
      cases ds with
      | nil => cases h; rfl
      | cons d r =>
        unfold toPs at h
        split at h <;> cases h
        rfl
    cases ps with
    | nil => rw [← e] at p; exact p
    | cons a r => rw [← e] at p; exact p)
theorem ne_last {α : Type} {l : List α} (h : (!l.isEmpty) = true) : ∃ r x, l = r ++ [x] := by
  cases l with
  | nil => cases h
  | cons a r => exact ⟨_, _, (List.dropLast_concat_getLast (l := a :: r) (by simp)).symm⟩
end
/-! ### rules told with the text's own K -/
section
variable {X : Cx} {K : PySem.W.Frag}
theorem kO {f : Value → Value → Sem Value} {r : PySem.W.Frag → R2} (h : OpR X f (r X.K)) (e : X.K = K) : OpR X f (r K) := e ▸ h
theorem kC {f : Value} {r : PySem.W.Frag → List L2.V → Hp → VK → Prop} (h : CallR X f (r X.K)) (e : X.K = K) : CallR X f (r K) := e ▸ h
theorem kI {r : PySem.W.Frag → R2} (h : IxR X (r X.K)) (e : X.K = K) : IxR X (r K) := e ▸ h
theorem kS {r : PySem.W.Frag → L2.V → Option Int → Option Int → Hp → VK → Prop} (h : L2.SlR X (r X.K)) (e : X.K = K) : L2.SlR X (r K) := e ▸ h
theorem pe_fldK {e : Expr} {f : Str} {pos : Pos} {ta : TE} (hk : X.K = K) (he : PE X e ta) (hb : attributeBase e f X.env (eval e X.env) = eval e X.env) : PE X (.Attribute e f pos) (tFld K ta f) := hk ▸ pe_fld he hb
end
theorem fun_ofq {K : PySem.W.Frag} {x q : Str} {st : Stmt} {f : Addr} {fd : FuncData} (F : FunD K x q (defArgs st) (defBody st) (defScope st) [] [] f fd) : Fun K x q st f fd := by
  obtain ⟨oc, od, dV, kV, doc, pm, an, cdv, ct, osl, rfl, lk, hc, hD, _⟩ := F.ex
  rcases hD with ⟨_, rfl⟩ | ⟨h, _⟩
  · exact ⟨⟨oc, od, kV, doc, pm, an, cdv, ct, osl, rfl, lk, hc⟩, F.kp⟩
  · exact absurd rfl h
theorem defi_of {K : PySem.W.Frag} {mg : Str → Option Value} {x q : Str} {st : Stmt} {ps : List Str} {C f : Addr} {fd : FuncData} (F : FunD K "__init__" q (defArgs st) (defBody st) (defScope st) [] [] f fd) (M : Mk K C f) (hm : mg x = some (.ref C))
    (h : ∀ (kV doc pm : Value) (an : Option Addr) (cdv ct : Value) (us : List Value), us.length = (("self" : Str) :: ps).length → bindArgs (PySem.W.fnOf "__init__" q (defArgs st) (defBody st) (defScope st) .none kV doc pm an cdv ct) ⟨us, []⟩ = pure ((("self" : Str) :: ps).zip us)) : DefI K mg x q st ps C := ⟨f, fd, fun_ofq F, M, hm, F.bindsN h⟩
end HD

namespace HD
open PySem PySem.Spec PyProof.Rows L2
/-! ### equality of data made of whole numbers, None, texts -/
mutual
def pd : Nat → D → Bool
  | _, .non => true
  | _, .int _ => true
  | _, .str x => (PyData.str x).canLay0
  | k + 1, .lst l => pds k l
  | k + 1, .tup l => pds k l
  | _, _ => false
def pds : Nat → List D → Bool
  | _, [] => true
  | k, d :: r => pd k d && pds k r
end
mutual
theorem pd_p : ∀ (d : D) (k : Nat), pd k d = true → ∃ p, d.toP = some p ∧ p.canLay0 = true ∧ p.depth ≤ k
  | .non, k, _ => ⟨.none, rfl, rfl, Nat.zero_le _⟩
  | .int i, k, _ => ⟨.int i, rfl, rfl, Nat.zero_le _⟩
  | .str x, k, h => ⟨.str x, rfl, by simpa [pd] using h, Nat.zero_le _⟩
  | .lst l, 0, h => by simp [pd] at h
  | .lst l, k + 1, h => by
    obtain ⟨ps, e, h1, h2⟩ := pds_p l k (by simpa [pd] using h)
    refine ⟨.list ps, by unfold D.toP; rw [e], h1, ?_⟩
    show PyData.depthAll ps + 1 ≤ k + 1
    omega
  | .tup l, 0, h => by simp [pd] at h
  | .tup l, k + 1, h => by
    obtain ⟨ps, e, h1, h2⟩ := pds_p l k (by simpa [pd] using h)
    refine ⟨.tuple ps, by unfold D.toP; rw [e], h1, ?_⟩
    show PyData.depthAll ps + 1 ≤ k + 1
    omega
  | .bl b, k, h => by cases k <;> simp [pd] at h
  | .ty _, k, h => by cases k <;> simp [pd] at h
  | .raw _, k, h => by cases k <;> simp [pd] at h
  | .dic _ _, k, h => by cases k <;> simp [pd] at h
  | .ins _ _ _, k, h => by cases k <;> simp [pd] at h
  | .exc _ _ _, k, h => by cases k <;> simp [pd] at h
  | .dct, k, h => by cases k <;> simp [pd] at h
theorem pds_p : ∀ (l : List D) (k : Nat), pds k l = true → ∃ ps, toPs l = some ps ∧ PyData.canLayAll0 ps = true ∧ PyData.depthAll ps ≤ k
  | [], k, _ => ⟨[], rfl, rfl, Nat.zero_le _⟩
  | d :: r, k, h => by
    have h' : pd k d = true ∧ pds k r = true := by simpa [pds] using h
    obtain ⟨p, e1, c1, d1⟩ := pd_p d k h'.1
    obtain ⟨ps, e2, c2, d2⟩ := pds_p r k h'.2
    refine ⟨p :: ps, by unfold toPs; rw [e1, e2], ?_, ?_⟩
    · show (p.canLay0 && PyData.canLayAll0 ps) = true
      rw [c1, c2]; rfl
    · show max p.depth (PyData.depthAll ps) ≤ k
      omega
end
theorem pd_sh {d : D} {p : PyData} (h : pd 60 d = true) (e : d.toP = some p) : SeqAt.shaped p = true := by
  obtain ⟨p', e', c, dp⟩ := pd_p d 60 h
  rw [e] at e'; cases e'
  show (p.canLay0 && decide (p.depth ≤ 64)) = true
  rw [c, decide_eq_true (by omega)]; rfl
theorem pd_shL {l : List D} {ps : List PyData} (h : pds 60 l = true) (e : toPs l = some ps) : SeqAt.shaped (.list ps) = true ∧ SeqAt.shaped (.tuple ps) = true := by
  obtain ⟨p', e', c, dp⟩ := pds_p l 60 h
  rw [e] at e'; cases e'
  constructor
  · show (PyData.canLayAll0 ps && decide (PyData.depthAll ps + 1 ≤ 64)) = true
    rw [c, decide_eq_true (by omega)]; rfl
  · show (PyData.canLayAll0 ps && decide (PyData.depthAll ps + 1 ≤ 64)) = true
    rw [c, decide_eq_true (by omega)]; rfl
mutual
theorem eqv_pd : ∀ (d1 d2 : D) (k k2 : Nat) (p1 p2 : PyData), pd k d1 = true → pd k2 d2 = true → d1.toP = some p1 → d2.toP = some p2 → (PyData.eqv p1 p2 = true ↔ d1 = d2)
  | .non, d2, k, k2, p1, p2, h1, h2, e1, e2 => by
    cases e1
    cases d2
    case non => cases e2; simp [PyData.eqv]
    case int => cases e2; simp [PyData.eqv]
    case str => cases e2; simp [PyData.eqv]
    case lst l => unfold D.toP at e2; split at e2 <;> cases e2; simp [PyData.eqv]
    case tup l => unfold D.toP at e2; split at e2 <;> cases e2; simp [PyData.eqv]
    all_goals (cases k2 <;> simp [pd] at h2)
  | .int i, d2, k, k2, p1, p2, h1, h2, e1, e2 => by
    cases e1
    cases d2
    case non => cases e2; simp [PyData.eqv]
    case int => cases e2; simp [PyData.eqv]
    case str => cases e2; simp [PyData.eqv]
    case lst l => unfold D.toP at e2; split at e2 <;> cases e2; simp [PyData.eqv]
    case tup l => unfold D.toP at e2; split at e2 <;> cases e2; simp [PyData.eqv]
    all_goals (cases k2 <;> simp [pd] at h2)
  | .str x, d2, k, k2, p1, p2, h1, h2, e1, e2 => by
    cases e1
    cases d2
    case non => cases e2; simp [PyData.eqv]
    case int => cases e2; simp [PyData.eqv]
    case str => cases e2; simp [PyData.eqv]
    case lst l => unfold D.toP at e2; split at e2 <;> cases e2; simp [PyData.eqv]
    case tup l => unfold D.toP at e2; split at e2 <;> cases e2; simp [PyData.eqv]
    all_goals (cases k2 <;> simp [pd] at h2)
  | .lst l, d2, k, k2, p1, p2, h1, h2, e1, e2 => by
    cases k with
    | zero => simp [pd] at h1
    | succ k =>
    unfold D.toP at e1
    split at e1 <;> cases e1
    rename_i ps q1
    cases d2
    case non => cases e2; simp [PyData.eqv]
    case int => cases e2; simp [PyData.eqv]
    case str => cases e2; simp [PyData.eqv]
    case lst m =>
      cases k2 with
      | zero => simp [pd] at h2
      | succ k2 =>
      unfold D.toP at e2
      split at e2 <;> cases e2
      rename_i qs q2
      have := eqv_pds l m k k2 ps qs (by simpa [pd] using h1) (by simpa [pd] using h2) q1 q2
      show PyData.eqvAll ps qs = true ↔ _
      rw [this]
      exact ⟨fun h => by rw [h], fun h => by injection h⟩
    case tup m => unfold D.toP at e2; split at e2 <;> cases e2; simp [PyData.eqv]
    all_goals (cases k2 <;> simp [pd] at h2)
  | .tup l, d2, k, k2, p1, p2, h1, h2, e1, e2 => by
    cases k with
    | zero => simp [pd] at h1
    | succ k =>
    unfold D.toP at e1
    split at e1 <;> cases e1
    rename_i ps q1
    cases d2
    case non => cases e2; simp [PyData.eqv]
    case int => cases e2; simp [PyData.eqv]
    case str => cases e2; simp [PyData.eqv]
    case lst m => unfold D.toP at e2; split at e2 <;> cases e2; simp [PyData.eqv]
    case tup m =>
      cases k2 with
      | zero => simp [pd] at h2
      | succ k2 =>
      unfold D.toP at e2
      split at e2 <;> cases e2
      rename_i qs q2
      have := eqv_pds l m k k2 ps qs (by simpa [pd] using h1) (by simpa [pd] using h2) q1 q2
      show PyData.eqvAll ps qs = true ↔ _
      rw [this]
      exact ⟨fun h => by rw [h], fun h => by injection h⟩
    all_goals (cases k2 <;> simp [pd] at h2)
  | .bl b, d2, k, k2, p1, p2, h1, h2, e1, e2 => by cases k <;> simp [pd] at h1
  | .ty _, d2, k, k2, p1, p2, h1, h2, e1, e2 => by cases k <;> simp [pd] at h1
  | .raw _, d2, k, k2, p1, p2, h1, h2, e1, e2 => by cases k <;> simp [pd] at h1
  | .dic _ _, d2, k, k2, p1, p2, h1, h2, e1, e2 => by cases k <;> simp [pd] at h1
  | .ins _ _ _, d2, k, k2, p1, p2, h1, h2, e1, e2 => by cases k <;> simp [pd] at h1
  | .exc _ _ _, d2, k, k2, p1, p2, h1, h2, e1, e2 => by cases k <;> simp [pd] at h1
  | .dct, d2, k, k2, p1, p2, h1, h2, e1, e2 => by cases k <;> simp [pd] at h1
theorem eqv_pds : ∀ (l m : List D) (k k2 : Nat) (ps qs : List PyData), pds k l = true → pds k2 m = true → toPs l = some ps → toPs m = some qs → (PyData.eqvAll ps qs = true ↔ l = m)
  | [], [], k, k2, ps, qs, h1, h2, e1, e2 => by cases e1; cases e2; simp [PyData.eqvAll]
  | [], d :: m, k, k2, ps, qs, h1, h2, e1, e2 => by
    cases e1
    unfold toPs at e2
    split at e2 <;> cases e2
    simp [PyData.eqvAll]
  | d :: l, [], k, k2, ps, qs, h1, h2, e1, e2 => by
    cases e2
    unfold toPs at e1
    split at e1 <;> cases e1
    simp [PyData.eqvAll]
  | d :: l, d' :: m, k, k2, ps, qs, h1, h2, e1, e2 => by
    have h1' : pd k d = true ∧ pds k l = true := by simpa [pds] using h1
    have h2' : pd k2 d' = true ∧ pds k2 m = true := by simpa [pds] using h2
    obtain ⟨p, a1, _, _⟩ := pd_p d k h1'.1
    obtain ⟨pr, a2, _, _⟩ := pds_p l k h1'.2
    obtain ⟨q, b1, _, _⟩ := pd_p d' k2 h2'.1
    obtain ⟨qr, b2, _, _⟩ := pds_p m k2 h2'.2
    unfold toPs at e1 e2
    rw [a1, a2] at e1
    rw [b1, b2] at e2
    cases e1
    cases e2
    have r1 := eqv_pd d d' k k2 p q h1'.1 h2'.1 a1 b1
    have r2 := eqv_pds l m k k2 pr qr h1'.2 h2'.2 a2 b2
    show (PyData.eqv p q && PyData.eqvAll pr qr) = true ↔ _
    rw [Bool.and_eq_true, r1, r2]
    exact ⟨fun ⟨x, y⟩ => by rw [x, y], fun h => by injection h with x y; exact ⟨x, y⟩⟩
end
theorem any_pds : ∀ (l : List D) (d : D) (k k2 : Nat) (ps : List PyData) (p : PyData), pds k l = true → pd k2 d = true → toPs l = some ps → d.toP = some p → ((ps.any fun z => PyData.eqv z p) = true ↔ d ∈ l)
  | [], d, k, k2, ps, p, h1, h2, e1, e2 => by cases e1; simp
  | x :: l, d, k, k2, ps, p, h1, h2, e1, e2 => by
    have h1' : pd k x = true ∧ pds k l = true := by simpa [pds] using h1
    obtain ⟨q, a1, _, _⟩ := pd_p x k h1'.1
    obtain ⟨qs, a2, _, _⟩ := pds_p l k h1'.2
    unfold toPs at e1
    rw [a1, a2] at e1
    cases e1
    have r1 := eqv_pd x d k k2 q p h1'.1 h2 a1 e2
    have r2 := any_pds l d k k2 qs p h1'.2 h2 a2 e2
    rw [List.any_cons, Bool.or_eq_true, r1, r2, List.mem_cons]
    exact ⟨fun h => h.imp Eq.symm id, fun h => h.imp Eq.symm id⟩
section
variable {W : Wd} {n : Nat} {ρ : Rho} {K : PySem.W.Frag} {P : Nat → D → Prop} {d1 d2 : D} {ds : List D}
theorem r_eqP (h1 : pd 60 d1 = true) (h2 : pd 60 d2 = true) (p : ∀ b : Bool, (b = true ↔ d1 = d2) → P n (.bl b)) : DR (rEqD K) W n ρ d1 d2 P := by
  obtain ⟨p1, e1, _, _⟩ := pd_p d1 60 h1
  obtain ⟨p2, e2, _, _⟩ := pd_p d2 60 h2
  exact dr_eq e1 e2 (pd_sh h1 e1) (pd_sh h2 e2) (p _ (eqv_pd d1 d2 60 60 p1 p2 h1 h2 e1 e2))
theorem r_neP (h1 : pd 60 d1 = true) (h2 : pd 60 d2 = true) (p : ∀ b : Bool, (b = true ↔ d1 ≠ d2) → P n (.bl b)) : DR (rNeD K) W n ρ d1 d2 P := by
  obtain ⟨p1, e1, _, _⟩ := pd_p d1 60 h1
  obtain ⟨p2, e2, _, _⟩ := pd_p d2 60 h2
  refine dr_ne e1 e2 (pd_sh h1 e1) (pd_sh h2 e2) (p _ ?_)
  have := eqv_pd d1 d2 60 60 p1 p2 h1 h2 e1 e2
  cases q : PyData.eqv p1 p2
  · simp [q] at this ⊢; exact this
  · simp [q] at this ⊢; exact this
theorem r_inP (hd : d2 = .lst ds ∨ d2 = .tup ds) (h1 : pd 60 d1 = true) (h2 : pds 60 ds = true) (p : ∀ b : Bool, (b = true ↔ d1 ∈ ds) → P n (.bl b)) : DR (rInU K) W n ρ d1 d2 P := by
  obtain ⟨p1, e1, _, _⟩ := pd_p d1 60 h1
  obtain ⟨ps, e2, _, _⟩ := pds_p ds 60 h2
  have r := p _ (any_pds ds d1 60 60 ps p1 h2 h1 e2 e1)
  rcases hd with rfl | rfl
  · exact dr_orl (dr_inD e1 (by unfold D.toP; rw [e2]) (pd_sh h1 e1) (pd_shL h2 e2).1 r)
  · exact dr_orr (dr_orl fun Z T σ H v1 v2 e i1 i2 Q k => ⟨p1, ps, i1.dp e1, i2.dp (by unfold D.toP; rw [e2]), pd_sh h1 e1, (pd_shL h2 e2).2, k _ _ _ H r e (.bl _)⟩)
theorem r_ninP (hd : d2 = .lst ds ∨ d2 = .tup ds) (h1 : pd 60 d1 = true) (h2 : pds 60 ds = true) (p : ∀ b : Bool, (b = true ↔ d1 ∉ ds) → P n (.bl b)) : DR (rNotInU K) W n ρ d1 d2 P := by
  obtain ⟨p1, e1, _, _⟩ := pd_p d1 60 h1
  obtain ⟨ps, e2, _, _⟩ := pds_p ds 60 h2
  have r := p (!(ps.any fun z => PyData.eqv z p1)) (by rw [← any_pds ds d1 60 60 ps p1 h2 h1 e2 e1]; simp)
  rcases hd with rfl | rfl
  · exact dr_orl (dr_notInD e1 (by unfold D.toP; rw [e2]) (pd_sh h1 e1) (pd_shL h2 e2).1 r)
  · exact dr_orr (dr_orl fun Z T σ H v1 v2 e i1 i2 Q k => ⟨p1, ps, i1.dp e1, i2.dp (by unfold D.toP; rw [e2]), pd_sh h1 e1, (pd_shL h2 e2).2, k _ _ _ H r e (.bl _)⟩)
/-- texts -/
theorem r_eqS {a b : Str} {c : Bool} (h1 : (PyData.str a).canLay0 = true) (h2 : (PyData.str b).canLay0 = true) (hc : (a == b) = c) (p : P n (.bl c)) : DR (rEqD K) W n ρ (.str a) (.str b) P :=
  dr_eq rfl rfl (by show (_ && decide (0 ≤ 64)) = true; rw [h1]; rfl) (by show (_ && decide (0 ≤ 64)) = true; rw [h2]; rfl) (by show P n (.bl (a == b)); rw [hc]; exact p)
/-- a field of an instance -/
theorem de_fldC {ta : TE} {C : Addr} {fs : List Str} {f : Str} (T : ClsT K C fs) (hf : f ∈ fs) (h : DE ta W n ρ fun n d => ∃ ns l e, d = .ins C ns l ∧ (ns.zip l).lookup f = some e ∧ P n e) : DE (tFld K ta f) W n ρ P :=
  de_fld (h.imp fun n d ⟨ns, l, e, h1, h2, h3⟩ => ⟨C, ns, l, e, h1, T.I.cl, T.na f hf, h2, h3⟩)
end
theorem pds_map {α : Type} {f : α → D} {k : Nat} (h : ∀ a, pd k (f a) = true) : ∀ l : List α, pds k (l.map f) = true
  | [] => rfl
  | a :: r => by
    show (pd k (f a) && pds k (r.map f)) = true
    rw [h a, pds_map h r]; rfl
theorem pds_all {k : Nat} : ∀ {l : List D}, (∀ d ∈ l, pd k d = true) → pds k l = true
  | [], _ => rfl
  | d :: r, h => by
    show (pd k d && pds k r) = true
    rw [h d List.mem_cons_self, pds_all fun x hx => h x (List.mem_cons_of_mem _ hx)]; rfl
end HD


namespace Kx
open PySem PySem.Spec PyProof.Rows L2 HD
def top (i : Nat) : Stmt := PySem.Challenge.pw_pulledrooms_k93_houses_of_one_door.main.body.getD i (.Pass ⟨0, 0, 0, 0⟩)
abbrev s_is_number : Stmt := top 1
theorem sc_is_number : FnScope ["value"] ["value"] (defScope s_is_number) := ⟨rfl, rfl, rfl, by decide +kernel, rfl, by decide +kernel, by decide +kernel⟩
abbrev s_is_below : Stmt := top 2
theorem sc_is_below : FnScope ["value", "size"] ["value", "size"] (defScope s_is_below) := ⟨rfl, rfl, rfl, by decide +kernel, rfl, by decide +kernel, by decide +kernel⟩
abbrev s_is_door : Stmt := top 15
theorem sc_is_door : FnScope ["value", "rooms", "near", "first", "far", "second", "item"] ["value", "rooms"] (defScope s_is_door) := ⟨rfl, rfl, rfl, by decide +kernel, rfl, by decide +kernel, by decide +kernel⟩
abbrev s_are_doors : Stmt := top 16
theorem sc_are_doors : FnScope ["value", "rooms", "door"] ["value", "rooms"] (defScope s_are_doors) := ⟨rfl, rfl, rfl, by decide +kernel, rfl, by decide +kernel, by decide +kernel⟩
abbrev s_joined_rooms : Stmt := top 17
theorem sc_joined_rooms : FnScope ["doors", "known", "line", "here", "near", "first", "far", "second", "one", "other"] ["doors"] (defScope s_joined_rooms) := ⟨rfl, rfl, rfl, by decide +kernel, rfl, by decide +kernel, by decide +kernel⟩
abbrev s_need_house : Stmt := top 19
theorem sc_need_house : FnScope ["house"] ["house"] (defScope s_need_house) := ⟨rfl, rfl, rfl, by decide +kernel, rfl, by decide +kernel, by decide +kernel⟩
abbrev s_is_pass : Stmt := top 20
theorem sc_is_pass : FnScope ["house", "value"] ["house", "value"] (defScope s_is_pass) := ⟨rfl, rfl, rfl, by decide +kernel, rfl, by decide +kernel, by decide +kernel⟩
abbrev s_gate_of : Stmt := top 21
theorem sc_gate_of : FnScope ["house", "step", "near", "first", "far", "second"] ["house", "step"] (defScope s_gate_of) := ⟨rfl, rfl, rfl, by decide +kernel, rfl, by decide +kernel, by decide +kernel⟩
abbrev s_fold_plan : Stmt := top 25
theorem sc_fold_plan : FnScope ["doors", "at", "near", "first", "far", "second"] ["doors", "at"] (defScope s_fold_plan) := ⟨rfl, rfl, rfl, by decide +kernel, rfl, by decide +kernel, by decide +kernel⟩
abbrev s_closed_up : Stmt := top 26
theorem sc_closed_up : FnScope ["number", "gone"] ["number", "gone"] (defScope s_closed_up) := ⟨rfl, rfl, rfl, by decide +kernel, rfl, by decide +kernel, by decide +kernel⟩
abbrev s_folded_doors : Stmt := top 27
theorem sc_folded_doors : FnScope ["doors", "at", "gone", "kept", "factor", "found", "spot", "near", "first", "far", "second", "one", "other"] ["doors", "at"] (defScope s_folded_doors) := ⟨rfl, rfl, rfl, by decide +kernel, rfl, by decide +kernel, by decide +kernel⟩
abbrev s_fits_fold : Stmt := top 28
theorem sc_fits_fold : FnScope ["house", "at"] ["house", "at"] (defScope s_fits_fold) := ⟨rfl, rfl, rfl, by decide +kernel, rfl, by decide +kernel, by decide +kernel⟩
abbrev s_fits_slide : Stmt := top 29
theorem sc_fits_slide : FnScope ["house", "end", "over", "one", "other"] ["house", "end", "over"] (defScope s_fits_slide) := ⟨rfl, rfl, rfl, by decide +kernel, rfl, by decide +kernel, by decide +kernel⟩
abbrev s_fits_change : Stmt := top 30
theorem sc_fits_change : FnScope ["house", "thing", "word"] ["house", "thing"] (defScope s_fits_change) := ⟨rfl, rfl, rfl, by decide +kernel, rfl, by decide +kernel, by decide +kernel⟩
abbrev s_with_door : Stmt := top 31
theorem sc_with_door : FnScope ["doors", "at", "door"] ["doors", "at", "door"] (defScope s_with_door) := ⟨rfl, rfl, rfl, by decide +kernel, rfl, by decide +kernel, by decide +kernel⟩
abbrev s_turned_doors : Stmt := top 32
theorem sc_turned_doors : FnScope ["doors", "room", "found", "near", "first", "far", "second"] ["doors", "room"] (defScope s_turned_doors) := ⟨rfl, rfl, rfl, by decide +kernel, rfl, by decide +kernel, by decide +kernel⟩
abbrev s_slid_door : Stmt := top 33
theorem sc_slid_door : FnScope ["house", "end", "over", "near", "first", "far", "second", "start", "leaving", "room", "arriving", "number"] ["house", "end", "over"] (defScope s_slid_door) := ⟨rfl, rfl, rfl, by decide +kernel, rfl, by decide +kernel, by decide +kernel⟩
abbrev s_parts_behind : Stmt := top 34
theorem sc_parts_behind : FnScope ["house", "change", "word", "at", "near", "first", "far", "second"] ["house", "change"] (defScope s_parts_behind) := ⟨rfl, rfl, rfl, by decide +kernel, rfl, by decide +kernel, by decide +kernel⟩
abbrev s_is_change_of : Stmt := top 35
theorem sc_is_change_of : FnScope ["house", "thing", "rooms", "doors"] ["house", "thing"] (defScope s_is_change_of) := ⟨rfl, rfl, rfl, by decide +kernel, rfl, by decide +kernel, by decide +kernel⟩
abbrev s_house_behind : Stmt := top 36
theorem sc_house_behind : FnScope ["house", "change", "rooms", "doors"] ["house", "change"] (defScope s_house_behind) := ⟨rfl, rfl, rfl, by decide +kernel, rfl, by decide +kernel, by decide +kernel⟩
abbrev s_houses_behind : Stmt := top 37
theorem sc_houses_behind : FnScope ["house", "changes", "found", "change"] ["house", "changes"] (defScope s_houses_behind) := ⟨rfl, rfl, rfl, by decide +kernel, rfl, by decide +kernel, by decide +kernel⟩
abbrev s_changed_by : Stmt := top 38
theorem sc_changed_by : FnScope ["house", "changes"] ["house", "changes"] (defScope s_changed_by) := ⟨rfl, rfl, rfl, by decide +kernel, rfl, by decide +kernel, by decide +kernel⟩
abbrev s_need_single : Stmt := top 39
theorem sc_need_single : FnScope ["house"] ["house"] (defScope s_need_single) := ⟨rfl, rfl, rfl, by decide +kernel, rfl, by decide +kernel, by decide +kernel⟩
abbrev s_single_alike : Stmt := top 40
theorem sc_single_alike : FnScope ["one", "other", "first", "second", "due"] ["one", "other"] (defScope s_single_alike) := ⟨rfl, rfl, rfl, by decide +kernel, rfl, by decide +kernel, by decide +kernel⟩
abbrev s__law_begun : Stmt := top 42
theorem sc__law_begun : FnScope ["_law_script", "_law_great", "_law_cell"] ["_law_script"] (defScope s__law_begun) := ⟨rfl, rfl, rfl, by decide +kernel, rfl, by decide +kernel, by decide +kernel⟩
abbrev s__law_blended : Stmt := top 43
theorem sc__law_blended : FnScope ["_law_state", "_law_turn", "_law_found", "_law_prime", "_law_blend", "_law_cell"] ["_law_state"] (defScope s__law_blended) := ⟨rfl, rfl, rfl, by decide +kernel, rfl, by decide +kernel, by decide +kernel⟩
abbrev s__law_draw : Stmt := top 44
theorem sc__law_draw : FnScope ["_law_state", "_law_size_here", "_law_found"] ["_law_state", "_law_size_here"] (defScope s__law_draw) := ⟨rfl, rfl, rfl, by decide +kernel, rfl, by decide +kernel, by decide +kernel⟩
abbrev s__law_pick : Stmt := top 45
theorem sc__law_pick : FnScope ["_law_state", "_law_several"] ["_law_state", "_law_several"] (defScope s__law_pick) := ⟨rfl, rfl, rfl, by decide +kernel, rfl, by decide +kernel, by decide +kernel⟩
abbrev s__law_caught : Stmt := top 46
theorem sc__law_caught : FnScope ["_law_work", "_law_caught_here", "error"] ["_law_work"] (defScope s__law_caught) := ⟨rfl, rfl, rfl, by decide +kernel, rfl, by decide +kernel, by decide +kernel⟩
abbrev s__law_is_truth : Stmt := top 47
theorem sc__law_is_truth : FnScope ["_law_found", "_law_due"] ["_law_found", "_law_due"] (defScope s__law_is_truth) := ⟨rfl, rfl, rfl, by decide +kernel, rfl, by decide +kernel, by decide +kernel⟩
abbrev s__law_size : Stmt := top 48
theorem sc__law_size : FnScope ["_law_state", "_law_size_here"] ["_law_state"] (defScope s__law_size) := ⟨rfl, rfl, rfl, by decide +kernel, rfl, by decide +kernel, by decide +kernel⟩
abbrev s_law : Stmt := top 49
theorem sc_law : FnScope ["_law_script", "_law_state", "_law_turn", "_law_first", "_law_second", "_law_house_here", "_law_some", "_law_near", "_law_item", "_law_later", "_law_row", "_law_lap", "_law_pair", "_law_bad"] ["_law_script"] (defScope s_law) := ⟨rfl, rfl, rfl, by decide +kernel, rfl, by decide +kernel, by decide +kernel⟩
abbrev s_House_init : Stmt := inClass (top 18) 0
theorem sc_House_init : FnScope ["self", "rooms", "doors", "known", "room"] ["self", "rooms", "doors"] (defScope s_House_init) := ⟨rfl, rfl, rfl, by decide +kernel, rfl, by decide +kernel, by decide +kernel⟩
abbrev s_House_eq : Stmt := inClass (top 18) 1
theorem sc_House_eq : FnScope ["self", "other"] ["self", "other"] (defScope s_House_eq) := ⟨rfl, rfl, rfl, by decide +kernel, rfl, by decide +kernel, by decide +kernel⟩
local macro_rules | `(tactic| walk_at "hdpre") => `(tactic| first | exact True.intro | exact rfl | assumption)
local macro_rules | `(tactic| walk_at "hdpd") => `(tactic| first | exact rfl | assumption | decide +kernel)
local macro_rules | `(tactic| walk_at "hdpl") => `(tactic| first | exact rfl | assumption)
local macro_rules | `(tactic| walk_at "hd1") => `(tactic| first
  | (with_reducible refine ds_seq ?_)
  | (with_reducible refine' dgx ?_)
  | (with_reducible refine ds_if ?_)
  | (with_reducible refine ds_retN ?_)
  | (with_reducible refine ds_raise' (by assumption) ?_)
  | ((with_reducible refine' ds_ret_own ?h ?_); (case h => exact rfl))
  | (with_reducible refine ds_ret ?_)
  | (with_reducible refine ds_next ?_)
  | ((with_reducible refine' ds_append ?h ?_); (case h => exact rfl))
  | (with_reducible refine ds_drop ?_)
  | (with_reducible refine ds_par ?_)
  | (with_reducible refine ds_own (df_lst ?_))
  | (with_reducible refine ds_own (df_dnew ?_))
  | (with_reducible refine ds_set ?_)
  | (with_reducible refine' ds_asg ?_)
  | (with_reducible refine dg_name ?_)
  | ((with_reducible refine' dg_tup ?h ?_); (case h => exact rfl))
  | (with_reducible refine' dgs_cons ?_)
  | (with_reducible refine dgs_nil ?_)
  | ((with_reducible refine' de_op_o ?h ?_); (case h => exact rfl))
  | ((with_reducible refine' de_op_2o ?h ?_); (case h => exact rfl))
  | ((with_reducible refine' de_var ?h ?_); (case h => exact rfl))
  | (with_reducible refine de_int ?_) | (with_reducible refine de_bl ?_) | (with_reducible refine de_non ?_) | (with_reducible refine de_str ?_) | (with_reducible refine de_ty ?_) | (with_reducible refine de_raw ?_)
  | (with_reducible refine de_op ?_)
  | (with_reducible refine de_un ?_)
  | (with_reducible refine du_neg ?_)
  | (with_reducible refine DF.de (df_dnew ?_))
  | (with_reducible refine DRF.dr (r_repL (by decide) (by decide) (szl (Nat.le_of_ble_eq_true rfl)) ?_))
  | (with_reducible refine DRF.dr (r_addL (szl (Nat.le_of_ble_eq_true rfl)) ?_))
  | (with_reducible refine r_slT ?_)
  | (with_reducible refine r_addT (szl (Nat.le_of_ble_eq_true rfl)) ?_)
  | (with_reducible refine r_pow c_pow ?_)
  | (with_reducible refine r_mul (c_small (by decide)) ?_)
  | (with_reducible refine r_mul (c_smallL (by decide)) ?_)
  | (with_reducible refine de_dispT1 ?_)
  | (with_reducible refine de_andV ?_) | (with_reducible refine de_orV ?_) | (with_reducible refine de_notV ?_)
  | (with_reducible refine de_if ?_)
  | (with_reducible refine de_chain ?_)
  | (with_reducible refine de_tup ?_)
  | (with_reducible refine DF.de (df_lst ?_))
  | ((with_reducible refine' de_cb_o ?h ?_); (case h => exact rfl))
  | (with_reducible refine de_cb ?_)
  | (with_reducible refine de_sl ?_)
  | (with_reducible refine do_none ?_) | (with_reducible refine do_some ?_)
  | (with_reducible refine dt_test ?_) | (with_reducible refine dt_B ?_) | (with_reducible refine dt_and ?_) | (with_reducible refine dt_or ?_) | (with_reducible refine dt_not ?_) | (with_reducible refine dt_yes ?_)
  | ((with_reducible refine' de_draw _ ?hV ?hG ?_); (case hV => assumption); (case hG => assumption))
  | ((with_reducible refine' de_pick _ ?hV ?hG ?_); (case hV => assumption); (case hG => assumption))
  | ((with_reducible refine' de_lawL _ ?hV ?hG ?_); (case hV => assumption); (case hG => assumption))
  | (with_reducible refine de_det ?_)
  | (with_reducible refine de_rel ?_)
  | (refine de_detK0 ?_)
  | (with_reducible refine da_nil ?_) | (with_reducible refine da_cons ?_)
  | (with_reducible refine r_add ?_) | (with_reducible refine r_sub ?_) | (with_reducible refine r_lt ?_) | (with_reducible refine r_le ?_) | (with_reducible refine r_gt ?_) | (with_reducible refine r_ge ?_)
  | ((refine r_eqS (c := true) (by decide +kernel) (by decide +kernel) (by decide +kernel) ?_))
  | ((refine r_eqS (c := false) (by decide +kernel) (by decide +kernel) (by decide +kernel) ?_))
  | (with_reducible refine r_eqI ?_) | (with_reducible refine r_neI ?_) | (with_reducible refine r_isN ?_) | (with_reducible refine r_isnN ?_) | (with_reducible refine r_isB ?_) | (with_reducible refine r_isnB ?_)
  | ((with_reducible refine' r_eqP ?h1 ?h2 (fun b hb => ?_)); (case h1 => walk_at "hdpd"); (case h2 => walk_at "hdpd"))
  | ((with_reducible refine' r_neP ?h1 ?h2 (fun b hb => ?_)); (case h1 => walk_at "hdpd"); (case h2 => walk_at "hdpd"))
  | ((with_reducible refine' r_inP ?h0 ?h1 ?h2 (fun b hb => ?_)); (case h0 => first | exact .inl rfl | exact .inr rfl); (case h1 => walk_at "hdpd"); (case h2 => walk_at "hdpd"))
  | ((with_reducible refine' r_ninP ?h0 ?h1 ?h2 (fun b hb => ?_)); (case h0 => first | exact .inl rfl | exact .inr rfl); (case h1 => walk_at "hdpd"); (case h2 => walk_at "hdpd"))
  | ((with_reducible refine' de_fldC ?h1 ?h2 ?_); (case h1 => assumption); (case h2 => simp))
  | (refine ⟨_, _, _, rfl, rfl, ?_⟩)
  | ((with_reducible refine' r_ixT ?h ?_); (case h => exact rfl))
  | ((with_reducible refine' r_ixL ?h ?_); (case h => exact rfl))
  | (with_reducible refine b_lenT ?_) | (with_reducible refine b_lenL ?_)
  | (with_reducible refine b_abs ?_) | (with_reducible refine b_min2 ?_) | (with_reducible refine b_max2 ?_) | (with_reducible refine b_int ?_)
  | ((with_reducible refine' u_is_int ?h ?_); (case h => walk_at "hdpl"))
  | ((with_reducible refine' u_is_bool ?h ?_); (case h => walk_at "hdpl"))
  | ((with_reducible refine' u_is_tuple ?h ?_); (case h => walk_at "hdpl"))
  | ((with_reducible refine' u_is_list ?h ?_); (case h => walk_at "hdpl"))
  | ((with_reducible refine' u_is_str ?h ?_); (case h => walk_at "hdpl"))
  | ((with_reducible refine' u_is_dict ?h ?_); (case h => walk_at "hdpl"))
  | ((with_reducible refine' u_is_lt ?h ?_); (case h => walk_at "hdpl"))
  | ((with_reducible refine' u_isC ?h1 ?h2 ?_); (case h1 => assumption); (case h2 => walk_at "hdpl"))
  | (with_reducible refine DF.de (df_disp1 ?_))
  | ((with_reducible refine' ds_dput ?h ?_); (case h => exact rfl))
  | ((with_reducible refine' DCF.dc (b_list ?h ?_)); (case h => first | exact .inl rfl | exact .inr rfl))
  | ((with_reducible refine' b_tuple ?h ?_); (case h => first | exact .inl rfl | exact .inr rfl))
  | ((refine ⟨rfl, ?h, _, _, rfl, ?_⟩); (case h => walk_at "hdpre"))
  | ((refine ⟨rfl, rfl, ?h, _, _, rfl, ?_⟩); (case h => walk_at "hdpre"))
  | ((refine' detG rfl ?h ?h2 ?_); (case h2 => assumption); (case h => walk_at "hdpre"))
  | ((refine' detK rfl rfl ?h ?h2 ?_); (case h2 => assumption); (case h => walk_at "hdpre"))
  | (refine ⟨_, .inl rfl, Nat.zero_lt_succ _, Nat.le_of_ble_eq_true rfl, by omega, fun nd kd hnd hkm => ?_⟩)
  | (refine ⟨rfl, by omega, rfl, fun nd bd dd hnd hrd => ?_⟩)
  | (refine ⟨by decide, p9 (by decide), by omega, fun nd kd hnd hk0 hk1 => ?_⟩)
  | (refine ⟨_, rfl, ?_⟩)
  | (refine ⟨szl (Nat.le_of_ble_eq_true rfl), ?_⟩)
  | (refine ⟨_, _, rfl, ?_⟩)
  | (refine bT ?_)
  | (refine bF ?_)
  | (refine ⟨fun hb => ?_, fun hb => ?_⟩)
  | dsimp only)
local macro_rules | `(tactic| walk_at "rfn") => `(tactic| first | exact Rfn.nil | (refine Rfn.keep ?_) | (refine Rfn.skip ?_))

structure Txt (K : PySem.W.Frag) (mg : Str → Option Value) : Prop where
  b_abs : mg "abs" = none
  b_all : mg "all" = none
  b_bool : mg "bool" = none
  b_enumerate : mg "enumerate" = none
  b_int : mg "int" = none
  b_isinstance : mg "isinstance" = none
  b_len : mg "len" = none
  b_list : mg "list" = none
  b_min : mg "min" = none
  b_range : mg "range" = none
  b_str : mg "str" = none
  b_tuple : mg "tuple" = none
  g_MOST_ROOMS : ∃ t, mg "MOST_ROOMS" = some (.int 12 t)
  g_MOST_DOORS : ∃ t, mg "MOST_DOORS" = some (.int 20 t)
  g_GREATEST : ∃ t, mg "GREATEST" = some (.int 999 t)
  g_MOST_CHANGES : ∃ t, mg "MOST_CHANGES" = some (.int 30 t)
  g_UNITS : mg "UNITS" = some (.ref (He.ga K "UNITS"))
  c_PullError : mg "PullError" = some (.ref (He.ga K "PullError"))
  c_Apart : mg "Apart" = some (.ref (He.ga K "Apart"))
  c_BadChanges : mg "BadChanges" = some (.ref (He.ga K "BadChanges"))
  c_BadDoors : mg "BadDoors" = some (.ref (He.ga K "BadDoors"))
  c_BadHouse : mg "BadHouse" = some (.ref (He.ga K "BadHouse"))
  c_BadRooms : mg "BadRooms" = some (.ref (He.ga K "BadRooms"))
  c_BadSingle : mg "BadSingle" = some (.ref (He.ga K "BadSingle"))
  c_House : mg "House" = some (.ref (He.ga K "House"))
  x_BadChanges : ExcT K mg "BadChanges" (He.ga K "BadChanges")
  x_BadDoors : ExcT K mg "BadDoors" (He.ga K "BadDoors")
  x_BadHouse : ExcT K mg "BadHouse" (He.ga K "BadHouse")
  x_BadRooms : ExcT K mg "BadRooms" (He.ga K "BadRooms")
  x_BadSingle : ExcT K mg "BadSingle" (He.ga K "BadSingle")
  e_BadChanges : ExcC K (He.ga K "BadChanges")
  k_BadChanges : PySem.W.kitOne K (.ref (He.ga K "BadChanges")) (.ref (He.ga K "BadChanges")) = some true
  m_BadChanges : PySem.W.exmOne K (.ref (He.ga K "BadChanges")) (.ref (He.ga K "PullError")) = some true
  e_BadDoors : ExcC K (He.ga K "BadDoors")
  k_BadDoors : PySem.W.kitOne K (.ref (He.ga K "BadDoors")) (.ref (He.ga K "BadDoors")) = some true
  m_BadDoors : PySem.W.exmOne K (.ref (He.ga K "BadDoors")) (.ref (He.ga K "PullError")) = some true
  e_BadHouse : ExcC K (He.ga K "BadHouse")
  k_BadHouse : PySem.W.kitOne K (.ref (He.ga K "BadHouse")) (.ref (He.ga K "BadHouse")) = some true
  m_BadHouse : PySem.W.exmOne K (.ref (He.ga K "BadHouse")) (.ref (He.ga K "PullError")) = some true
  e_BadRooms : ExcC K (He.ga K "BadRooms")
  k_BadRooms : PySem.W.kitOne K (.ref (He.ga K "BadRooms")) (.ref (He.ga K "BadRooms")) = some true
  m_BadRooms : PySem.W.exmOne K (.ref (He.ga K "BadRooms")) (.ref (He.ga K "PullError")) = some true
  e_BadSingle : ExcC K (He.ga K "BadSingle")
  k_BadSingle : PySem.W.kitOne K (.ref (He.ga K "BadSingle")) (.ref (He.ga K "BadSingle")) = some true
  m_BadSingle : PySem.W.exmOne K (.ref (He.ga K "BadSingle")) (.ref (He.ga K "PullError")) = some true
  cl_House : ClsT K (He.ga K "House") ["rooms", "doors"]
section
variable {P : Program} {w : World} {K : PySem.W.Frag} {mg : Str → Option Value} {base : Heap} {Tt : List (Addr × Str)} {c Pt : Addr}
structure Door where
  near : Int
  first : Int
  far : Int
  second : Int
abbrev dDoor (d : Door) : D := .tup [.int d.near, .int d.first, .int d.far, .int d.second]
def Adj (ds : List Door) (a b : Int) : Prop := ∃ d ∈ ds, (d.near = a ∧ d.far = b) ∨ (d.far = a ∧ d.near = b)
inductive Reach (ds : List Door) : Int → Prop
  | zero : Reach ds 0
  | step {a b : Int} : Reach ds a → Adj ds a b → Reach ds b
theorem Adj.mono {ds es : List Door} (h : ∀ d ∈ ds, d ∈ es) {a b : Int} : Adj ds a b → Adj es a b := fun ⟨d, h1, h2⟩ => ⟨d, h d h1, h2⟩
theorem nodup_len : ∀ {l E : List Int}, l.Nodup → (∀ x ∈ l, x ∈ E) → l.length ≤ E.length
  | [], _, _, _ => Nat.zero_le _
  | x :: l, E, nd, s => by
    obtain ⟨h1, h2⟩ := List.nodup_cons.mp nd
    have hx := s x List.mem_cons_self
    have ih := nodup_len (l := l) (E := E.erase x) h2 fun y hy => by
      have ne : y ≠ x := fun z => h1 (by rw [← z]; exact hy)
      exact (List.mem_erase_of_ne ne).mpr (s y (List.mem_cons_of_mem _ hy))
    rw [List.length_erase_of_mem hx] at ih
    have := List.length_pos_of_mem hx
    simp only [List.length_cons]; omega
def ends (ds : List Door) : List Int := 0 :: ds.flatMap fun d => [d.near, d.far]
theorem ends_len : ∀ (ds : List Door), (ends ds).length = 2 * ds.length + 1
  | [] => rfl
  | d :: r => by
    have := ends_len r
    unfold ends at this ⊢
    simp only [List.flatMap_cons, List.length_cons, List.length_append, List.length_nil] at this ⊢
    omega
/-- the keys of known -/
def kns (kn : List Int) : D := .dic (kn.map Sum.inl) (kn.map fun _ => .bl true)
theorem keyIn_inl {kn : List Int} {x : Int} : keyIn (kn.map Sum.inl) (.inl x) = decide (x ∈ kn) := by
  rw [Bool.eq_iff_iff, keyIn_iff, decide_eq_true_iff, List.mem_map]
  exact ⟨fun ⟨y, h1, h2⟩ => by cases h2; exact h1, fun h => ⟨x, h, rfl⟩⟩
theorem kns_put {kn : List Int} {x : Int} (h : x ∉ kn) : D.dic (putD (kn.map Sum.inl) (kn.map fun _ => .bl true) (.inl x) (.bl true)).1 (putD (kn.map Sum.inl) (kn.map fun _ => .bl true) (.inl x) (.bl true)).2 = kns (kn ++ [x]) := by
  unfold putD
  rw [if_neg (by rw [keyIn_inl, decide_eq_true_iff]; exact h)]
  simp [kns]
/-- what the search keeps: kn known, ln still to be looked at -/
structure JI (ds : List Door) (kn ln : List Int) : Prop where
  z : 0 ∈ kn
  sub : ∀ x ∈ ln, x ∈ kn
  nd : kn.Nodup
  en : ∀ x ∈ kn, x ∈ ends ds
  re : ∀ x ∈ kn, Reach ds x
  ll : ln.length ≤ kn.length
def jm (ds : List Door) (kn ln : List Int) : Nat := 2 * ((ends ds).length - kn.length) + ln.length
theorem jm_push {ds : List Door} {kn ln : List Int} {x : Int} (J : JI ds (kn ++ [x]) ln) : jm ds (kn ++ [x]) (ln ++ [x]) < jm ds kn ln := by
  have h := nodup_len J.nd J.en
  unfold jm
  simp only [List.length_append, List.length_cons, List.length_nil] at h ⊢
  omega
theorem JI.push {ds : List Door} {kn ln : List Int} {h x : Int} (J : JI ds kn ln) (hr : Reach ds h) (a : Adj ds h x) (nx : x ∉ kn) : JI ds (kn ++ [x]) (ln ++ [x]) := by
  refine ⟨List.mem_append_left _ J.z, fun y hy => ?_, ?_, fun y hy => ?_, fun y hy => ?_, by have := J.ll; simp only [List.length_append, List.length_cons, List.length_nil]; omega⟩
  · rcases List.mem_append.mp hy with hy | hy
    · exact List.mem_append_left _ (J.sub y hy)
    · exact List.mem_append_right _ hy
  · rw [List.nodup_append]
    refine ⟨J.nd, by simp, fun a ha b hb e => nx ?_⟩
    have : b = x := by simpa using hb
    rw [← this, ← e]; exact ha
  · rcases List.mem_append.mp hy with hy | hy
    · exact J.en y hy
    · have : y = x := by simpa using hy
      subst this
      obtain ⟨d, h1, h2⟩ := a
      refine List.mem_cons_of_mem _ (List.mem_flatMap.mpr ⟨d, h1, ?_⟩)
      rcases h2 with h2 | h2 <;> simp [h2.2]
  · rcases List.mem_append.mp hy with hy | hy
    · exact J.re y hy
    · have : y = x := by simpa using hy
      subst this
      exact hr.step a
theorem JI.all {ds : List Door} {kn : List Int} (J : JI ds kn []) (cl : ∀ x ∈ kn, ∀ y, Adj ds x y → y ∈ kn) : ∀ x, x ∈ kn ↔ Reach ds x := fun x => ⟨J.re x, fun h => by
  induction h with
  | zero => exact J.z
  | step _ a ih => exact cl _ ih _ a⟩
structure JS (dl : List Door) (h : Int) (m0 : Nat) (kn ln : List Int) (o : Int → Prop) : Prop where
  J : JI dl kn ln
  r : Reach dl h
  cl : ∀ x ∈ kn, x ∉ ln → x ≠ h → ∀ y, Adj dl x y → y ∈ kn
  op : ∀ y, Adj dl h y → y ∈ kn ∨ o y
  m : jm dl kn ln < m0
theorem JS.push {dl : List Door} {h x : Int} {m0 : Nat} {kn ln : List Int} {o o' : Int → Prop} (S : JS dl h m0 kn ln o) (a : Adj dl h x) (nx : x ∉ kn) (ho : ∀ y, o y → y = x ∨ o' y) : JS dl h m0 (kn ++ [x]) (ln ++ [x]) o' := by
  have J := S.J.push S.r a nx
  refine ⟨J, S.r, fun z hz hl ne y hy => ?_, fun y hy => ?_, Nat.lt_trans (jm_push (ln := ln) ⟨J.z, fun z hz => List.mem_append_left _ (S.J.sub z hz), J.nd, J.en, J.re, by have := S.J.ll; simp only [List.length_append]; omega⟩) S.m⟩
  · rcases List.mem_append.mp hz with hz | hz
    · exact List.mem_append_left _ (S.cl z hz (fun q => hl (List.mem_append_left _ q)) ne y hy)
    · exact absurd (List.mem_append_right _ hz) hl
  · rcases S.op y hy with q | q
    · exact .inl (List.mem_append_left _ q)
    · rcases ho y q with rfl | q
      · exact .inl (by simp)
      · exact .inr q
theorem JS.skip {dl : List Door} {h : Int} {m0 : Nat} {kn ln : List Int} {o o' : Int → Prop} (S : JS dl h m0 kn ln o) (ho : ∀ y, o y → y ∈ kn ∨ o' y) : JS dl h m0 kn ln o' :=
  ⟨S.J, S.r, S.cl, fun y hy => (S.op y hy).elim .inl (ho y), S.m⟩
theorem adj_cons {d : Door} {rs : List Door} {a b : Int} (h : Adj (d :: rs) a b) : ((d.near = a ∧ d.far = b) ∨ (d.far = a ∧ d.near = b)) ∨ Adj rs a b := by
  obtain ⟨e, h1, h2⟩ := h
  rcases List.mem_cons.mp h1 with rfl | h1
  · exact .inl h2
  · exact .inr ⟨e, h1, h2⟩
def preJoin : List D → Prop
  | [d] => ∃ ds : List Door, d = .tup (ds.map dDoor) ∧ ds.length ≤ 1000
  | _ => False
def RJoin : List D → Out → Prop
  | [d], o => ∀ ds : List Door, d = .tup (ds.map dDoor) → ∃ kn : List Int, o = .ret true (kns kn) ∧ ∀ x, x ∈ kn ↔ Reach ds x
  | _, _ => False
theorem dDoor_inj {a b : Door} (h : dDoor a = dDoor b) : a = b := by
  cases a; cases b
  unfold dDoor at h
  injection h with h
  simp at h
  obtain ⟨h1, h2, h3, h4⟩ := h
  subst h1 h2 h3 h4; rfl
theorem doors_inj : ∀ {a b : List Door}, a.map dDoor = b.map dDoor → a = b
  | [], [], _ => rfl
  | [], _ :: _, h => by cases h
  | _ :: _, [], h => by cases h
  | x :: a, y :: b, h => by
    simp only [List.map_cons, List.cons.injEq] at h
    rw [dDoor_inj h.1, doors_inj h.2]
abbrev sp_joined_rooms (K : PySem.W.Frag) (Tt : List (Addr × Str)) : Sp := PR 1 preJoin RJoin
theorem ok_joined_rooms (T : Txt K mg) (Dd : Def K mg "joined_rooms" s_joined_rooms ["doors"]) :
    Cal P w K mg base 1 "joined_rooms" s_joined_rooms ["doors"] (sp_joined_rooms K Tt) := by
  refine Dd.ok sc_joined_rooms rfl stab0 fun f cdv A outer s H E hr => ⟨_, (pss_cons (ps_par (i := 1) (j := 2) rfl sc_joined_rooms.nd rfl rfl (by decide) rfl rfl (pa_cons (pe_disp (pps_cons (pe_int) (pe_bl) pps_nil) (by rfl) (by rfl) (fun z => by cases z) (by decide)) (pa_cons (pe_lst (pa_cons (pe_int) pa_nil)) pa_nil)) (by rfl))
    (pss_cons (ps_while passOwnU (pt_cmpR (kO (r := rNeD) (op_neU hr) (K := K) rfl) (pv 2) (pe_lst pa_nil) (nomark _)) (pss_cons (ps_set (i := 3) sc_joined_rooms.nd rfl (by first | exact Or.inl rfl | exact Or.inr rfl) (pe_bm0 PySem.F.plainAttrs_list PySem.F.slot_list_pop PySem.F.type_list_pop mt_pop (pv 2)))
    (pss_one (ps_for passOwnU rfl (pi_seq (pv 0)) (pg_tup (n := 4) rfl (pgs_cons (pg_name (i := 4) sc_joined_rooms.nd rfl (by first | exact Or.inl rfl | exact Or.inr rfl)) (pgs_cons (pg_name (i := 5) sc_joined_rooms.nd rfl (by first | exact Or.inl rfl | exact Or.inr rfl)) (pgs_cons (pg_name (i := 6) sc_joined_rooms.nd rfl (by first | exact Or.inl rfl | exact Or.inr rfl)) (pgs_cons (pg_name (i := 7) sc_joined_rooms.nd rfl (by first | exact Or.inl rfl | exact Or.inr rfl)) pgs_nil))))) (pss_one (ps_for passOwnU rfl (pi_seq (pe_tup (pa_cons (pe_tup (pa_cons (pv 4) (pa_cons (pv 6) pa_nil))) (pa_cons (pe_tup (pa_cons (pv 6) (pa_cons (pv 4) pa_nil))) pa_nil)))) (pg_tup (n := 2) rfl (pgs_cons (pg_name (i := 8) sc_joined_rooms.nd rfl (by first | exact Or.inl rfl | exact Or.inr rfl)) (pgs_cons (pg_name (i := 9) sc_joined_rooms.nd rfl (by first | exact Or.inl rfl | exact Or.inr rfl)) pgs_nil))) (pss_one (ps_if (PW.pt (pw_and (pt_cmpR (kO (r := rEqD) (op_eqU hr) (K := K) rfl) (pv 8) (pv 3) (nomark _)) (pw_and1 (pt_cmpR (kO (r := rNotInU) (op_notInU hr) (K := K) rfl) (pv 9) (pv 1) (by rfl))))) (pss_cons (ps_dput (u1 hr) (pv 1) (pv 9) (pe_bl) rfl)
    (pss_one (ps_expr (pe_bm PySem.F.plainAttrs_list PySem.F.slot_list_append PySem.F.type_list_append mt_append (pv 2) (pa_cons (pv 9) pa_nil))))) pss_nil))))))))
    (pss_one (ps_ret (pv 1))))), ?_⟩
  rintro W n0 ds hV hG hE hEP hl hp
  match ds, hl, hp with
  | [_], _, ⟨dl, rfl, hlen⟩ =>
  refine ds_seq (ds_par_oo (df_disp1 (de_int (de_bl ⟨.inl 0, rfl, df_lst (da_cons (de_int (da_nil ⟨szl (by show 1 ≤ 100000; decide), ?_⟩)))⟩))))
  refine ds_seq ?_
  refine ds_whileR (fun m n ρ => ∃ kn ln : List Int, ρ = [some (false, .tup (dl.map dDoor)), some (true, kns kn), some (true, .lst (ln.map D.int)), none, none, none, none, none, none, none] ∧ JI dl kn ln ∧ (∀ x ∈ kn, x ∉ ln → ∀ y, Adj dl x y → y ∈ kn) ∧ m = jm dl kn ln) (jm dl [0] [0]) ⟨_, Rfn.refl _, [0], [0], rfl, ⟨by simp, by simp, by simp, by simp [ends], fun x hx => by
      have : x = 0 := by simpa using hx
      rw [this]; exact .zero, by simp⟩, fun x h1 h2 => absurd h1 h2, rfl⟩ ?_
  rintro m n ρ' ⟨kn, ln, rfl, J, cl, rfl⟩
  repeat' (walk_at "hd1")
  refine r_neNil ⟨_, rfl, fun hb => ?_, fun hb => ?_⟩
  · obtain ⟨l0, h, rfl⟩ := ne_last hb
    have e : (l0 ++ [h]).map D.int = l0.map D.int ++ [D.int h] := by simp
    rw [e]
    have hh : h ∈ kn := J.sub h (by simp)
    have hm : jm dl kn l0 < jm dl kn (l0 ++ [h]) := by unfold jm; simp only [List.length_append, List.length_cons, List.length_nil]; omega
    refine ds_seq (ds_pop rfl ?_)
    refine ds_forR (LW := fun r n ρ => ∃ (kn' ln' : List Int) (rs : List Door), r = rs.map dDoor ∧ (∀ d ∈ rs, d ∈ dl) ∧ ρ = [some (false, .tup (dl.map dDoor)), some (true, kns kn'), some (true, .lst (ln'.map D.int)), some (false, .int h), none, none, none, none, none, none] ∧ JS dl h (jm dl kn (l0 ++ [h])) kn' ln' (Adj rs h)) (di_seqT (de_var rfl ⟨_, rfl, _, Rfn.refl _, kn, l0, dl, rfl, fun _ h => h, rfl, ⟨⟨J.z, fun x hx => J.sub x (List.mem_append_left _ hx), J.nd, J.en, J.re, by have := J.ll; simp only [List.length_append, List.length_cons, List.length_nil] at this; omega⟩, J.re h hh, fun x hx hl ne => cl x hx (fun q => (List.mem_append.mp q).elim hl fun q => ne (by simpa using q)), fun y hy => .inr hy, hm⟩⟩)) ?_ ?_
    · rintro d r n ρ' ⟨kn', ln', rs, hr', hsub, rfl, S⟩
      obtain ⟨dd, rs, rfl⟩ : ∃ dd rs', rs = dd :: rs' := by cases rs with
        | nil => cases hr'
        | cons a b => exact ⟨a, b, rfl⟩
      simp only [List.map_cons, List.cons.injEq] at hr'
      obtain ⟨rfl, rfl⟩ := hr'
      have hdd : dd ∈ dl := hsub dd List.mem_cons_self
      refine' dgx (dg_tup rfl ?_)
      repeat' (walk_at "hd1")
      refine ds_forR (LW := fun r n ρ => ∃ (kn' ln' : List Int), (∀ x ∈ r, ∃ a b, x = .tup [.int a, .int b] ∧ Adj dl a b) ∧ ρ = [some (false, .tup (dl.map dDoor)), some (true, kns kn'), some (true, .lst (ln'.map D.int)), some (false, .int h), some (false, .int dd.near), some (false, .int dd.first), some (false, .int dd.far), some (false, .int dd.second), none, none] ∧ JS dl h (jm dl kn (l0 ++ [h])) kn' ln' (fun y => Adj rs h y ∨ D.tup [.int h, .int y] ∈ r)) (di_seqT (de_tup ?_)) ?_ ?_
      · repeat' (walk_at "hd1")
        refine ⟨_, Rfn.refl _, kn', ln', ?_, rfl, S.skip fun y hy => ?_⟩
        · intro x hx
          simp only [List.mem_cons, List.not_mem_nil, or_false] at hx
          rcases hx with rfl | rfl
          · exact ⟨_, _, rfl, dd, hdd, .inl ⟨rfl, rfl⟩⟩
          · exact ⟨_, _, rfl, dd, hdd, .inr ⟨rfl, rfl⟩⟩
        · rcases adj_cons hy with (⟨h1, h2⟩ | ⟨h1, h2⟩) | h1
          · exact .inr (.inr (by simp [h1, h2]))
          · exact .inr (.inr (by simp [h1, h2]))
          · exact .inr (.inl h1)
      · rintro d r n ρ' ⟨kn2, ln2, hx, rfl, S2⟩
        obtain ⟨a, b, rfl, hab⟩ := hx d List.mem_cons_self
        have hx' : ∀ x ∈ r, ∃ a b, x = .tup [.int a, .int b] ∧ Adj dl a b := fun x q => hx x (List.mem_cons_of_mem _ q)
        refine' dgx (dg_tup rfl ?_)
        repeat' (walk_at "hd1")
        · rename_i ha
          have ha := of_decide_eq_true ha
          subst ha
          refine r_notInDic (k := .inl b) rfl ⟨_, rfl, fun hb => ?_, fun hb => ?_⟩
          · have nb : b ∉ kn2 := by rw [keyIn_inl] at hb; simpa using hb
            repeat' (walk_at "hd1")
            have hb1 := nodup_len S2.J.nd S2.J.en
            have hb2 := S2.J.ll
            rw [ends_len] at hb1
            refine ⟨.inl b, rfl, by rw [List.length_map]; exact szlt (by omega), ?_⟩
            rw [kns_put nb]
            repeat' (walk_at "hd1")
            refine ⟨by rw [List.length_map]; exact szlt (by omega), _, ?_, kn2 ++ [b], ln2 ++ [b], hx', rfl, S2.push hab nb fun y hy => ?_⟩
            · rw [List.map_append]
              repeat' (walk_at "rfn")
            · rcases hy with hy | hy
              · exact .inr (.inl hy)
              · rcases List.mem_cons.mp hy with hy | hy
                · simp at hy; exact .inl hy
                · exact .inr (.inr hy)
          · have yb : b ∈ kn2 := by rw [keyIn_inl] at hb; simpa using hb
            repeat' (walk_at "hd1")
            refine ⟨_, Rfn.keep (Rfn.keep (Rfn.keep (Rfn.keep (Rfn.keep (Rfn.keep (Rfn.keep (Rfn.keep (Rfn.skip (Rfn.skip Rfn.nil))))))))), kn2, ln2, hx', rfl, S2.skip fun y hy => ?_⟩
            rcases hy with hy | hy
            · exact .inr (.inl hy)
            · rcases List.mem_cons.mp hy with hy | hy
              · simp at hy; rw [hy]; exact .inl yb
              · exact .inr (.inr hy)
        · rename_i ha
          have ha := of_decide_eq_false ha
          refine ⟨_, Rfn.keep (Rfn.keep (Rfn.keep (Rfn.keep (Rfn.keep (Rfn.keep (Rfn.keep (Rfn.keep (Rfn.skip (Rfn.skip Rfn.nil))))))))), kn2, ln2, hx', rfl, S2.skip fun y hy => ?_⟩
          rcases hy with hy | hy
          · exact .inr (.inl hy)
          · rcases List.mem_cons.mp hy with hy | hy
            · simp at hy; exact absurd hy.1.symm ha
            · exact .inr (.inr hy)
      · rintro n ρ' ⟨kn2, ln2, hx, rfl, S2⟩
        refine ⟨_, Rfn.keep (Rfn.keep (Rfn.keep (Rfn.keep (Rfn.skip (Rfn.skip (Rfn.skip (Rfn.skip (Rfn.keep (Rfn.keep Rfn.nil))))))))), kn2, ln2, rs, rfl, fun d hd => hsub d (List.mem_cons_of_mem _ hd), rfl, S2.skip fun y hy => ?_⟩
        rcases hy with hy | hy
        · exact .inr hy
        · cases hy
    · rintro n ρ' ⟨kn', ln', rs, hr', hsub, rfl, S⟩
      have e0 : rs = [] := by cases rs with
        | nil => rfl
        | cons a b => cases hr'
      subst e0
      refine ⟨_, S.m, _, ?_, kn', ln', rfl, S.J, fun x hx hl y hy => ?_, rfl⟩
      · repeat' (walk_at "rfn")
      · by_cases e : x = h
        · subst e
          rcases S.op y hy with q | ⟨d, hd, _⟩
          · exact q
          · cases hd
        · exact S.cl x hx hl e y hy
  · have e : ln = [] := by cases ln with
      | nil => rfl
      | cons a b => cases hb
    subst e
    refine ds_ret_own rfl ?_
    intro ds' he
    injection he with he
    rw [← doors_inj he]
    exact ⟨kn, rfl, J.all fun x hx => cl x hx (by simp)⟩
def isNum : D → Bool
  | .int _ => true
  | _ => false
def pre1 : List D → Prop
  | [d] => d.tn.isSome = true
  | _ => False
theorem num_or (d : D) : (∃ i, d = .int i) ∨ isNum d = false := by
  cases d <;> first | exact .inl ⟨_, rfl⟩ | exact .inr rfl
theorem all_pl {ds : List D} (h : ds.all (fun d => d.tn.isSome) = true) : ∀ d ∈ ds, d.tn.isSome = true := fun d hd => List.all_eq_true.mp h d hd
def fNum : List D → Out
  | [d] => .ret false (.bl (isNum d))
  | _ => .ret false .non
abbrev sp_is_number (K : PySem.W.Frag) (Tt : List (Addr × Str)) : Sp := PD 1 pre1 fNum
theorem ok_is_number (T : Txt K mg) (Dd : Def K mg "is_number" s_is_number ["value"]) :
    Cal P w K mg base 1 "is_number" s_is_number ["value"] (sp_is_number K Tt) := by
  refine Dd.ok sc_is_number rfl stab0 fun f cdv A outer s H E hr => ⟨_, (pss_one (ps_ret ((pe_and (pe_callB (kC (r := rIsiU) call_isiU (K := K) rfl) (by rfl) T.b_isinstance bb_isinstance (pa_cons (pv 0) (pa_cons (pe_bltn (v := .ty "int") (by rfl) T.b_int bb_int rfl) pa_nil))) (pe_one (pe_not (pe_callB (kC (r := rIsiU) call_isiU (K := K) rfl) (by rfl) T.b_isinstance bb_isinstance (pa_cons (pv 0) (pa_cons (pe_bltn (v := .ty "bool") (by rfl) T.b_bool bb_bool rfl) pa_nil))))))))), ?_⟩
  rintro W n0 ds hV hG hE hEP hl hp
  match ds, hl with
  | [d], _ =>
  have hd : d.tn.isSome = true := hp
  cases d <;> try exact absurd hd Bool.false_ne_true
  all_goals repeat' (walk_at "hd1")
  all_goals rfl
def belowB (s : Int) : D → Bool
  | .int i => decide (0 ≤ i) && decide (i < s)
  | _ => false
def preBelow : List D → Prop
  | [d, .int _] => d.tn.isSome = true
  | _ => False
def fBelow : List D → Out
  | [d, .int s] => .ret false (.bl (belowB s d))
  | _ => .ret false .non
abbrev sp_is_below (K : PySem.W.Frag) (Tt : List (Addr × Str)) : Sp := PD 2 preBelow fBelow
theorem ok_is_below (T : Txt K mg) (Dd : Def K mg "is_below" s_is_below ["value", "size"])
    (C_is_number : Cal P w K mg base 1 "is_number" s_is_number ["value"] (sp_is_number K Tt)) :
    Cal P w K mg base 2 "is_below" s_is_below ["value", "size"] (sp_is_below K Tt) := by
  refine Dd.ok sc_is_below rfl stab0 fun f cdv A outer s H E hr => ⟨_, (pss_one (ps_ret ((pe_and (pe_cal C_is_number (hr.mono (by decide)) passD (by rfl) (pa_cons (pv 0) pa_nil)) (pe_one (pe_chain op_leU op_ltU (pe_int) (pv 0) (pv 1))))))), ?_⟩
  rintro W n0 ds hV hG hE hEP hl hp
  match ds, hl, hp with
  | [d, .int s], _, hd =>
  have hd : d.tn.isSome = true := hd
  rcases num_or d with ⟨i, rfl⟩ | h0
  · repeat' (walk_at "hd1")
    all_goals simp_all [fBelow, belowB]
    all_goals (try intros; omega)
  · have e : belowB s d = false := by cases d <;> first | rfl | cases h0
    repeat' (walk_at "hd1")
    all_goals first
      | (show Out.ret false (D.bl false) = .ret false (.bl (belowB s d)); rw [e])
      | simp_all
def sgnB : D → Bool
  | .int i => decide (i ≠ 0) && (decide (-999 ≤ i) && decide (i ≤ 999))
  | _ => false
def doorB (r : Int) : D → Bool
  | .tup [n, f, m, s] => belowB r n && belowB r m && (sgnB f && sgnB s)
  | _ => false
/-- plain, a tuple of plain ones -/
def plT : D → Prop
  | .tup ds => ∀ d ∈ ds, d.tn.isSome = true
  | d => d.tn.isSome = true
theorem plT_pl {d : D} (h : plT d) : d.tn.isSome = true := by cases d <;> first | rfl | exact h
def preDoor : List D → Prop
  | [d, .int _] => plT d
  | _ => False
def fDoor : List D → Out
  | [d, .int r] => .ret false (.bl (doorB r d))
  | _ => .ret false .non
abbrev sp_is_door (K : PySem.W.Frag) (Tt : List (Addr × Str)) : Sp := PD 2 preDoor fDoor
theorem ok_is_door (T : Txt K mg) (Dd : Def K mg "is_door" s_is_door ["value", "rooms"])
    (C_is_below : Cal P w K mg base 2 "is_below" s_is_below ["value", "size"] (sp_is_below K Tt))
    (C_is_number : Cal P w K mg base 1 "is_number" s_is_number ["value"] (sp_is_number K Tt)) :
    Cal P w K mg base 3 "is_door" s_is_door ["value", "rooms"] (sp_is_door K Tt) := by
  refine Dd.ok sc_is_door rfl stab0 fun f cdv A outer s H E hr => ⟨_, (pss_cons (ps_if (PW.pt (pw_or (pt_not (pt_val (pe_callB (kC (r := rIsiU) call_isiU (K := K) rfl) (by rfl) T.b_isinstance bb_isinstance (pa_cons (pv 0) (pa_cons (pe_bltn (v := .ty "tuple") (by rfl) T.b_tuple bb_tuple rfl) pa_nil))))) (pw_or1 (pt_cmpR (kO (r := rNeD) (op_neU hr) (K := K) rfl) (pe_callB (kC (r := rLenU) call_lenU (K := K) rfl) (by rfl) T.b_len bb_len (pa_cons (pv 0) pa_nil)) (pe_int) (nomark _))))) (pss_one (ps_ret (pe_bl))) pss_nil)
    (pss_cons (ps_asg (pv 0) (pg_tup (n := 4) rfl (pgs_cons (pg_name (i := 2) sc_is_door.nd rfl (by first | exact Or.inl rfl | exact Or.inr rfl)) (pgs_cons (pg_name (i := 3) sc_is_door.nd rfl (by first | exact Or.inl rfl | exact Or.inr rfl)) (pgs_cons (pg_name (i := 4) sc_is_door.nd rfl (by first | exact Or.inl rfl | exact Or.inr rfl)) (pgs_cons (pg_name (i := 5) sc_is_door.nd rfl (by first | exact Or.inl rfl | exact Or.inr rfl)) pgs_nil))))))
    (pss_cons (ps_if (PW.pt (pw_or (pt_not (pt_val (pe_cal C_is_below (hr.mono (by decide)) passD (by rfl) (pa_cons (pv 2) (pa_cons (pv 1) pa_nil))))) (pw_or1 (pt_not (pt_val (pe_cal C_is_below (hr.mono (by decide)) passD (by rfl) (pa_cons (pv 4) (pa_cons (pv 1) pa_nil)))))))) (pss_one (ps_ret (pe_bl))) pss_nil)
    (pss_one (ps_ret (pe_callB (kC (r := rAll) (cr_all rfl) (K := K) rfl) (by rfl) T.b_all bb_all (pa_cons (pe_lc (own := [("item", 6)]) rfl sc_is_door.nd (pi_seq (pe_tup (pa_cons (pv 3) (pa_cons (pv 5) pa_nil)))) (blkOk_by (own := [("item", 6)]) (N := ["value", "rooms", "near", "first", "far", "second", "item"]) (sc := defScope s_is_door) (by decide +kernel)) (fun _ _ _ _ _ => (pg_name (i := 6) sc_is_door.nd rfl (by first | exact Or.inl rfl | exact Or.inr rfl))) (fun _ _ _ _ _ => pts_nil) (fun _ _ _ _ _ => ((pe_and (pe_cal C_is_number (hr.mono (by decide)) passL (by rfl) (pa_cons (pv 6) pa_nil)) (pe_and (pe_cmpR (kO (r := rNeD) (op_neU hr) (K := K) rfl) (pv 6) (pe_int) (nomark _)) (pe_one (pe_chain op_leU op_leU (pe_un un_neg (pe_gint (by rfl) T.g_GREATEST)) (pv 6) (pe_gint (by rfl) T.g_GREATEST)))))))) pa_nil))))))), ?_⟩
  rintro W n0 ds hV hG hE hEP hl hp
  match ds, hl, hp with
  | [d, .int r], _, hp =>
  have hd : d.tn.isSome = true := plT_pl hp
  by_cases ht : ∃ a b c e, d = .tup [a, b, c, e]
  · obtain ⟨a, b, c, e, rfl⟩ := ht
    have ha : a.tn.isSome = true := hp a (by simp)
    have hb : b.tn.isSome = true := hp b (by simp)
    have hc : c.tn.isSome = true := hp c (by simp)
    have he : e.tn.isSome = true := hp e (by simp)
    have hx : ∀ d ∈ [b, e], d.tn.isSome = true := fun d hd => by
      simp only [List.mem_cons, List.not_mem_nil, or_false] at hd
      rcases hd with rfl | rfl <;> assumption
    repeat' (walk_at "hd1")
    · rename_i h1
      simp_all [fDoor, doorB]
    · rename_i h1 h2
      simp_all [fDoor, doorB]
    · rename_i h1 h2
      refine DF.de (df_lc_map (fun d => .bl (sgnB d)) (noOwn_by rfl) (di_seq (de_tup ?_)) in_self)
      repeat' (walk_at "hd1")
      refine ⟨[b, e], .inr rfl, szl (by show 2 ≤ 100000; decide), fun n d hd => dg_name ?_, fun n => ?_⟩
      · have hdp := hx d hd
        rcases num_or d with ⟨i, rfl⟩ | h0
        · repeat' (walk_at "hd1")
          all_goals simp_all [sgnB, isNum]
          all_goals (try intros; omega)
        · have e : sgnB d = false := by cases d <;> first | rfl | cases h0
          repeat' (walk_at "hd1")
          all_goals simp_all
      · refine da_nil (b_allM ?_)
        simp_all [fDoor, doorB]
  · have hl4 : ∀ l, d = .tup l → (l.length : Int) ≠ 4 := fun l e q => by
      subst e
      rcases l with _ | ⟨x, _ | ⟨y, _ | ⟨z, _ | ⟨u, _ | ⟨v, r⟩⟩⟩⟩⟩
      all_goals first | (simp only [List.length_cons, List.length_nil] at q; omega) | exact ht ⟨x, y, z, u, rfl⟩
    have e : doorB r d = false := by
      cases d with
      | tup l =>
        rcases l with _ | ⟨x, _ | ⟨y, _ | ⟨z, _ | ⟨u, _ | ⟨v, r⟩⟩⟩⟩⟩
        all_goals first | rfl | exact absurd ⟨x, y, z, u, rfl⟩ ht
      | _ => rfl
    cases d
    case tup l hx =>
      have hl3 : (!decide ((l.length : Int) = 4)) = true := by simp [hl4 l rfl]
      repeat' (walk_at "hd1")
      all_goals first
        | (show Out.ret false (D.bl false) = .ret false (.bl (doorB r (.tup l))); rw [e])
        | (rename_i hb'; rw [hl3] at hb'; cases hb')
    all_goals try exact absurd hd Bool.false_ne_true
    all_goals repeat' (walk_at "hd1")
    all_goals rfl
def doorsB (r : Int) : D → Bool
  | .tup ds => decide (ds.length ≤ 20) && ds.all (doorB r)
  | _ => false
def preDoors : List D → Prop
  | [.tup ds, .int _] => ds.length ≤ 1000 ∧ ∀ d ∈ ds, plT d
  | [d, .int _] => d.tn.isSome = true
  | _ => False
def fDoors : List D → Out
  | [d, .int r] => .ret false (.bl (doorsB r d))
  | _ => .ret false .non
abbrev sp_are_doors (K : PySem.W.Frag) (Tt : List (Addr × Str)) : Sp := PD 2 preDoors fDoors
theorem ok_are_doors (T : Txt K mg) (Dd : Def K mg "are_doors" s_are_doors ["value", "rooms"])
    (C_is_door : Cal P w K mg base 3 "is_door" s_is_door ["value", "rooms"] (sp_is_door K Tt)) :
    Cal P w K mg base 4 "are_doors" s_are_doors ["value", "rooms"] (sp_are_doors K Tt) := by
  refine Dd.ok sc_are_doors rfl stab0 fun f cdv A outer s H E hr => ⟨_, (pss_cons (ps_if (PW.pt (pw_or (pt_not (pt_val (pe_callB (kC (r := rIsiU) call_isiU (K := K) rfl) (by rfl) T.b_isinstance bb_isinstance (pa_cons (pv 0) (pa_cons (pe_bltn (v := .ty "tuple") (by rfl) T.b_tuple bb_tuple rfl) pa_nil))))) (pw_or1 (pt_cmpR op_gtU (pe_callB (kC (r := rLenU) call_lenU (K := K) rfl) (by rfl) T.b_len bb_len (pa_cons (pv 0) pa_nil)) (pe_gint (by rfl) T.g_MOST_DOORS) (nomark _))))) (pss_one (ps_ret (pe_bl))) pss_nil)
    (pss_one (ps_ret (pe_callB (kC (r := rAll) (cr_all rfl) (K := K) rfl) (by rfl) T.b_all bb_all (pa_cons (pe_lc (own := [("door", 2)]) rfl sc_are_doors.nd (pi_seq (pv 0)) (blkOk_by (own := [("door", 2)]) (N := ["value", "rooms", "door"]) (sc := defScope s_are_doors) (by decide +kernel)) (fun _ _ _ _ _ => (pg_name (i := 2) sc_are_doors.nd rfl (by first | exact Or.inl rfl | exact Or.inr rfl))) (fun _ _ _ _ _ => pts_nil) (fun _ _ _ _ _ => (pe_cal C_is_door (hr.mono (by decide)) passL (by rfl) (pa_cons (pv 2) (pa_cons (pv 1) pa_nil))))) pa_nil))))), ?_⟩
  rintro W n0 ds hV hG hE hEP hl hp
  match ds, hl with
  | [d, r0], _ =>
  have hr0 : ∃ r, r0 = .int r := by
    cases r0 with
    | int r => exact ⟨r, rfl⟩
    | _ => cases d <;> exact hp.elim
  obtain ⟨r, rfl⟩ := hr0
  have hd : d.tn.isSome = true := by cases d <;> first | rfl | exact hp
  cases d
  case tup l hx =>
    have hp2 : l.length ≤ 1000 ∧ ∀ d ∈ l, plT d := hp
    repeat' (walk_at "hd1")
    · rename_i hb
      have h1 : ¬ (l.length ≤ 20) := by have := of_decide_eq_true hb; omega
      show Out.ret false (.bl false) = .ret false (.bl (decide (l.length ≤ 20) && l.all (doorB r)))
      rw [decide_eq_false h1]; rfl
    · rename_i hb
      have h1 : l.length ≤ 20 := by have := of_decide_eq_false hb; omega
      refine DF.de (df_lc_map (fun d => .bl (doorB r d)) (noOwn_by rfl) (di_seq (de_var rfl ⟨l, .inr rfl, szl (by omega), fun n1 d hm => dg_name ?_, fun n2 => ?_⟩)) in_self)
      · repeat' (walk_at "hd1")
        exact ⟨rfl, hp2.2 d hm, _, _, rfl, rfl⟩
      · refine da_nil (b_allM ?_)
        show Out.ret false (.bl (l.all (doorB r))) = .ret false (.bl (decide (l.length ≤ 20) && l.all (doorB r)))
        rw [decide_eq_true h1]; rfl
  all_goals try exact absurd hd Bool.false_ne_true
  all_goals repeat' (walk_at "hd1")
  all_goals exact rfl
def doorOk (r : Int) (d : Door) : Prop := (0 ≤ d.near ∧ d.near < r) ∧ (0 ≤ d.far ∧ d.far < r) ∧ (d.first ≠ 0 ∧ -999 ≤ d.first ∧ d.first ≤ 999) ∧ (d.second ≠ 0 ∧ -999 ≤ d.second ∧ d.second ≤ 999)
structure HouseOk (r : Int) (ds : List Door) : Prop where
  r1 : 1 ≤ r
  r2 : r ≤ 12
  dl : ds.length ≤ 20
  dk : ∀ d ∈ ds, doorOk r d
  con : ∀ x, 0 ≤ x → x < r → Reach ds x
def dHouse (K : PySem.W.Frag) (r : Int) (ds : List Door) : D := .ins (He.ga K "House") ["rooms", "doors"] [.int r, .tup (ds.map dDoor)]
theorem door_b {r : Int} {d : Door} (h : doorOk r d) : doorB r (dDoor d) = true := by
  obtain ⟨⟨h1, h2⟩, ⟨h3, h4⟩, ⟨h5, h6, h7⟩, h8, h9, h10⟩ := h
  show (((decide (0 ≤ d.near) && decide (d.near < r)) && (decide (0 ≤ d.far) && decide (d.far < r))) && ((decide (d.first ≠ 0) && (decide (-999 ≤ d.first) && decide (d.first ≤ 999))) && (decide (d.second ≠ 0) && (decide (-999 ≤ d.second) && decide (d.second ≤ 999))))) = true
  simp [h1, h2, h3, h4, h5, h6, h7, h8, h9, h10]
theorem doors_b {r : Int} {ds : List Door} (h : ∀ d ∈ ds, doorOk r d) (hl : ds.length ≤ 20) : doorsB r (.tup (ds.map dDoor)) = true := by
  show (decide ((ds.map dDoor).length ≤ 20) && (ds.map dDoor).all (doorB r)) = true
  rw [List.length_map, decide_eq_true hl, Bool.true_and, List.all_eq_true]
  intro x hx
  obtain ⟨d, hd, rfl⟩ := List.mem_map.mp hx
  exact door_b (h d hd)
theorem plT_door (d : Door) : plT (dDoor d) := by
  show ∀ x ∈ [D.int d.near, .int d.first, .int d.far, .int d.second], x.tn.isSome = true
  intro x hx
  simp only [List.mem_cons, List.not_mem_nil, or_false] at hx
  rcases hx with rfl | rfl | rfl | rfl <;> rfl
theorem pre_doors {r : Int} {ds : List Door} (hl : ds.length ≤ 1000) : preDoors [.tup (ds.map dDoor), .int r] := ⟨by rw [List.length_map]; exact hl, fun x hx => by
  obtain ⟨d, _, rfl⟩ := List.mem_map.mp hx
  exact plT_door d⟩
def preHouse : List D → Prop
  | [r, d] => ∃ (r0 : Int) (ds : List Door), r = .int r0 ∧ d = .tup (ds.map dDoor) ∧ HouseOk r0 ds
  | _ => False
def fHouse (K : PySem.W.Frag) : List D → Out := fun ds => .ret true (.ins (He.ga K "House") ["rooms", "doors"] ds)
abbrev sp_House (K : PySem.W.Frag) (Tt : List (Addr × Str)) : Sp := PD 2 preHouse (fHouse K)
theorem ok_House (T : Txt K mg) (Dd : DefI K mg "House" "House.__init__" s_House_init ["rooms", "doors"] (He.ga K "House"))
    (C_joined_rooms : Cal P w K mg base 1 "joined_rooms" s_joined_rooms ["doors"] (sp_joined_rooms K Tt))
    (C_are_doors : Cal P w K mg base 4 "are_doors" s_are_doors ["value", "rooms"] (sp_are_doors K Tt))
    (C_is_number : Cal P w K mg base 1 "is_number" s_is_number ["value"] (sp_is_number K Tt)) :
    CalC P w K mg base 5 "House" "House.__init__" s_House_init ["rooms", "doors"] (He.ga K "House") (sp_House K Tt) := by
  refine Dd.ok sc_House_init rfl stab0 fun f cdv A outer s H E hr => ⟨_, (pss_cons (ps_if (PW.pt (pw_or (pt_not (pt_val (pe_cal C_is_number (hr.mono (by decide)) passD (by rfl) (pa_cons (pv 1) pa_nil)))) (pw_or1 (pt_not (pt_chain op_leU op_leU (pe_int) (pv 1) (pe_gint (by rfl) T.g_MOST_ROOMS)))))) (pss_one (ps_never)) pss_nil)
    (pss_cons (ps_if (pt_not (pt_val (pe_cal C_are_doors (hr.mono (by decide)) passD (by rfl) (pa_cons (pv 2) (pa_cons (pv 1) pa_nil))))) (pss_one (ps_never)) pss_nil)
    (pss_cons (ps_set (i := 3) sc_House_init.nd rfl (by first | exact Or.inl rfl | exact Or.inr rfl) (pe_cal C_joined_rooms (hr.mono (by decide)) passD (by rfl) (pa_cons (pv 2) pa_nil)))
    (pss_cons (ps_for passOwnU rfl (pi_range1 (by rfl) T.b_range (pa_cons (pv 1) pa_nil)) (pg_name (i := 4) sc_House_init.nd rfl (by first | exact Or.inl rfl | exact Or.inr rfl)) (pss_one (ps_if (pt_cmpR (kO (r := rNotInU) (op_notInU hr) (K := K) rfl) (pv 4) (pv 3) (by rfl)) (pss_one (ps_never)) pss_nil)))
    (pss_cons (ps_fld (pv 0) (pv 1) rfl)
    (pss_one (ps_fld (pv 0) (pv 2) rfl))))))), ?_⟩
  rintro x dx W n0 ds hV hG hE hEP hl hp
  match ds, hl, hp with
  | [_, _], _, ⟨r, dl, rfl, rfl, O⟩ =>
  have cl := T.cl_House
  have pd := pre_doors (r := r) (ds := dl) (by have := O.dl; omega)
  have db := doors_b O.dk O.dl
  have r1 := O.r1
  have r2 := O.r2
  refine dsi_do ?_
  repeat' (walk_at "hd1")
  all_goals try first | exact ds_never (by simp_all; done) | exact ds_never (by simp_all; omega)
  refine dsi_do ?_
  repeat' (walk_at "hd1")
  all_goals try first | exact ds_never (by simp_all; done) | exact ds_never (by simp_all; omega)
  refine dsi_do ?_
  refine ds_own (df_rel (da_cons (de_var rfl (da_nil ⟨rfl, ⟨dl, rfl, by have := O.dl; omega⟩, fun o ho => ?_⟩))))
  obtain ⟨kn, rfl, hkn⟩ := ho dl rfl
  refine ⟨_, rfl, ?_⟩
  refine dsi_do ?_
  refine ds_forR (LW := fun rs n ρ => (∀ d ∈ rs, ∃ i : Int, d = .int i ∧ 0 ≤ i ∧ i < r) ∧ ρ = [some (false, .raw x), some (false, .int r), some (false, .tup (dl.map dDoor)), some (true, kns kn), none]) (di_range1 (da_cons (de_var rfl (da_nil ⟨r, rfl, by have := O.r1; omega, by have := O.r2; omega, _, Rfn.refl _, ?_, rfl⟩)))) ?_ ?_
  · intro d hd
    obtain ⟨i, hi, rfl⟩ := List.mem_map.mp hd
    have := List.mem_range.mp hi
    exact ⟨0 + (i : Int), rfl, by omega, by omega⟩
  · rintro d rs n ρ' ⟨h1, rfl⟩
    obtain ⟨i, rfl, i1, i2⟩ := h1 d List.mem_cons_self
    repeat' (walk_at "hd1")
    refine r_notInDic (k := .inl i) rfl ⟨_, rfl, fun hb => ?_, fun hb => ?_⟩
    · have : i ∈ kn := (hkn i).mpr (O.con i i1 i2)
      rw [keyIn_inl] at hb
      simp [this] at hb
    · exact ds_next ⟨_, Rfn.keep (Rfn.keep (Rfn.keep (Rfn.keep (Rfn.skip Rfn.nil)))), fun d hd => h1 d (List.mem_cons_of_mem _ hd), rfl⟩
  · rintro n ρ' ⟨h1, rfl⟩
    refine dsi_seq (dsi_fld rfl cl.I.cl (cl.na _ (by simp)) (by simp) (by simp) (de_var rfl ?_))
    refine dsi_fld rfl cl.I.cl (cl.na _ (by simp)) (by decide) (by simp) (de_var rfl ?_)
    exact rfl
/-- plain, or a house -/
def ph (K : PySem.W.Frag) (d : D) : Prop := pc (He.ga K "House") d
def isH (K : PySem.W.Frag) (d : D) : Bool := isC (He.ga K "House") d
theorem isH_house {K : PySem.W.Frag} {r : Int} {ds : List Door} : isH K (dHouse K r ds) = true := by simp [isH, dHouse, isC]
theorem ph_house {K : PySem.W.Frag} {r : Int} {ds : List Door} : ph K (dHouse K r ds) := .inr ⟨_, _, rfl⟩
def one (a b : Int) : List Door := [⟨0, a, 0, b⟩]
def nz (a : Int) : Prop := a ≠ 0 ∧ -999 ≤ a ∧ a ≤ 999
theorem one_ok {a b : Int} (ha : nz a) (hb : nz b) : HouseOk 1 (one a b) := ⟨by omega, by omega, by show 1 ≤ 20; omega, fun d hd => by
  have : d = ⟨0, a, 0, b⟩ := by simpa [one] using hd
  subst this
  exact ⟨⟨by show (0:Int) ≤ 0; omega, by show (0:Int) < 1; omega⟩, ⟨by show (0:Int) ≤ 0; omega, by show (0:Int) < 1; omega⟩, ha, hb⟩, fun x h1 h2 => by
  have : x = 0 := by omega
  rw [this]; exact .zero⟩
/-- a row of turns and swaps -/
def isTS (d : D) : Prop := d = .tup [.str "turn", .int 0] ∨ d = .tup [.str "swap", .int 0]
/-- turned, swapped -/
def Ali (a b c d : Int) : Prop := (c = a ∧ d = b) ∨ (c = b ∧ d = a) ∨ (c = 0 - a ∧ d = 0 - b) ∨ (c = 0 - b ∧ d = 0 - a)
/-- plain, or a right house -/
def hpl (K : PySem.W.Frag) (d : D) : Prop := d.tn.isSome = true ∨ ∃ r ds, HouseOk r ds ∧ d = dHouse K r ds
theorem hpl_ph {K : PySem.W.Frag} {d : D} (h : hpl K d) : ph K d := h.imp id fun ⟨r, ds, _, e⟩ => ⟨_, _, e⟩
/-- one room, one door -/
def sing (K : PySem.W.Frag) (d : D) : Bool := isH K d && match d with
  | .ins _ _ [.int r, .tup l] => decide (r = 1) && decide (l.length = 1)
  | _ => false
theorem sing_one {K : PySem.W.Frag} {a b : Int} : sing K (dHouse K 1 (one a b)) = true := by
  unfold sing
  rw [isH_house]; rfl
def aliB : D → D → Bool
  | .ins _ _ [_, .tup [.tup [_, .int a, _, .int b]]], .ins _ _ [_, .tup [.tup [_, .int c, _, .int d]]] => (decide (c = a) && decide (d = b)) || ((decide (c = b) && decide (d = a)) || ((decide (c = 0 - a) && decide (d = 0 - b)) || (decide (c = 0 - b) && decide (d = 0 - a))))
  | _, _ => false
theorem ali_iff {K : PySem.W.Frag} {a b c d : Int} : aliB (dHouse K 1 (one a b)) (dHouse K 1 (one c d)) = true ↔ Ali a b c d := by
  show ((decide (c = a) && decide (d = b)) || ((decide (c = b) && decide (d = a)) || ((decide (c = 0 - a) && decide (d = 0 - b)) || (decide (c = 0 - b) && decide (d = 0 - a))))) = true ↔ _
  simp only [Bool.or_eq_true, Bool.and_eq_true, decide_eq_true_iff]
  rfl
def preNS (K : PySem.W.Frag) : List D → Prop
  | [d] => hpl K d
  | _ => False
def fNS (K : PySem.W.Frag) : List D → Out
  | [d] => if sing K d = true then .ret false .non else .exc (He.ga K "BadSingle") [] []
  | _ => .ret false .non
abbrev sp_need_single (K : PySem.W.Frag) (Tt : List (Addr × Str)) : Sp := PD 1 (preNS K) (fNS K)
theorem ok_need_single (T : Txt K mg) (Dd : Def K mg "need_single" s_need_single ["house"]) :
    Cal P w K mg base 1 "need_single" s_need_single ["house"] (sp_need_single K Tt) := by
  refine Dd.ok sc_need_single rfl stab0 fun f cdv A outer s H E hr => ⟨_, (pss_one (ps_if (PW.pt (pw_or (pt_not (pt_val (pe_callB (kC (r := rIsiU) call_isiU (K := K) rfl) (by rfl) T.b_isinstance bb_isinstance (pa_cons (pv 0) (pa_cons (pe_glob (v := .ref _) (by rfl) T.c_House rfl) pa_nil))))) (pw_or (pt_cmpR (kO (r := rNeD) (op_neU hr) (K := K) rfl) (pe_fldK (K := K) rfl (pv 0) rfl) (pe_int) (nomark _)) (pw_or1 (pt_cmpR (kO (r := rNeD) (op_neU hr) (K := K) rfl) (pe_callB (kC (r := rLenU) call_lenU (K := K) rfl) (by rfl) T.b_len bb_len (pa_cons (pe_fldK (K := K) rfl (pv 0) rfl) pa_nil)) (pe_int) (nomark _)))))) (pss_one (ps_raise rfl (takes_of rfl rfl rfl rfl) (T.x_BadSingle.mk' (by rfl)))) pss_nil)), ?_⟩
  rintro W n0 ds hV hG hE hEP hl hp
  match ds, hl with
  | [d], _ =>
  have hp' : pc (He.ga K "House") d := hpl_ph hp
  have cl := T.cl_House
  have fin0 : sing K d = false → Out.exc (He.ga K "BadSingle") [] [] = fNS K [d] := fun h => by
    show _ = if sing K d = true then _ else _
    rw [if_neg (by rw [h]; decide)]
  have fin1 : sing K d = true → Out.ret false .non = fNS K [d] := fun h => by
    show _ = if sing K d = true then _ else _
    rw [if_pos h]
  rcases hp with hpl' | ⟨r, ds, O, rfl⟩
  · have h0 : isC (He.ga K "House") d = false := by cases d <;> first | rfl | cases hpl'
    have h1 : sing K d = false := by unfold sing isH; rw [h0]; rfl
    repeat' (walk_at "hd1")
    · rw [hEP]; exact fin0 h1
    · rename_i h; rw [h0] at h; cases h
  · have h0 : isC (He.ga K "House") (dHouse K r ds) = true := isH_house
    have hs : sing K (dHouse K r ds) = (decide (r = 1) && decide ((ds.map dDoor).length = 1)) := by
      unfold sing
      rw [isH_house]; rfl
    repeat' (walk_at "hd1")
    · rename_i h; rw [h0] at h; cases h
    · rename_i h
      rw [hEP]; exact fin0 (by rw [hs]; simp_all)
    · rename_i h
      rw [hEP]; refine fin0 ?_
      rw [hs]
      have h2 : ¬ (ds.map dDoor).length = 1 := fun q => by rw [q] at h; cases h
      rw [decide_eq_false h2, Bool.and_false]
    · rename_i h2 h3 h4
      refine fin1 ?_
      have q1 : r = 1 := by simpa using h3
      have q2 : (ds.map dDoor).length = 1 := by simp only [Bool.not_eq_false', decide_eq_true_iff] at h4; omega
      rw [hs, decide_eq_true q1, decide_eq_true q2]; rfl
def preSA (K : PySem.W.Frag) : List D → Prop
  | [x, y] => hpl K x ∧ hpl K y
  | _ => False
def fSA (K : PySem.W.Frag) : List D → Out
  | [x, y] => if sing K x = true then (if sing K y = true then .ret false (.bl (aliB x y)) else .exc (He.ga K "BadSingle") [] []) else .exc (He.ga K "BadSingle") [] []
  | _ => .ret false .non
theorem sing_inv {K : PySem.W.Frag} {d : D} (h : hpl K d) (hs : sing K d = true) : ∃ a b, nz a ∧ nz b ∧ d = dHouse K 1 (one a b) := by
  rcases h with h | ⟨r, ds, O, rfl⟩
  · unfold sing isH at hs
    have h0 : isC (He.ga K "House") d = false := by cases d <;> first | rfl | cases h
    rw [h0] at hs; cases hs
  · have hs' : (isH K (dHouse K r ds) && (decide (r = 1) && decide ((ds.map dDoor).length = 1))) = true := hs
    simp only [Bool.and_eq_true, decide_eq_true_iff, List.length_map] at hs'
    obtain ⟨_, rfl, hl⟩ := hs'
    match ds, hl with
    | [d], _ =>
    obtain ⟨⟨h1, h2⟩, ⟨h3, h4⟩, h5, h6⟩ := O.dk d List.mem_cons_self
    obtain ⟨n, f, m, s⟩ := d
    dsimp only at h1 h2 h3 h4 h5 h6
    have e1 : n = 0 := by omega
    have e2 : m = 0 := by omega
    subst e1 e2
    exact ⟨f, s, h5, h6, rfl⟩
abbrev sp_single_alike (K : PySem.W.Frag) (Tt : List (Addr × Str)) : Sp := PD 2 (preSA K) (fSA K)
theorem ok_single_alike (T : Txt K mg) (Dd : Def K mg "single_alike" s_single_alike ["one", "other"])
    (C_need_single : Cal P w K mg base 1 "need_single" s_need_single ["house"] (sp_need_single K Tt)) :
    Cal P w K mg base 2 "single_alike" s_single_alike ["one", "other"] (sp_single_alike K Tt) := by
  refine Dd.ok sc_single_alike rfl stab0 fun f cdv A outer s H E hr => ⟨_, (pss_cons (ps_expr (pe_cal C_need_single (hr.mono (by decide)) passD (by rfl) (pa_cons (pv 0) pa_nil)))
    (pss_cons (ps_expr (pe_cal C_need_single (hr.mono (by decide)) passD (by rfl) (pa_cons (pv 1) pa_nil)))
    (pss_cons (ps_par (i := 2) (j := 3) rfl sc_single_alike.nd rfl rfl (by decide) rfl rfl (pa_cons (pe_ix (kI (r := rIxU) (ix_U (u1 hr)) (K := K) rfl) (pe_ix (kI (r := rIxU) (ix_U (u1 hr)) (K := K) rfl) (pe_fldK (K := K) rfl (pv 0) rfl) (pe_int) (fun _ _ => rfl)) (pe_int) (fun _ _ => rfl)) (pa_cons (pe_ix (kI (r := rIxU) (ix_U (u1 hr)) (K := K) rfl) (pe_ix (kI (r := rIxU) (ix_U (u1 hr)) (K := K) rfl) (pe_fldK (K := K) rfl (pv 0) rfl) (pe_int) (fun _ _ => rfl)) (pe_int) (fun _ _ => rfl)) pa_nil)) (by rfl))
    (pss_cons (ps_set (i := 4) sc_single_alike.nd rfl (by first | exact Or.inl rfl | exact Or.inr rfl) (pe_tup (pa_cons (pe_ix (kI (r := rIxU) (ix_U (u1 hr)) (K := K) rfl) (pe_ix (kI (r := rIxU) (ix_U (u1 hr)) (K := K) rfl) (pe_fldK (K := K) rfl (pv 1) rfl) (pe_int) (fun _ _ => rfl)) (pe_int) (fun _ _ => rfl)) (pa_cons (pe_ix (kI (r := rIxU) (ix_U (u1 hr)) (K := K) rfl) (pe_ix (kI (r := rIxU) (ix_U (u1 hr)) (K := K) rfl) (pe_fldK (K := K) rfl (pv 1) rfl) (pe_int) (fun _ _ => rfl)) (pe_int) (fun _ _ => rfl)) pa_nil))))
    (pss_one (ps_ret (pe_cmpR (kO (r := rInU) (op_inU hr) (K := K) rfl) (pv 4) (pe_tup (pa_cons (pe_tup (pa_cons (pv 2) (pa_cons (pv 3) pa_nil))) (pa_cons (pe_tup (pa_cons (pv 3) (pa_cons (pv 2) pa_nil))) (pa_cons (pe_tup (pa_cons (pe_op op_subU (pe_int) (pv 2)) (pa_cons (pe_op op_subU (pe_int) (pv 3)) pa_nil))) (pa_cons (pe_tup (pa_cons (pe_op op_subU (pe_int) (pv 3)) (pa_cons (pe_op op_subU (pe_int) (pv 2)) pa_nil))) pa_nil))))) (by rfl)))))))), ?_⟩
  rintro W n0 ds hV hG hE hEP hl hp
  match ds, hl, hp with
  | [x, y], _, ⟨p1, p2⟩ =>
  have cl := T.cl_House
  have fin : ∀ o, o = fSA K [x, y] → o = if sing K x = true then (if sing K y = true then Out.ret false (.bl (aliB x y)) else .exc (He.ga K "BadSingle") [] []) else .exc (He.ga K "BadSingle") [] [] := fun o h => h
  refine ds_seq (ds_drop (de_detE hE (da_cons (de_var rfl (da_nil ⟨rfl, p1, ?_⟩)))))
  show Outs _ _ (if sing K x = true then _ else _)
  by_cases h1 : sing K x = true
  · rw [if_pos h1]
    show DS _ _ _ _ _ _ _ _
    refine ds_seq (ds_drop (de_detE hE (da_cons (de_var rfl (da_nil ⟨rfl, p2, ?_⟩)))))
    show Outs _ _ (if sing K y = true then _ else _)
    by_cases h2 : sing K y = true
    · rw [if_pos h2]
      show DS _ _ _ _ _ _ _ _
      obtain ⟨a, b, _, _, rfl⟩ := sing_inv p1 h1
      obtain ⟨c, d, _, _, rfl⟩ := sing_inv p2 h2
      repeat' (walk_at "hd1")
      rename_i t ht
      show _ = (if sing K _ = true then (if sing K _ = true then _ else _) else _)
      rw [if_pos h1, if_pos h2]
      have e : t = aliB (dHouse K 1 (one a b)) (dHouse K 1 (one c d)) := by
        rw [Bool.eq_iff_iff, ht, ali_iff]
        simp [Ali]
      rw [e]
    · rw [if_neg h2]
      show W.EP _ _ _ _
      rw [hEP]
      show _ = (if sing K x = true then (if sing K y = true then _ else _) else _)
      rw [if_pos h1, if_neg h2]
  · rw [if_neg h1]
    show W.EP _ _ _ _
    rw [hEP]
    show _ = (if sing K x = true then (if sing K y = true then _ else _) else _)
    rw [if_neg h1]
def preNeedH (K : PySem.W.Frag) : List D → Prop
  | [d] => ph K d
  | _ => False
def fNeedH (K : PySem.W.Frag) : List D → Out
  | [d] => if isH K d = true then .ret false .non else .exc (He.ga K "BadHouse") [] []
  | _ => .ret false .non
abbrev sp_need_house (K : PySem.W.Frag) (Tt : List (Addr × Str)) : Sp := PD 1 (preNeedH K) (fNeedH K)
theorem ok_need_house (T : Txt K mg) (Dd : Def K mg "need_house" s_need_house ["house"]) :
    Cal P w K mg base 1 "need_house" s_need_house ["house"] (sp_need_house K Tt) := by
  refine Dd.ok sc_need_house rfl stab0 fun f cdv A outer s H E hr => ⟨_, (pss_one (ps_if (pt_not (pt_val (pe_callB (kC (r := rIsiU) call_isiU (K := K) rfl) (by rfl) T.b_isinstance bb_isinstance (pa_cons (pv 0) (pa_cons (pe_glob (v := .ref _) (by rfl) T.c_House rfl) pa_nil))))) (pss_one (ps_raise rfl (takes_of rfl rfl rfl rfl) (T.x_BadHouse.mk' (by rfl)))) pss_nil)), ?_⟩
  rintro W n0 ds hV hG hE hEP hl hp
  match ds, hl with
  | [d], _ =>
  have hp' : pc (He.ga K "House") d := hp
  have cl := T.cl_House
  repeat' (walk_at "hd1")
  · rename_i hb
    rw [hEP]
    show Out.exc _ [] [] = if isC (He.ga K "House") d = true then _ else _
    rw [if_neg (by simpa using hb)]
  · rename_i hb
    show Out.ret false .non = if isC (He.ga K "House") d = true then _ else _
    rw [if_pos (by simpa using hb)]
def preWith : List D → Prop
  | [d, i, e] => (∃ a b, d = .tup ((one a b).map dDoor)) ∧ i = .int 0 ∧ ∃ x, e = dDoor x
  | _ => False
def fWith : List D → Out
  | [_, _, e] => .ret false (.tup [e])
  | _ => .ret false .non
abbrev sp_with_door (K : PySem.W.Frag) (Tt : List (Addr × Str)) : Sp := PD 3 preWith fWith
theorem ok_with_door (T : Txt K mg) (Dd : Def K mg "with_door" s_with_door ["doors", "at", "door"]) :
    Cal P w K mg base 1 "with_door" s_with_door ["doors", "at", "door"] (sp_with_door K Tt) := by
  refine Dd.ok sc_with_door rfl stab0 fun f cdv A outer s H E hr => ⟨_, (pss_one (ps_ret (pe_op (kO (r := rAddU) op_addU (K := K) rfl) (pe_op (kO (r := rAddU) op_addU (K := K) rfl) (pe_slice (kS (r := rSlU) sl_U (K := K) rfl) (pv 0) po_none (po_some (pv 1))) (pe_tup (pa_cons (pv 2) pa_nil))) (pe_slice (kS (r := rSlU) sl_U (K := K) rfl) (pv 0) (po_some (pe_op (kO (r := rAddU) op_addU (K := K) rfl) (pv 1) (pe_int))) po_none)))), ?_⟩
  rintro W n0 ds hV hG hE hEP hl hp
  match ds, hl, hp with
  | [_, _, _], _, ⟨⟨a, b, rfl⟩, rfl, x, rfl⟩ =>
  repeat' (walk_at "hd1")
  rfl
def preTurned : List D → Prop
  | [d, i] => ∃ (ds : List Door) (r : Int), d = .tup (ds.map dDoor) ∧ i = .int r ∧ ds.length ≤ 1000
  | _ => False
def turnD (r : Int) (d : D) : D := match d with
  | .tup [.int n, .int f, .int m, .int s] => .tup [.int n, .int (if n = r then 0 - f else f), .int m, .int (if m = r then 0 - s else s)]
  | _ => .non
def fTurned : List D → Out
  | [.tup ds, .int r] => .ret false (.tup (ds.map (turnD r)))
  | _ => .ret false .non
abbrev sp_turned_doors (K : PySem.W.Frag) (Tt : List (Addr × Str)) : Sp := PD 2 preTurned fTurned
theorem ok_turned_doors (T : Txt K mg) (Dd : Def K mg "turned_doors" s_turned_doors ["doors", "room"]) :
    Cal P w K mg base 1 "turned_doors" s_turned_doors ["doors", "room"] (sp_turned_doors K Tt) := by
  refine Dd.ok sc_turned_doors rfl stab0 fun f cdv A outer s H E hr => ⟨_, (pss_cons (ps_set (i := 2) sc_turned_doors.nd rfl (by first | exact Or.inl rfl | exact Or.inr rfl) (pe_lst pa_nil))
    (pss_cons (ps_for passOwnU rfl (pi_seq (pv 0)) (pg_tup (n := 4) rfl (pgs_cons (pg_name (i := 3) sc_turned_doors.nd rfl (by first | exact Or.inl rfl | exact Or.inr rfl)) (pgs_cons (pg_name (i := 4) sc_turned_doors.nd rfl (by first | exact Or.inl rfl | exact Or.inr rfl)) (pgs_cons (pg_name (i := 5) sc_turned_doors.nd rfl (by first | exact Or.inl rfl | exact Or.inr rfl)) (pgs_cons (pg_name (i := 6) sc_turned_doors.nd rfl (by first | exact Or.inl rfl | exact Or.inr rfl)) pgs_nil))))) (pss_one (ps_expr (pe_bm PySem.F.plainAttrs_list PySem.F.slot_list_append PySem.F.type_list_append mt_append (pv 2) (pa_cons (pe_tup (pa_cons (pv 3) (pa_cons (pe_ifExp (pt_cmpR (kO (r := rEqD) (op_eqU hr) (K := K) rfl) (pv 3) (pv 1) (nomark _)) (pe_op op_subU (pe_int) (pv 4)) (pv 4)) (pa_cons (pv 5) (pa_cons (pe_ifExp (pt_cmpR (kO (r := rEqD) (op_eqU hr) (K := K) rfl) (pv 5) (pv 1) (nomark _)) (pe_op op_subU (pe_int) (pv 6)) (pv 6)) pa_nil))))) pa_nil)))))
    (pss_one (ps_ret (pe_callTy (kC (r := rTuple) call_tupleU (K := K) rfl) (by rfl) T.b_tuple bb_tuple (pa_cons (pv 2) pa_nil)))))), ?_⟩
  rintro W n0 ds hV hG hE hEP hl hp
  match ds, hl, hp with
  | [_, _], _, ⟨ds, r, rfl, rfl, hl2⟩ =>
  refine ds_seq (ds_own (df_lst (da_nil ⟨szl (by show 0 ≤ 100000; decide), ?_⟩)))
  refine ds_seq ?_
  refine ds_forR (LW := fun rs n ρ => ∃ (dn : List Door) (rd : List Door), rs = rd.map dDoor ∧ ds = dn ++ rd ∧ ρ = [some (false, .tup (ds.map dDoor)), some (false, .int r), some (true, .lst ((dn.map dDoor).map (turnD r))), none, none, none, none]) (di_seqT (de_var rfl ⟨_, rfl, _, Rfn.refl _, [], ds, rfl, rfl, rfl⟩)) ?_ ?_
  · rintro d rs n ρ' ⟨dn, rd, hr, hd, rfl⟩
    obtain ⟨dd, rd, rfl⟩ : ∃ dd rs', rd = dd :: rs' := by cases rd with
      | nil => cases hr
      | cons a b => exact ⟨a, b, rfl⟩
    simp only [List.map_cons, List.cons.injEq] at hr
    obtain ⟨rfl, rfl⟩ := hr
    have hsz : ((dn.map dDoor).map (turnD r)).length < sizeLine := by
      rw [List.length_map, List.length_map]
      have : dn.length ≤ ds.length := by rw [hd, List.length_append]; omega
      exact szlt (by omega)
    have fin : ∀ (f s : Int), f = (if dd.near = r then 0 - dd.first else dd.first) → s = (if dd.far = r then 0 - dd.second else dd.second) → (dn.map dDoor).map (turnD r) ++ [D.tup [.int dd.near, .int f, .int dd.far, .int s]] = ((dn ++ [dd]).map dDoor).map (turnD r) := fun f s h1 h2 => by
      subst h1 h2
      simp [turnD, dDoor]
    refine' dgx (dg_tup rfl ?_)
    repeat' (walk_at "hd1")
    all_goals
      rename_i h1 h2
      simp only [decide_eq_true_iff, decide_eq_false_iff_not] at h1 h2
      have e := fin _ _ rfl rfl
      first | rw [if_pos h1] at e | rw [if_neg h1] at e
      first | rw [if_pos h2] at e | rw [if_neg h2] at e
      refine ⟨hsz, _, ?_, dn ++ [dd], rd, rfl, by simp [hd], rfl⟩
      rw [← e]
      repeat' (walk_at "rfn")
  · rintro n ρ' ⟨dn, rd, hr, hd, rfl⟩
    have e0 : rd = [] := by cases rd with
      | nil => rfl
      | cons a b => cases hr
    subst e0
    rw [List.append_nil] at hd
    subst hd
    repeat' (walk_at "hd1")
    rfl
def preFits (K : PySem.W.Frag) : List D → Prop
  | [h, c] => (∃ a b, h = dHouse K 1 (one a b)) ∧ isTS c
  | _ => False
def fParts : List D → Out
  | [.ins _ _ [_, .tup [.tup [_, .int a, _, .int b]]], .tup [.str w, _]] => .ret false (.tup [.int 1, .tup ((if w == ("turn" : Str) then one (0 - a) (0 - b) else one b a).map dDoor)])
  | _ => .ret false .non
abbrev sp_parts_behind (K : PySem.W.Frag) (Tt : List (Addr × Str)) : Sp := PD 2 (preFits K) fParts
theorem ok_parts_behind (T : Txt K mg) (Dd : Def K mg "parts_behind" s_parts_behind ["house", "change"])
    (C_with_door : Cal P w K mg base 1 "with_door" s_with_door ["doors", "at", "door"] (sp_with_door K Tt))
    (C_folded_doors : Cal P w K mg base 1 "folded_doors" s_folded_doors ["doors", "at"] (spNever 2))
    (C_turned_doors : Cal P w K mg base 1 "turned_doors" s_turned_doors ["doors", "room"] (sp_turned_doors K Tt))
    (C_slid_door : Cal P w K mg base 1 "slid_door" s_slid_door ["house", "end", "over"] (spNever 3)) :
    Cal P w K mg base 2 "parts_behind" s_parts_behind ["house", "change"] (sp_parts_behind K Tt) := by
  refine Dd.ok sc_parts_behind rfl stab0 fun f cdv A outer s H E hr => ⟨_, (pss_cons (ps_par (i := 2) (j := 3) rfl sc_parts_behind.nd rfl rfl (by decide) rfl rfl (pa_cons (pe_ix (kI (r := rIxU) (ix_U (u1 hr)) (K := K) rfl) (pv 1) (pe_int) (fun _ _ => rfl)) (pa_cons (pe_ix (kI (r := rIxU) (ix_U (u1 hr)) (K := K) rfl) (pv 1) (pe_int) (fun _ _ => rfl)) pa_nil)) (by rfl))
    (pss_cons (ps_if (pt_cmpR (kO (r := rEqD) (op_eqU hr) (K := K) rfl) (pv 2) (pe_str) (nomark _)) (pss_one (ps_ret (pe_tup (pa_cons (pe_op op_subU (pe_fldK (K := K) rfl (pv 0) rfl) (pe_int)) (pa_cons (pe_cal C_folded_doors (hr.mono (by decide)) passD (by rfl) (pa_cons (pe_fldK (K := K) rfl (pv 0) rfl) (pa_cons (pv 3) pa_nil))) pa_nil))))) pss_nil)
    (pss_cons (ps_if (pt_cmpR (kO (r := rEqD) (op_eqU hr) (K := K) rfl) (pv 2) (pe_str) (nomark _)) (pss_one (ps_ret (pe_tup (pa_cons (pe_fldK (K := K) rfl (pv 0) rfl) (pa_cons (pe_cal C_with_door (hr.mono (by decide)) passD (by rfl) (pa_cons (pe_fldK (K := K) rfl (pv 0) rfl) (pa_cons (pe_ix (kI (r := rIxU) (ix_U (u1 hr)) (K := K) rfl) (pv 3) (pe_int) (fun _ _ => rfl)) (pa_cons (pe_cal C_slid_door (hr.mono (by decide)) passD (by rfl) (pa_cons (pv 0) (pa_cons (pv 3) (pa_cons (pe_ix (kI (r := rIxU) (ix_U (u1 hr)) (K := K) rfl) (pv 1) (pe_int) (fun _ _ => rfl)) pa_nil)))) pa_nil)))) pa_nil))))) pss_nil)
    (pss_cons (ps_if (pt_cmpR (kO (r := rEqD) (op_eqU hr) (K := K) rfl) (pv 2) (pe_str) (nomark _)) (pss_one (ps_ret (pe_tup (pa_cons (pe_fldK (K := K) rfl (pv 0) rfl) (pa_cons (pe_cal C_turned_doors (hr.mono (by decide)) passD (by rfl) (pa_cons (pe_fldK (K := K) rfl (pv 0) rfl) (pa_cons (pv 3) pa_nil))) pa_nil))))) pss_nil)
    (pss_cons (ps_if (pt_cmpR (kO (r := rEqD) (op_eqU hr) (K := K) rfl) (pv 2) (pe_str) (nomark _)) (pss_one (ps_ret (pe_tup (pa_cons (pe_op (kO (r := rAddU) op_addU (K := K) rfl) (pe_fldK (K := K) rfl (pv 0) rfl) (pe_int)) (pa_cons (pe_op (kO (r := rAddU) op_addU (K := K) rfl) (pe_fldK (K := K) rfl (pv 0) rfl) (pe_tup (pa_cons (pe_tup (pa_cons (pv 3) (pa_cons (pe_ix (kI (r := rIxU) (ix_U (u1 hr)) (K := K) rfl) (pv 1) (pe_int) (fun _ _ => rfl)) (pa_cons (pe_fldK (K := K) rfl (pv 0) rfl) (pa_cons (pe_ix (kI (r := rIxU) (ix_U (u1 hr)) (K := K) rfl) (pv 1) (pe_int) (fun _ _ => rfl)) pa_nil))))) pa_nil))) pa_nil))))) pss_nil)
    (pss_cons (ps_asg (pe_ix (kI (r := rIxU) (ix_U (u1 hr)) (K := K) rfl) (pe_fldK (K := K) rfl (pv 0) rfl) (pv 3) (fun _ _ => rfl)) (pg_tup (n := 4) rfl (pgs_cons (pg_name (i := 4) sc_parts_behind.nd rfl (by first | exact Or.inl rfl | exact Or.inr rfl)) (pgs_cons (pg_name (i := 5) sc_parts_behind.nd rfl (by first | exact Or.inl rfl | exact Or.inr rfl)) (pgs_cons (pg_name (i := 6) sc_parts_behind.nd rfl (by first | exact Or.inl rfl | exact Or.inr rfl)) (pgs_cons (pg_name (i := 7) sc_parts_behind.nd rfl (by first | exact Or.inl rfl | exact Or.inr rfl)) pgs_nil))))))
    (pss_one (ps_ret (pe_tup (pa_cons (pe_fldK (K := K) rfl (pv 0) rfl) (pa_cons (pe_cal C_with_door (hr.mono (by decide)) passD (by rfl) (pa_cons (pe_fldK (K := K) rfl (pv 0) rfl) (pa_cons (pv 3) (pa_cons (pe_tup (pa_cons (pv 6) (pa_cons (pv 7) (pa_cons (pv 4) (pa_cons (pv 5) pa_nil))))) pa_nil)))) pa_nil))))))))))), ?_⟩
  rintro W n0 ds hV hG hE hEP hl hp
  match ds, hl, hp with
  | [_, _], _, ⟨⟨a, b, rfl⟩, ht⟩ =>
  have cl := T.cl_House
  rcases ht with rfl | rfl
  · repeat' (walk_at "hd1")
    refine ⟨rfl, ⟨one a b, 0, rfl, rfl, Nat.le_of_ble_eq_true rfl⟩, _, _, rfl, ?_⟩
    repeat' (walk_at "hd1")
    rfl
  · repeat' (walk_at "hd1")
    refine ⟨rfl, ⟨⟨a, b, rfl⟩, rfl, ⟨0, b, 0, a⟩, rfl⟩, _, _, rfl, ?_⟩
    repeat' (walk_at "hd1")
    rfl
def fFits : List D → Out := fun _ => .ret false (.bl true)
abbrev sp_fits_change (K : PySem.W.Frag) (Tt : List (Addr × Str)) : Sp := PD 2 (preFits K) fFits
theorem ok_fits_change (T : Txt K mg) (Dd : Def K mg "fits_change" s_fits_change ["house", "thing"])
    (C_fits_fold : Cal P w K mg base 1 "fits_fold" s_fits_fold ["house", "at"] (spNever 2))
    (C_is_below : Cal P w K mg base 2 "is_below" s_is_below ["value", "size"] (sp_is_below K Tt))
    (C_is_number : Cal P w K mg base 1 "is_number" s_is_number ["value"] (sp_is_number K Tt))
    (C_fits_slide : Cal P w K mg base 1 "fits_slide" s_fits_slide ["house", "end", "over"] (spNever 3)) :
    Cal P w K mg base 3 "fits_change" s_fits_change ["house", "thing"] (sp_fits_change K Tt) := by
  refine Dd.ok sc_fits_change rfl stab0 fun f cdv A outer s H E hr => ⟨_, (pss_cons (ps_if (PW.pt (pw_or (pt_not (pt_val (pe_callB (kC (r := rIsiU) call_isiU (K := K) rfl) (by rfl) T.b_isinstance bb_isinstance (pa_cons (pv 1) (pa_cons (pe_bltn (v := .ty "tuple") (by rfl) T.b_tuple bb_tuple rfl) pa_nil))))) (pw_or (pt_cmpR op_ltU (pe_callB (kC (r := rLenU) call_lenU (K := K) rfl) (by rfl) T.b_len bb_len (pa_cons (pv 1) pa_nil)) (pe_int) (nomark _)) (pw_or1 (pt_not (pt_val (pe_callB (kC (r := rIsiU) call_isiU (K := K) rfl) (by rfl) T.b_isinstance bb_isinstance (pa_cons (pe_ix (kI (r := rIxU) (ix_U (u1 hr)) (K := K) rfl) (pv 1) (pe_int) (fun _ _ => rfl)) (pa_cons (pe_bltn (v := .ty "str") (by rfl) T.b_str bb_str rfl) pa_nil))))))))) (pss_one (ps_ret (pe_bl))) pss_nil)
    (pss_cons (ps_set (i := 2) sc_fits_change.nd rfl (by first | exact Or.inl rfl | exact Or.inr rfl) (pe_ix (kI (r := rIxU) (ix_U (u1 hr)) (K := K) rfl) (pv 1) (pe_int) (fun _ _ => rfl)))
    (pss_cons (ps_if (pt_cmpR (kO (r := rEqD) (op_eqU hr) (K := K) rfl) (pv 2) (pe_str) (nomark _)) (pss_cons (ps_if (PW.pt (pw_or (pt_cmpR (kO (r := rNeD) (op_neU hr) (K := K) rfl) (pe_callB (kC (r := rLenU) call_lenU (K := K) rfl) (by rfl) T.b_len bb_len (pa_cons (pv 1) pa_nil)) (pe_int) (nomark _)) (pw_or1 (pt_not (pt_val (pe_cal C_is_below (hr.mono (by decide)) passD (by rfl) (pa_cons (pe_ix (kI (r := rIxU) (ix_U (u1 hr)) (K := K) rfl) (pv 1) (pe_int) (fun _ _ => rfl)) (pa_cons (pe_fldK (K := K) rfl (pv 0) rfl) pa_nil)))))))) (pss_one (ps_ret (pe_bl))) pss_nil)
    (pss_one (ps_ret ((pe_and (pe_cal C_is_number (hr.mono (by decide)) passD (by rfl) (pa_cons (pe_ix (kI (r := rIxU) (ix_U (u1 hr)) (K := K) rfl) (pv 1) (pe_int) (fun _ _ => rfl)) pa_nil)) (pe_and (pe_cmpR (kO (r := rNeD) (op_neU hr) (K := K) rfl) (pe_ix (kI (r := rIxU) (ix_U (u1 hr)) (K := K) rfl) (pv 1) (pe_int) (fun _ _ => rfl)) (pe_int) (nomark _)) (pe_and (pe_cal C_is_number (hr.mono (by decide)) passD (by rfl) (pa_cons (pe_ix (kI (r := rIxU) (ix_U (u1 hr)) (K := K) rfl) (pv 1) (pe_int) (fun _ _ => rfl)) pa_nil)) (pe_one (pe_cmpR (kO (r := rInU) (op_inU hr) (K := K) rfl) (pe_ix (kI (r := rIxU) (ix_U (u1 hr)) (K := K) rfl) (pv 1) (pe_int) (fun _ _ => rfl)) (pe_glob (v := .ref _) (by rfl) T.g_UNITS rfl) (by rfl)))))))))) pss_nil)
    (pss_cons (ps_if (pt_cmpR (kO (r := rEqD) (op_eqU hr) (K := K) rfl) (pv 2) (pe_str) (nomark _)) (pss_one (ps_ret ((pe_and (pe_cmpR (kO (r := rEqD) (op_eqU hr) (K := K) rfl) (pe_callB (kC (r := rLenU) call_lenU (K := K) rfl) (by rfl) T.b_len bb_len (pa_cons (pv 1) pa_nil)) (pe_int) (nomark _)) (pe_one (pe_cal C_fits_slide (hr.mono (by decide)) passD (by rfl) (pa_cons (pv 0) (pa_cons (pe_ix (kI (r := rIxU) (ix_U (u1 hr)) (K := K) rfl) (pv 1) (pe_int) (fun _ _ => rfl)) (pa_cons (pe_ix (kI (r := rIxU) (ix_U (u1 hr)) (K := K) rfl) (pv 1) (pe_int) (fun _ _ => rfl)) pa_nil))))))))) pss_nil)
    (pss_cons (ps_if (pt_cmpR (kO (r := rNeD) (op_neU hr) (K := K) rfl) (pe_callB (kC (r := rLenU) call_lenU (K := K) rfl) (by rfl) T.b_len bb_len (pa_cons (pv 1) pa_nil)) (pe_int) (nomark _)) (pss_one (ps_ret (pe_bl))) pss_nil)
    (pss_cons (ps_if (pt_cmpR (kO (r := rEqD) (op_eqU hr) (K := K) rfl) (pv 2) (pe_str) (nomark _)) (pss_one (ps_ret (pe_cal C_fits_fold (hr.mono (by decide)) passD (by rfl) (pa_cons (pv 0) (pa_cons (pe_ix (kI (r := rIxU) (ix_U (u1 hr)) (K := K) rfl) (pv 1) (pe_int) (fun _ _ => rfl)) pa_nil))))) pss_nil)
    (pss_one (ps_ret ((pe_and (pe_cal C_is_below (hr.mono (by decide)) passD (by rfl) (pa_cons (pe_ix (kI (r := rIxU) (ix_U (u1 hr)) (K := K) rfl) (pv 1) (pe_int) (fun _ _ => rfl)) (pa_cons (pe_ifExp (pt_cmpR (kO (r := rEqD) (op_eqU hr) (K := K) rfl) (pv 2) (pe_str) (nomark _)) (pe_fldK (K := K) rfl (pv 0) rfl) (pe_callB (kC (r := rLenU) call_lenU (K := K) rfl) (by rfl) T.b_len bb_len (pa_cons (pe_fldK (K := K) rfl (pv 0) rfl) pa_nil))) pa_nil))) (pe_one (pe_cmpR (kO (r := rInU) (op_inU hr) (K := K) rfl) (pv 2) (pe_tup (pa_cons (pe_str) (pa_cons (pe_str) pa_nil))) (by rfl))))))))))))), ?_⟩
  rintro W n0 ds hV hG hE hEP hl hp
  match ds, hl, hp with
  | [_, _], _, ⟨⟨a, b, rfl⟩, ht⟩ =>
  have cl := T.cl_House
  rcases ht with rfl | rfl
  all_goals repeat' (walk_at "hd1")
  all_goals
    rename_i b0 hb0
    have : b0 = true := hb0.mpr (by simp)
    rw [this]; rfl
def preFits1 (K : PySem.W.Frag) : List D → Prop
  | [h, c] => (∃ a b, nz a ∧ nz b ∧ h = dHouse K 1 (one a b)) ∧ isTS c
  | _ => False
theorem nz_neg {a : Int} (h : nz a) : nz (0 - a) := by unfold nz at h ⊢; omega
abbrev sp_is_change_of (K : PySem.W.Frag) (Tt : List (Addr × Str)) : Sp := PD 2 (preFits1 K) fFits
theorem ok_is_change_of (T : Txt K mg) (Dd : Def K mg "is_change_of" s_is_change_of ["house", "thing"])
    (C_parts_behind : Cal P w K mg base 2 "parts_behind" s_parts_behind ["house", "change"] (sp_parts_behind K Tt))
    (C_fits_change : Cal P w K mg base 3 "fits_change" s_fits_change ["house", "thing"] (sp_fits_change K Tt))
    (C_are_doors : Cal P w K mg base 4 "are_doors" s_are_doors ["value", "rooms"] (sp_are_doors K Tt)) :
    Cal P w K mg base 5 "is_change_of" s_is_change_of ["house", "thing"] (sp_is_change_of K Tt) := by
  refine Dd.ok sc_is_change_of rfl stab0 fun f cdv A outer s H E hr => ⟨_, (pss_cons (ps_if (pt_not (pt_val (pe_cal C_fits_change (hr.mono (by decide)) passD (by rfl) (pa_cons (pv 0) (pa_cons (pv 1) pa_nil))))) (pss_one (ps_ret (pe_bl))) pss_nil)
    (pss_cons (ps_asg (pe_cal C_parts_behind (hr.mono (by decide)) passD (by rfl) (pa_cons (pv 0) (pa_cons (pv 1) pa_nil))) (pg_tup (n := 2) rfl (pgs_cons (pg_name (i := 2) sc_is_change_of.nd rfl (by first | exact Or.inl rfl | exact Or.inr rfl)) (pgs_cons (pg_name (i := 3) sc_is_change_of.nd rfl (by first | exact Or.inl rfl | exact Or.inr rfl)) pgs_nil))))
    (pss_one (ps_ret ((pe_and (pe_cmpR op_leU (pv 2) (pe_gint (by rfl) T.g_MOST_ROOMS) (nomark _)) (pe_one (pe_cal C_are_doors (hr.mono (by decide)) passD (by rfl) (pa_cons (pv 3) (pa_cons (pv 2) pa_nil)))))))))), ?_⟩
  rintro W n0 ds hV hG hE hEP hl hp
  match ds, hl, hp with
  | [_, _], _, ⟨⟨a, b, ha, hb, rfl⟩, ht⟩ =>
  have cl := T.cl_House
  have d1 := doors_b (one_ok (nz_neg ha) (nz_neg hb)).dk (one_ok (nz_neg ha) (nz_neg hb)).dl
  have d2 := doors_b (one_ok hb ha).dk (one_ok hb ha).dl
  have q1 : preDoors [.tup ((one (0 - a) (0 - b)).map dDoor), .int 1] := pre_doors (Nat.le_of_ble_eq_true rfl)
  have q2 : preDoors [.tup ((one b a).map dDoor), .int 1] := pre_doors (Nat.le_of_ble_eq_true rfl)
  have pf : preFits K [dHouse K 1 (one a b), .tup [.str "turn", .int 0]] := ⟨⟨a, b, rfl⟩, .inl rfl⟩
  have pf2 : preFits K [dHouse K 1 (one a b), .tup [.str "swap", .int 0]] := ⟨⟨a, b, rfl⟩, .inr rfl⟩
  rcases ht with rfl | rfl
  · repeat' (walk_at "hd1")
    exact congrArg (fun x => Out.ret false (.bl x)) d1
  · repeat' (walk_at "hd1")
    exact congrArg (fun x => Out.ret false (.bl x)) d2
def fBehind (K : PySem.W.Frag) : List D → Out
  | [.ins _ _ [_, .tup [.tup [_, .int a, _, .int b]]], .tup [.str w, _]] => .ret false (dHouse K 1 (if w == ("turn" : Str) then one (0 - a) (0 - b) else one b a))
  | _ => .ret false .non
abbrev sp_house_behind (K : PySem.W.Frag) (Tt : List (Addr × Str)) : Sp := PD 2 (preFits1 K) (fBehind K)
theorem ok_house_behind (T : Txt K mg) (Dd : Def K mg "house_behind" s_house_behind ["house", "change"])
    (C_parts_behind : Cal P w K mg base 2 "parts_behind" s_parts_behind ["house", "change"] (sp_parts_behind K Tt))
    (C_House : CalC P w K mg base 5 "House" "House.__init__" s_House_init ["rooms", "doors"] (He.ga K "House") (sp_House K Tt)) :
    Cal P w K mg base 7 "house_behind" s_house_behind ["house", "change"] (sp_house_behind K Tt) := by
  refine Dd.ok sc_house_behind rfl stab0 fun f cdv A outer s H E hr => ⟨_, (pss_cons (ps_asg (pe_cal C_parts_behind (hr.mono (by decide)) passD (by rfl) (pa_cons (pv 0) (pa_cons (pv 1) pa_nil))) (pg_tup (n := 2) rfl (pgs_cons (pg_name (i := 2) sc_house_behind.nd rfl (by first | exact Or.inl rfl | exact Or.inr rfl)) (pgs_cons (pg_name (i := 3) sc_house_behind.nd rfl (by first | exact Or.inl rfl | exact Or.inr rfl)) pgs_nil))))
    (pss_one (ps_ret (pe_mk C_House (hr.mono (by decide)) passD (by rfl) (pa_cons (pv 2) (pa_cons (pv 3) pa_nil)))))), ?_⟩
  rintro W n0 ds hV hG hE hEP hl hp
  match ds, hl, hp with
  | [_, _], _, ⟨⟨a, b, ha, hb, rfl⟩, ht⟩ =>
  have pf : preFits K [dHouse K 1 (one a b), .tup [.str "turn", .int 0]] := ⟨⟨a, b, rfl⟩, .inl rfl⟩
  have pf2 : preFits K [dHouse K 1 (one a b), .tup [.str "swap", .int 0]] := ⟨⟨a, b, rfl⟩, .inr rfl⟩
  rcases ht with rfl | rfl
  · repeat' (walk_at "hd1")
    refine ⟨rfl, ⟨1, one (0 - a) (0 - b), rfl, rfl, one_ok (nz_neg ha) (nz_neg hb)⟩, _, _, rfl, ?_⟩
    rfl
  · repeat' (walk_at "hd1")
    refine ⟨rfl, ⟨1, one b a, rfl, rfl, one_ok hb ha⟩, _, _, rfl, ?_⟩
    rfl
def preHB (K : PySem.W.Frag) : List D → Prop
  | [h, c] => ∃ (a b : Int) (cs : List D), nz a ∧ nz b ∧ h = dHouse K 1 (one a b) ∧ c = .lst cs ∧ cs.length ≤ 30 ∧ ∀ d ∈ cs, isTS d
  | _ => False
def RHB (K : PySem.W.Frag) : List D → Out → Prop
  | [h, c], o => ∀ (a b : Int), h = dHouse K 1 (one a b) → ∃ (f : Bool) (l : List D) (u v : Int), o = .ret f (.lst (l ++ [dHouse K 1 (one u v)])) ∧ nz u ∧ nz v ∧ Ali a b u v
  | _, _ => False
theorem one_inj {K : PySem.W.Frag} {a b c d : Int} (h : dHouse K 1 (one a b) = dHouse K 1 (one c d)) : a = c ∧ b = d := by
  simp [dHouse, one, dDoor] at h
  exact h
theorem atI_neg1 {l : List D} {x : D} : atI (l ++ [x]) (-1) = some x := by
  unfold atI ixN
  have e : (-1 + ((l.length : Int) + 1)).toNat = l.length := by omega
  simp
  rw [if_pos (by omega)]
  show (l ++ [x])[(-1 + ((l.length : Int) + 1)).toNat]? = some x
  rw [e]; simp
abbrev sp_houses_behind (K : PySem.W.Frag) (Tt : List (Addr × Str)) : Sp := PR 2 (preHB K) (RHB K)
theorem ok_houses_behind (T : Txt K mg) (Dd : Def K mg "houses_behind" s_houses_behind ["house", "changes"])
    (C_is_change_of : Cal P w K mg base 5 "is_change_of" s_is_change_of ["house", "thing"] (sp_is_change_of K Tt))
    (C_house_behind : Cal P w K mg base 7 "house_behind" s_house_behind ["house", "change"] (sp_house_behind K Tt)) :
    Cal P w K mg base 8 "houses_behind" s_houses_behind ["house", "changes"] (sp_houses_behind K Tt) := by
  refine Dd.ok sc_houses_behind rfl stab0 fun f cdv A outer s H E hr => ⟨_, (pss_cons (ps_if (PW.pt (pw_or (pt_not (pt_val (pe_callB (kC (r := rIsiT) call_isiT (K := K) rfl) (by rfl) T.b_isinstance bb_isinstance (pa_cons (pv 1) (pa_cons (pe_tup (pa_cons (pe_bltn (v := .ty "list") (by rfl) T.b_list bb_list rfl) (pa_cons (pe_bltn (v := .ty "tuple") (by rfl) T.b_tuple bb_tuple rfl) pa_nil))) pa_nil))))) (pw_or1 (pt_cmpR op_gtU (pe_callB (kC (r := rLenU) call_lenU (K := K) rfl) (by rfl) T.b_len bb_len (pa_cons (pv 1) pa_nil)) (pe_gint (by rfl) T.g_MOST_CHANGES) (nomark _))))) (pss_one (ps_never)) pss_nil)
    (pss_cons (ps_set (i := 2) sc_houses_behind.nd rfl (by first | exact Or.inl rfl | exact Or.inr rfl) (pe_lst (pa_cons (pv 0) pa_nil)))
    (pss_cons (ps_for passOwnU rfl (pi_seq (pv 1)) (pg_name (i := 3) sc_houses_behind.nd rfl (by first | exact Or.inl rfl | exact Or.inr rfl)) (pss_cons (ps_if (pt_not (pt_val (pe_cal C_is_change_of (hr.mono (by decide)) passD (by rfl) (pa_cons (pe_ix (kI (r := rIxU) (ix_U (u1 hr)) (K := K) rfl) (pv 2) (pe_un un_neg (pe_int)) (fun _ _ => rfl)) (pa_cons (pv 3) pa_nil))))) (pss_one (ps_never)) pss_nil)
    (pss_one (ps_expr (pe_bm PySem.F.plainAttrs_list PySem.F.slot_list_append PySem.F.type_list_append mt_append (pv 2) (pa_cons (pe_cal C_house_behind (hr.mono (by decide)) passD (by rfl) (pa_cons (pe_ix (kI (r := rIxU) (ix_U (u1 hr)) (K := K) rfl) (pv 2) (pe_un un_neg (pe_int)) (fun _ _ => rfl)) (pa_cons (pv 3) pa_nil))) pa_nil))))))
    (pss_one (ps_ret (pv 2)))))), ?_⟩
  rintro W n0 ds hV hG hE hEP hl hp
  match ds, hl, hp with
  | [_, _], _, ⟨a, b, cs, ha, hb, rfl, rfl, hl2, hts⟩ =>
  repeat' (walk_at "hd1")
  · exact ds_never (by rename_i h; have := of_decide_eq_true h; omega)
  refine ds_forR (LW := fun rs n ρ => (∀ d ∈ rs, isTS d) ∧ ∃ (l : List D) (u v : Int), nz u ∧ nz v ∧ Ali a b u v ∧ l.length + rs.length ≤ 1000 ∧ ρ = [some (false, dHouse K 1 (one a b)), some (false, .lst cs), some (true, .lst (l ++ [dHouse K 1 (one u v)])), none]) (di_seqL (de_var rfl ⟨_, rfl, _, Rfn.refl _, hts, [], a, b, ha, hb, .inl ⟨rfl, rfl⟩, by show 0 + _ ≤ _; omega, rfl⟩)) ?_ ?_
  · rintro d rs n ρ' ⟨hts2, l, u, v, hu, hv, hA, hlen, rfl⟩
    have pf : preFits1 K [dHouse K 1 (one u v), d] := ⟨⟨u, v, hu, hv, rfl⟩, hts2 d List.mem_cons_self⟩
    have hts3 : ∀ d ∈ rs, isTS d := fun x hx => hts2 x (List.mem_cons_of_mem _ hx)
    have hs : (l ++ [dHouse K 1 (one u v)]).length < sizeLine := szlt (by simp only [List.length_append, List.length_cons, List.length_nil] at hlen ⊢; omega)
    repeat' (walk_at "hd1")
    refine r_ixL atI_neg1 ?_
    repeat' (walk_at "hd1")
    refine r_ixL atI_neg1 ?_
    rcases hts2 d List.mem_cons_self with rfl | rfl
    · repeat' (walk_at "hd1")
      refine ⟨hs, _, Rfn.keep (Rfn.keep (Rfn.keep (Rfn.skip Rfn.nil))), hts3, l ++ [dHouse K 1 (one u v)], 0 - u, 0 - v, nz_neg hu, nz_neg hv, ?_, by simp only [List.length_append, List.length_cons, List.length_nil] at hlen ⊢; omega, rfl⟩
      unfold Ali at hA ⊢; omega
    · repeat' (walk_at "hd1")
      refine ⟨hs, _, Rfn.keep (Rfn.keep (Rfn.keep (Rfn.skip Rfn.nil))), hts3, l ++ [dHouse K 1 (one u v)], v, u, hv, hu, ?_, by simp only [List.length_append, List.length_cons, List.length_nil] at hlen ⊢; omega, rfl⟩
      unfold Ali at hA ⊢; omega
  · rintro n ρ' ⟨_, l, u, v, hu, hv, hA, hlen, rfl⟩
    refine ds_ret_own rfl ?_
    intro a' b' e
    obtain ⟨rfl, rfl⟩ := one_inj e
    exact ⟨true, l, u, v, rfl, hu, hv, hA⟩
def RCh (K : PySem.W.Frag) : List D → Out → Prop
  | [h, c], o => ∀ (a b : Int), h = dHouse K 1 (one a b) → ∃ (f : Bool) (u v : Int), o = .ret f (dHouse K 1 (one u v)) ∧ nz u ∧ nz v ∧ Ali a b u v
  | _, _ => False
abbrev sp_changed_by (K : PySem.W.Frag) (Tt : List (Addr × Str)) : Sp := PR 2 (preHB K) (RCh K)
theorem ok_changed_by (T : Txt K mg) (Dd : Def K mg "changed_by" s_changed_by ["house", "changes"])
    (C_need_house : Cal P w K mg base 1 "need_house" s_need_house ["house"] (sp_need_house K Tt))
    (C_houses_behind : Cal P w K mg base 8 "houses_behind" s_houses_behind ["house", "changes"] (sp_houses_behind K Tt)) :
    Cal P w K mg base 9 "changed_by" s_changed_by ["house", "changes"] (sp_changed_by K Tt) := by
  refine Dd.ok sc_changed_by rfl stab0 fun f cdv A outer s H E hr => ⟨_, (pss_cons (ps_expr (pe_cal C_need_house (hr.mono (by decide)) passD (by rfl) (pa_cons (pv 0) pa_nil)))
    (pss_one (ps_ret (pe_ix (kI (r := rIxU) (ix_U (u1 hr)) (K := K) rfl) (pe_cal C_houses_behind (hr.mono (by decide)) passD (by rfl) (pa_cons (pv 0) (pa_cons (pv 1) pa_nil))) (pe_un un_neg (pe_int)) (fun _ _ => rfl))))), ?_⟩
  rintro W n0 ds hV hG hE hEP hl hp
  match ds, hl, hp with
  | [_, _], _, ⟨a, b, cs, ha, hb, rfl, rfl, hl2, hts⟩ =>
  have hh : fNeedH K [dHouse K 1 (one a b)] = .ret false .non := by
    show (if isH K _ = true then _ else _) = _
    rw [if_pos isH_house]
  have ph' : preNeedH K [dHouse K 1 (one a b)] := ph_house
  repeat' (walk_at "hd1")
  refine ⟨rfl, ⟨a, b, cs, ha, hb, rfl, rfl, hl2, hts⟩, fun o ho => ?_⟩
  obtain ⟨f, l, u, v, rfl, hu, hv, hA⟩ := ho a b rfl
  refine ⟨_, _, rfl, ?_⟩
  repeat' (walk_at "hd1")
  refine r_ixL atI_neg1 ?_
  intro a' b' e
  obtain ⟨rfl, rfl⟩ := one_inj e
  exact ⟨false, u, v, rfl, hu, hv, hA⟩
end
section
variable {P : Program} {w : World} {K : PySem.W.Frag} {mg : Str → Option Value} {base : Heap} {Tt : List (Addr × Str)} {c Pt : Addr}
end
/-- what the draws ask of the module's names -/
structure Txd (mg : Str → Option Value) : Prop where
  b_len : mg "len" = none
  b_int : mg "int" = none
  b_abs : mg "abs" = none

/-! ### the draws -/
section
variable {P : Program} {w : World} {K : PySem.W.Frag} {mg : Str → Option Value} {base : Heap} {Tt : List (Addr × Str)}
theorem ok__law_begun (T : Txd mg) (Dd : Def K mg "_law_begun" s__law_begun ["_law_script"]) : Cal P w K mg base 1 "_law_begun" s__law_begun ["_law_script"] (spBegun K) := by
  refine Dd.raw sc__law_begun (fun vs H Q E ⟨a, ns, h, _⟩ => by rw [h]; rfl) fun f cdv A outer s H vs Q E hr hq => ⟨_, (pss_cons (ps_setLc (i := 1) (own := [("_law_cell", 2)]) rfl sc__law_begun.nd rfl rfl (sw_true rfl rfl rfl (by decide +kernel)) (pi_seq (pv 0)) (blkOk_by (own := [("_law_cell", 2)]) (N := ["_law_script", "_law_great", "_law_cell"]) (sc := defScope s__law_begun) (by decide +kernel)) (fun _ _ _ _ _ => (pg_name (i := 2) sc__law_begun.nd rfl (by first | exact Or.inl rfl | exact Or.inr rfl))) (fun _ _ _ _ _ => (pts_one (pt_cmpR op_geU (pe_callB call_absU (by rfl) T.b_abs bb_abs (pa_cons (pv 2) pa_nil)) (pe_op op_powU (pe_int) (pe_int)) (nomark _)))) (fun _ _ _ _ _ => (pe_op op_subU (pe_callB call_absU (by rfl) T.b_abs bb_abs (pa_cons (pv 2) pa_nil)) (pe_op op_powU (pe_int) (pe_int)))))
    (pss_one (ps_ret (pe_disp (pps_cons (pe_str) (pv 1) (pps_cons (pe_str) (pe_lc (own := [("_law_cell", 2)]) rfl sc__law_begun.nd (pi_seq (pv 0)) (blkOk_by (own := [("_law_cell", 2)]) (N := ["_law_script", "_law_great", "_law_cell"]) (sc := defScope s__law_begun) (by decide +kernel)) (fun _ _ _ _ _ => (pg_name (i := 2) sc__law_begun.nd rfl (by first | exact Or.inl rfl | exact Or.inr rfl))) (fun _ _ _ _ _ => pts_nil) (fun _ _ _ _ _ => (pe_callB call_absU (by rfl) T.b_abs bb_abs (pa_cons (pv 2) pa_nil)))) (pps_cons (pe_str) (pe_int) (pps_cons (pe_str) (pe_int) pps_nil)))) (by rfl) (by rfl) (fun z => by cases z) (by decide))))), ?_⟩
  obtain ⟨a, ns, rfl, hsq, hl, q⟩ := hq
  obtain ⟨tr, hs⟩ := scr_of hsq
  have e0 : Env (Wscr K tr a (ns.map .int) H E hs) 0 [] [] [some (false, .raw a), none, none] (L2.start ["_law_script", "_law_great", "_law_cell"] [.ref a]) H :=
    env_slots ⟨.raw a, trivial⟩ (fun _ _ h _ => h) hs
  have pw : ((10 : Int) ^ (18 : Int).toNat) = 1000000000000000000 := by decide
  refine (show DS (tAsg _ _) (Wscr K tr a (ns.map .int) H E hs) 0 [some (false, .raw a), none, none] (fun _ ρ => ∃ gr : List Int, (∀ x ∈ gr, 0 ≤ x) ∧ ρ = [some (false, .raw a), some (true, .lst (gr.map D.int)), none]) (fun _ _ _ => False) (fun _ _ => False) (fun _ _ => False) from ds_own ?c1) [] [] _ H e0 _ ⟨fun n ρ σ H1 hN e => ?_, fun _ _ _ _ h => h.elim, fun _ _ _ _ _ h => h.elim, fun _ _ _ _ h => h.elim, fun _ _ _ _ h => h.elim⟩
  case c1 =>
    refine df_lc (noOwn_by rfl) in_self (di_script (ns := ns) (fun n H h => Scr.sq h) (de_var rfl ⟨rfl, fun i _ acc => acc.length ≤ i ∧ i ≤ ns.length ∧ ∃ gr : List Int, (∀ x ∈ gr, 0 ≤ x) ∧ acc = gr.map D.int, ⟨Nat.le_refl _, Nat.zero_le _, [], (fun _ h => nomatch h), rfl⟩, fun i n d acc hd ⟨h1, h2, gr, h3, h4⟩ => dg_name ?_, fun n acc ⟨_, _, gr, h3, h4⟩ => ⟨gr, h3, by rw [h4]; rfl⟩⟩))
    rw [List.getElem?_map] at hd
    obtain ⟨z, hz, rfl⟩ := Option.map_eq_some_iff.mp hd
    have hi : i < ns.length := (List.getElem?_eq_some_iff.mp hz).1
    repeat' (walk_at "hd1")
    · rename_i hb
      rw [pw] at hb
      have hb2 := of_decide_eq_true hb
      refine ⟨szlt (by omega), by rw [List.length_append]; simpa using h1, hi, gr ++ [(if z < 0 then -z else z) - (10 : Int) ^ (18 : Int).toNat], fun x hx => ?_, by rw [h4, List.map_append]; rfl⟩
      rcases List.mem_append.mp hx with hx | hx
      · exact h3 x hx
      · have : x = (if z < 0 then -z else z) - (10 : Int) ^ (18 : Int).toNat := by simpa using hx
        rw [this, pw]; omega
    · exact ⟨by omega, hi, gr, h3, h4⟩
  obtain ⟨gr, hgr, rfl⟩ := hN
  obtain ⟨g, o, hg, hgH, hob, hg0, _⟩ := e.ow 1 _ rfl
  cases hob with
  | @lst xs _ hall =>
  have hx := all_ints hall
  subst hx
  intro p hp
  refine ⟨_, hg, ?_⟩
  have e1 := e.lay (o := .dK []) hp
  dsimp only [tPairs, tC]
  refine (show DF _ (Wscr K tr a (ns.map .int) H E hs) n [some (false, .raw a), some (true, .lst (gr.map D.int)), none] (fun _ d => ∃ zs : List Int, d = .lst (zs.map D.int)) from ?c2) [(p, .dK [])] [] σ _ e1 _ fun n2 c oc d H2 ⟨zs, hd⟩ e2 ho => ?_
  case c2 =>
    refine df_lc_each (fun _ y => ∃ z, y = D.int z) (noOwn_by rfl) (di_script (ns := ns) (fun n H h => Scr.sq h) (de_var rfl ⟨rfl, szl (by rw [List.length_map]; omega), fun n1 d hd => dg_name ?_, fun n1 ys h => ?_⟩)) in_self
    · obtain ⟨z, hz, rfl⟩ := List.mem_map.mp hd
      repeat' (walk_at "hd1")
      exact ⟨_, rfl⟩
    · obtain ⟨zs, rfl⟩ := each_ints h
      exact ⟨zs, rfl⟩
  subst hd
  cases ho with
  | @lst xc _ hall2 =>
  have hx := all_ints hall2
  subst hx
  obtain ⟨g', o', hg', hgH', hob', _, hgz⟩ := e2.ow 1 _ rfl
  rw [hg] at hg'; cases hg'
  cases hob' with
  | @lst xg _ hall3 =>
  have hx := all_ints hall3
  subst hx
  have zc := e2.z (c, .lst (zs.map .int)) List.mem_cons_self
  have zp := e2.z (p, .dK []) (List.mem_cons_of_mem _ List.mem_cons_self)
  have npc : p ≠ c := fun z => by have h1 := zc.1; have h2 := zp.1; rw [← z] at h1; have h1 : H2 p = some (.lst (zs.map .int)) := h1; rw [h2] at h1; cases h1
  have ngp : g ≠ p := fun z => hgz ⟨.dK [], by rw [z]; exact List.mem_cons_of_mem _ List.mem_cons_self⟩
  have ngc : g ≠ c := fun z => hgz ⟨_, by rw [z]; exact List.mem_cons_self⟩
  refine ⟨zp.1, [(.inr "great", .ref g), (.inr "cells", .ref c), (.inr "left", .int 0), (.inr "turn", .int 0)], rfl, (by show 4 ≤ 15; decide), ?_⟩
  have q := q p g c gr zs (upd H2 p (.dK (stK g c 0 0))) hgr zp.2 hg0 zc.2 (Ne.symm ngp) npc ngc upd_same (by rw [upd_ne ngp]; exact hgH') (by rw [upd_ne (Ne.symm npc)]; exact zc.1) fun b o hb => by
    rw [upd_ne (fun z => by have h2 : H p = none := zp.2; rw [z, h2] at hb; cases hb)]
    exact hs.keep e2.g e2.fr b o hb
  rw [merge_st]
  exact q
theorem ok__law_blended (T : Txd mg) (Dd : Def K mg "_law_blended" s__law_blended ["_law_state"]) : Cal P w K mg base 1 "_law_blended" s__law_blended ["_law_state"] spBlend := by
  refine Dd.raw sc__law_blended (fun vs H Q E ⟨s, g, c, cells, left, turn, h, _⟩ => by rw [h]; rfl) fun f cdv A outer s H vs Q E hr hq => ⟨_, (pss_cons (ps_par (i := 1) (j := 2) rfl sc__law_blended.nd rfl rfl (by decide) rfl rfl (pa_cons (pe_op (kO (r := rAddU) op_addU (K := K) rfl) (pe_ix (ix_U (u1 hr)) (pv 0) (pe_str) (fun _ _ => rfl)) (pe_int)) (pa_cons (pe_int) pa_nil)) (by rfl))
    (pss_cons (ps_dput (u1 hr) (pv 0) (pe_str) (pv 1) rfl)
    (pss_cons (ps_for passOwnU rfl (pi_seq (pe_lst (pa_cons (pe_int) (pa_cons (pe_int) (pa_cons (pe_int) pa_nil))))) (pg_name (i := 3) sc__law_blended.nd rfl (by first | exact Or.inl rfl | exact Or.inr rfl)) (pss_cons (ps_set (i := 4) sc__law_blended.nd rfl (by first | exact Or.inl rfl | exact Or.inr rfl) (pe_op (kO (r := rAddU) op_addU (K := K) rfl) (pe_op (kO (r := rMulU) op_mulU (K := K) rfl) (pe_int) (pv 1)) (pe_op op_fdivU (pv 3) (pe_int))))
    (pss_cons (ps_for passOwnU rfl (pi_seq (pe_ix (ix_U (u1 hr)) (pv 0) (pe_str) (fun _ _ => rfl))) (pg_name (i := 5) sc__law_blended.nd rfl (by first | exact Or.inl rfl | exact Or.inr rfl)) (pss_one (ps_set (i := 4) sc__law_blended.nd rfl (by first | exact Or.inl rfl | exact Or.inr rfl) (pe_op op_modU (pe_callTy call_intU (by rfl) T.b_int bb_int (pa_cons (pe_op (kO (r := rAddU) op_addU (K := K) rfl) (pe_op (kO (r := rAddU) op_addU (K := K) rfl) (pe_op (kO (r := rMulU) op_mulU (K := K) rfl) (pv 4) (pe_int)) (pv 5)) (pv 1)) pa_nil)) (pv 3)))))
    (pss_one (ps_set (i := 2) sc__law_blended.nd rfl (by first | exact Or.inl rfl | exact Or.inr rfl) (pe_op (kO (r := rAddU) op_addU (K := K) rfl) (pe_op (kO (r := rMulU) op_mulU (K := K) rfl) (pv 2) (pe_int)) (pe_op op_modU (pe_callTy call_intU (by rfl) T.b_int bb_int (pa_cons (pe_op op_powU (pv 4) (pe_int)) pa_nil)) (pv 3))))))))
    (pss_one (ps_ret (pv 2)))))), ?_⟩
  obtain ⟨st, g, c, cells, left, turn, rfl, hst, hc, t0, t1, q⟩ := hq
  -- turn, found = state['turn'] + 1, 0; state['turn'] = turn
  refine ⟨_, rfl, .inr ⟨st, .int turn, rfl, .inl ⟨_, .inr "turn", .inl hst, rfl, st_turn.symm⟩, .inl ⟨turn, 1, rfl, rfl, ⟨_, _, rfl, ⟨_, rfl, ⟨_, rfl, ⟨st, _, rfl, .inl ⟨_, .inr "turn", hst, rfl, (by show 4 < sizeLine; exact szlt (by decide)), rfl⟩, ?_⟩⟩⟩⟩⟩⟩⟩
  rw [put_turn]
  have hne : c ≠ st := fun z => by rw [z, hst] at hc; cases hc
  have e0 : Env (Wq (upd H st (.dK (stK g c left (turn + 1)))) E) 0 [] [] [some (false, .dic [.inr "great", .inr "cells", .inr "left", .inr "turn"] [.raw g, .lst (cells.map D.int), .int left, .int (turn + 1)]), some (false, .int (turn + 1)), some (false, .int 0), none, none, none] [some (.ref st), some (.int (turn + 1)), some (.int 0), none, none, none] (upd H st (.dK (stK g c left (turn + 1)))) :=
    env_slots ⟨.dic (fun h => h) upd_same rfl (.cons (.raw g) (.cons (.lst (fun h => h) (by rw [upd_ne hne]; exact hc) ints_all) (.cons (.int left) (.cons (.int (turn + 1)) .nil)))), .int (turn + 1), .int 0, trivial⟩ (fun _ _ h _ => h) True.intro
  dsimp only
  refine (show DS (tSeq (tFor _ _ _) (tRet _)) (Wq (upd H st (.dK (stK g c left (turn + 1)))) E) 0 [some (false, .dic [.inr "great", .inr "cells", .inr "left", .inr "turn"] [.raw g, .lst (cells.map D.int), .int left, .int (turn + 1)]), some (false, .int (turn + 1)), some (false, .int 0), none, none, none] (fun _ _ => False) (fun _ b d => b = false ∧ ∃ v, d = .int v ∧ 0 ≤ v) (fun _ _ => False) (fun _ _ => False) from ?c1) [] [] _ _ e0 _ ⟨fun _ _ _ _ h => h.elim, fun _ v d H' ⟨_, z, hd, hz⟩ f _ i => ?_, fun _ _ _ _ _ ⟨h, _⟩ => (by cases h), fun _ _ _ _ h => h.elim, fun _ _ _ _ h => h.elim⟩
  case c1 =>
    refine ds_seq ?_
    refine ds_for (S := [3]) (di_seqL (DF.de (df_lst ?_)))
    refine da_cons (de_int (da_cons (de_int (da_cons (de_int (da_nil ⟨szl (by show 3 ≤ 100000; decide), _, rfl, fun _ _ ρ => ∃ (f : Int) (x3 x4 x5 : Option (Bool × D)), 0 ≤ f ∧ ρ = [some (false, .dic [.inr "great", .inr "cells", .inr "left", .inr "turn"] [.raw g, .lst (cells.map D.int), .int left, .int (turn + 1)]), some (false, .int (turn + 1)), some (false, .int f), x3, x4, x5], ?_, ?_, ?_⟩))))))
    · exact ⟨0, _, _, _, Int.le_refl _, rfl⟩
    · rintro i n d ρ' hd ⟨f, x3, x4, x5, hf, rfl⟩
      have hp : ∃ pr : Int, d = .int pr ∧ 2147483000 < pr ∧ pr < 2147484000 := by
        rcases i with _ | _ | _ | i
        · cases hd; exact ⟨_, rfl, by decide, by decide⟩
        · cases hd; exact ⟨_, rfl, by decide, by decide⟩
        · cases hd; exact ⟨_, rfl, by decide, by decide⟩
        · simp at hd
      obtain ⟨pr, rfl, p1, p2⟩ := hp
      repeat' (walk_at "hd1")
      refine r_fdiv (c_divN (by decide) (by decide)) ?_
      repeat' (walk_at "hd1")
      refine ds_for (S := [5]) (di_seqL (de_op (de_var rfl (de_str (r_ixD (k := .inr "cells") rfl rfl ⟨_, rfl, fun _ _ ρ => ∃ (b : Int) (x5 : Option (Bool × D)), b.natAbs < 2 ^ 64 ∧ ρ = [some (false, .dic [.inr "great", .inr "cells", .inr "left", .inr "turn"] [.raw g, .lst (cells.map D.int), .int left, .int (turn + 1)]), some (false, .int (turn + 1)), some (false, .int f), some (false, .int pr), some (false, .int b), x5], ?_, ?_, ?_⟩)))))
      · refine ⟨_, _, ?_, rfl⟩
        have h1 : (0 : Int) ≤ pr.fdiv 61 := by rw [Int.fdiv_eq_ediv_of_nonneg _ (by decide)]; omega
        have h2 : pr.fdiv 61 ≤ 2147484000 := by rw [Int.fdiv_eq_ediv_of_nonneg _ (by decide)]; omega
        omega
      · rintro i n d ρ' hd ⟨b, x5, hb, rfl⟩
        rw [List.getElem?_map] at hd
        obtain ⟨z, hz, rfl⟩ := Option.map_eq_some_iff.mp hd
        repeat' (walk_at "hd1")
        refine r_mod (by omega) ?_
        refine ⟨_, _, ?_, rfl⟩
        have h1 := Int.fmod_nonneg_of_pos (b * 69621 + z + (turn + 1)) (show 0 < pr by omega)
        have h2 := Int.fmod_lt_of_pos (b * 69621 + z + (turn + 1)) (show 0 < pr by omega)
        omega
      · rintro n ρ' ⟨b, x5, hb, rfl⟩
        repeat' (walk_at "hd1")
        refine r_pow ⟨by decide, by decide, hb⟩ ?_
        repeat' (walk_at "hd1")
        refine r_mod (by omega) ?_
        repeat' (walk_at "hd1")
        refine ⟨_, _, _, _, ?_, rfl⟩
        have h1 := Int.fmod_nonneg_of_pos (b ^ (5 : Int).toNat) (show 0 < pr by omega)
        omega
    · rintro n ρ' ⟨f, x3, x4, x5, hf, rfl⟩
      exact ds_ret (de_var rfl ⟨rfl, f, rfl, hf⟩)
  subst hd
  cases i
  exact q z H' hz (f st _ upd_same (fun h => h)) fun b o hb ho => f b o (by show upd H st _ b = some o; rw [upd_ne hb]; exact ho) (fun h => h)
theorem ok__law_draw (T : Txd mg) (Dd : Def K mg "_law_draw" s__law_draw ["_law_state", "_law_size_here"]) (C__law_blended : Cal P w K mg base 1 "_law_blended" s__law_blended ["_law_state"] spBlend) : Cal P w K mg base 2 "_law_draw" s__law_draw ["_law_state", "_law_size_here"] (spDraw K Tt) := by
  refine Dd.raw sc__law_draw (fun vs H Q E ⟨L, q⟩ => prm_len q) fun f cdv A outer s H vs Q E hr hq => ⟨_, (pss_cons (ps_if (pt_cmpR (kO (r := rEqD) (op_eqU hr) (K := K) rfl) (pe_ix (ix_U (u1 hr)) (pv 0) (pe_str) (fun _ _ => rfl)) (pe_int) (nomark _)) (pss_one (ps_dput (u1 hr) (pv 0) (pe_str) (pe_ifExp (pt_cmpR (kO (r := rNeD) (op_neU hr) (K := K) rfl) (pe_ix (ix_U (u1 hr)) (pv 0) (pe_str) (fun _ _ => rfl)) (pe_lst pa_nil) (nomark _)) (pe_bm PySem.F.plainAttrs_list PySem.F.slot_list_pop PySem.F.type_list_pop mt_popAt (pe_ix (ix_U (u1 hr)) (pv 0) (pe_str) (fun _ _ => rfl)) (pa_cons (pe_int) pa_nil)) (pe_cal C__law_blended (hr.mono (by decide)) passD (by rfl) (pa_cons (pv 0) pa_nil))) rfl)) pss_nil)
    (pss_cons (ps_set (i := 2) sc__law_draw.nd rfl (by first | exact Or.inl rfl | exact Or.inr rfl) (pe_op op_modU (pe_callTy call_intU (by rfl) T.b_int bb_int (pa_cons (pe_ix (ix_U (u1 hr)) (pv 0) (pe_str) (fun _ _ => rfl)) pa_nil)) (pv 1)))
    (pss_cons (ps_dput (u1 hr) (pv 0) (pe_str) (pe_op op_fdivU (pe_ix (ix_U (u1 hr)) (pv 0) (pe_str) (fun _ _ => rfl)) (pv 1)) rfl)
    (pss_one (ps_ret (pv 2)))))), ?_⟩
  obtain ⟨L, X, ds, n, hVX, hX, ⟨⟨gr, left, turn, g1, g2, g3, g4, g5, g6, g7⟩, hsc, hta, ngc, nga⟩, hi, hl, ⟨hc, size, rfl, h0, hsz⟩, k1, k2, k3⟩ := hq
  cases hi with
  | cons i1 t =>
  cases t with
  | cons i2 t =>
  cases t
  cases i1
  cases i2
  have nsg : L.g ≠ L.s := fun z => by rw [z, g1] at g2; cases g2
  have nsc : L.c ≠ L.s := fun z => by rw [z, g1] at g3; cases g3
  refine draw_head (K := K) (E := E) (D := { nx := tailTS K { nx := fun _ H' => Q .non H', rt := Q }, rt := Q }) g1 g2 g3 ngc g4 g5 g6 (by omega) fun left1 turn1 gr1 H1 q1 q2 q3 q4 q5 q6 q7 q8 => ?_
  refine draw_tail q1 h0 hsz ?_
  have fr : Frm L.V H (upd H1 L.s (.dK (stK L.g L.c (left1.fdiv size) turn1))) := fun b o hb hv => by
    have b1 : b ≠ L.s := fun z => hv (.inl z)
    have b2 : b ≠ L.g := fun z => hv (.inr (.inl z))
    rw [upd_ne b1]
    exact q8 b o b1 b2 hb
  have kp : ∀ b o, b ≠ L.s → b ≠ L.g → H b = some o → (upd H1 L.s (.dK (stK L.g L.c (left1.fdiv size) turn1))) b = some o := fun b o b1 b2 hb => by
    rw [upd_ne b1]
    exact q8 b o b1 b2 hb
  refine k1 (n - 1) (.int (left1.fmod size)) (.int (left1.fmod size)) _ ⟨by omega, false, _, rfl, ⟨_, rfl, rfl, Int.fmod_nonneg_of_pos _ h0, fun sz e => ?_⟩⟩ fr ⟨⟨gr1, left1.fdiv size, turn1, upd_same, by rw [upd_ne nsg]; exact q2, by rw [upd_ne nsc]; exact q3, ?_, q5, by omega, by omega⟩, ?_, fun p hp => ?_, ngc, nga⟩ (.int _)
  · have e2 : size = sz := by simpa using e
    rw [← e2]
    exact Int.fmod_lt_of_pos _ h0
  · rw [Int.fdiv_eq_ediv_of_nonneg _ (Int.le_of_lt h0)]
    exact Int.ediv_nonneg q4 (Int.le_of_lt h0)
  · rcases hsc with ⟨tr, h⟩ | ⟨tr, ⟨o, h⟩ | h⟩
    · exact .inl ⟨tr, kp _ _ (fun z => by rw [z, g1] at h; cases h) (nga tr) h⟩
    · exact .inr ⟨tr, .inl ⟨o, kp _ _ (fun z => by rw [z, g1] at h; cases h) (fun z => by rw [z, g2] at h; cases h) h⟩⟩
    · exact .inr ⟨tr, .inr h⟩
  · obtain ⟨ps, e1, e2, e3⟩ := hta p hp
    refine ⟨ps, kp _ _ (fun z => by rw [z, g1] at e1; cases e1) (fun z => by rw [z, g2] at e1; cases e1) e1, e2, fun pos cv hcv => ?_⟩
    obtain ⟨c', e4, e5⟩ := e3 pos cv hcv
    exact ⟨c', e4, kp _ _ (fun z => by rw [z, g1] at e5; cases e5) (fun z => by rw [z, g2] at e5; cases e5) e5⟩
theorem ok__law_pick (T : Txd mg) (Dd : Def K mg "_law_pick" s__law_pick ["_law_state", "_law_several"]) (C__law_draw : Cal P w K mg base 2 "_law_draw" s__law_draw ["_law_state", "_law_size_here"] (spDraw K Tt)) : Cal P w K mg base 3 "_law_pick" s__law_pick ["_law_state", "_law_several"] (spPick K Tt) := by
  refine Dd.okL sc__law_pick rfl fun f cdv A outer s H E hr => ⟨_, (pss_one (ps_ret (pe_ix (ix_U (u1 hr)) (pv 1) (pe_cal C__law_draw (hr.mono (by decide)) passD (by rfl) (pa_cons (pv 0) (pa_cons (pe_callB (kC (r := rLenU) call_lenU (K := K) rfl) (by rfl) T.b_len bb_len (pa_cons (pv 1) pa_nil)) pa_nil))) (fun _ _ => rfl)))), ?_⟩
  rintro L W n ds hV hG hE hl hc ⟨l, e, h1, h2⟩
  rcases e with rfl | rfl
  all_goals
    repeat' (walk_at "hd1")
    refine ⟨by omega, ?_, hc, fun n' k h3 h4 h5 => ?_⟩
    · refine Nat.lt_of_le_of_lt (show _ ≤ 2 ^ 40 by omega) (Nat.pow_lt_pow_right (by decide) (by decide))
    · obtain ⟨d, hd, hm⟩ := atI_mem h4 h5
      first | refine r_ixL hd ?_ | refine r_ixT hd ?_
      refine ⟨h3, rfl, fun l' e => ?_⟩
      have e2 : l = l' := by simpa using e
      rw [← e2]
      exact hm
end

/-! ### errors caught -/
theorem caught_gives {X : Cx} {q : Str} {g CS : Addr} {cdg : Value} (hm : X.mg "PullError" = some (.ref CS)) : LamX.GivesTo X ["_law_work", "_law_caught_here", "error"] "_law_caught" (defScope s__law_caught) g cdg (defBody s__law_caught) "_law_work" q (TCaught X.K CS) := by
  intro f c' s H Q tl act hc h
  refine ⟨_, pss_cons (ps_set (i := 1) sc__law_caught.nd rfl (by first | exact Or.inl rfl | exact Or.inr rfl) pe_non) (pss_cons (ps_try_keep (i := 2) (c := .ref CS)
      (tb := fun W D σ H => ∃ Ech : XK, (∀ cls d σ' H', Ech cls d H' → W cls d σ' H') ∧ σ[0]? = some (some (.ref f)) ∧ H c' = some (LamX.CodeO c' q) ∧ tl Ech H fun _ H' => D.nx σ H')
      rfl rfl rfl sc__law_caught.nd rfl rfl ⟨rfl, rfl, .inl hm⟩ (fun W pn xe tk _ => ?_) (fun a oe cls d pn _ _ => pss_one (ps_set (i := 1) sc__law_caught.nd rfl (by first | exact Or.inl rfl | exact Or.inr rfl) (pv 2)))) (pss_one (ps_ret (pv 1)))), ?_⟩
  · refine ⟨fun pins s' σ H' D I ⟨Ech, hW, h1, h2, h3⟩ => ?_⟩
    exact (pss_one (ps_expr (act W pn xe Ech _ _ tk hW))).run pins s' σ H' D I ⟨h1, h2, h3⟩
  · refine ⟨fun cls d H' => ∃ C : Addr, cls = .ref C ∧ PySem.W.exmOne X.K cls (.ref CS) = some true ∧ ∀ a, H' a = none → Q (.ref a) (upd H' a (excH a C d)), fun cls d σ' H' ⟨C, e1, e2, e3⟩ => ⟨C, e1, e2, fun a hl ha => ?_⟩, rfl, hc, ?_⟩
    · match σ', hl with
      | [x, y, z], _ => exact ⟨_, rfl, ⟨_, rfl, e3 a ha⟩⟩
    · have e : (fun (_ : L2.V) (H' : Hp) => tRet (tVar 1) { nx := fun _ H' => Q .non H', rt := Q } [some (L2.V.ref f), some .non, none] H') = fun _ H' => Q .non H' := by
        funext v H'
        exact propext ⟨fun ⟨v, e1, e2⟩ => by cases e1; exact e2, fun h => ⟨_, rfl, h⟩⟩
      show tl _ H (fun _ H' => tRet (tVar 1) { nx := fun _ H' => Q .non H', rt := Q } [some (L2.V.ref f), some .non, none] H')
      rw [e]
      exact h

section
variable {P : Program} {w : World} {K : PySem.W.Frag} {mg : Str → Option Value} {base : Heap} {Tt : List (Addr × Str)} {c Pt : Addr}
abbrev sp__law_begun (K : PySem.W.Frag) (Tt : List (Addr × Str)) : Sp := spBegun K
abbrev sp__law_draw (K : PySem.W.Frag) (Tt : List (Addr × Str)) : Sp := spDraw K Tt
abbrev sp__law_pick (K : PySem.W.Frag) (Tt : List (Addr × Str)) : Sp := spPick K Tt
def big (i : Int) : Prop := i.natAbs < 2 ^ 200
def stPre {K : PySem.W.Frag} {Tt : List (Addr × Str)} (L : LP K Tt) (ds : List D) : Prop := ds = [.raw L.s]
/-- 1 to 12, of either sign -/
def szOk (i : Int) : Prop := i ≠ 0 ∧ -12 ≤ i ∧ i ≤ 12
def sizeR {K : PySem.W.Frag} {Tt : List (Addr × Str)} (_ : LP K Tt) (_ : List D) (b : Bool) (d : D) : Prop := b = false ∧ ∃ i, d = .int i ∧ szOk i
abbrev sp__law_size (K : PySem.W.Frag) (Tt : List (Addr × Str)) : Sp := spL K Tt 1 10 stPre sizeR
theorem ok__law_size (T : Txt K mg) (Dd : Def K mg "_law_size" s__law_size ["_law_state"])
    (C__law_pick : Cal P w K mg base 3 "_law_pick" s__law_pick ["_law_state", "_law_several"] (sp__law_pick K Tt)) :
    Cal P w K mg base 4 "_law_size" s__law_size ["_law_state"] (sp__law_size K Tt) := by
  refine Dd.okL sc__law_size rfl fun f cdv A outer s H E hr => ⟨_, (pss_cons (ps_set (i := 1) sc__law_size.nd rfl (by first | exact Or.inl rfl | exact Or.inr rfl) (pe_cal C__law_pick (hr.mono (by decide)) passD (by rfl) (pa_cons (pv 0) (pa_cons (pe_lst (pa_cons (pe_int) (pa_cons (pe_int) (pa_cons (pe_int) (pa_cons (pe_int) (pa_cons (pe_int) (pa_cons (pe_int) (pa_cons (pe_int) (pa_cons (pe_int) (pa_cons (pe_int) (pa_cons (pe_int) (pa_cons (pe_int) (pa_cons (pe_int) pa_nil))))))))))))) pa_nil))))
    (pss_one (ps_ret (pe_op (kO (r := rMulU) op_mulU (K := K) rfl) (pv 1) (pe_cal C__law_pick (hr.mono (by decide)) passD (by rfl) (pa_cons (pv 0) (pa_cons (pe_lst (pa_cons (pe_int) (pa_cons (pe_int) (pa_cons (pe_int) (pa_cons (pe_un un_neg (pe_int)) pa_nil))))) pa_nil))))))), ?_⟩
  rintro L W n ds hV hG hE hl hc hp
  cases hp
  repeat' (walk_at "hd1")
  rename_i n1 d1 a1 hm1 n2 d2 a2 hm2
  have e1 : ∃ i, d1 = .int i ∧ 1 ≤ i ∧ i ≤ 12 := by
    simp only [List.mem_cons, List.not_mem_nil, or_false] at hm1
    rcases hm1 with rfl | rfl | rfl | rfl | rfl | rfl | rfl | rfl | rfl | rfl | rfl | rfl
    all_goals exact ⟨_, rfl, by decide, by decide⟩
  have e2 : d2 = .int 1 ∨ d2 = .int (-1) := by
    simp only [List.mem_cons, List.not_mem_nil, or_false] at hm2
    rcases hm2 with rfl | rfl | rfl | rfl
    all_goals first | exact .inl rfl | exact .inr rfl
  obtain ⟨i, rfl, h1, h2⟩ := e1
  rcases e2 with rfl | rfl
  all_goals
    refine r_mul (c_smallL (by omega)) ⟨by omega, rfl, _, rfl, ?_⟩
    unfold szOk
    omega
def preTr : List D → Prop
  | [.bl _, .bl _] => True
  | _ => False
def fTr : List D → Out
  | [.bl f, .bl d] => .ret false (.bl (if d = true then f else !f))
  | _ => .ret false .non
theorem tr_self (b : Bool) : (if b = true then b else !b) = true := by cases b <;> rfl
abbrev sp__law_is_truth (K : PySem.W.Frag) (Tt : List (Addr × Str)) : Sp := PD 2 preTr fTr
theorem ok__law_is_truth (T : Txt K mg) (Dd : Def K mg "_law_is_truth" s__law_is_truth ["_law_found", "_law_due"]) :
    Cal P w K mg base 1 "_law_is_truth" s__law_is_truth ["_law_found", "_law_due"] (sp__law_is_truth K Tt) := by
  refine Dd.ok sc__law_is_truth rfl stab0 fun f cdv A outer s H E hr => ⟨_, (pss_one (ps_ret (pe_ifExp (pt_val (pv 1)) (pe_cmpR op_isU (pv 0) (pe_bl) (nomark _)) (pe_cmpR op_isU (pv 0) (pe_bl) (nomark _))))), ?_⟩
  rintro W n0 ds hV hG hE hEP hl hp
  match ds, hl, hp with
  | [.bl a, .bl d], _, _ =>
  cases d <;> cases a <;> repeat' (walk_at "hd1")
  all_goals rfl
end
section
variable {P : Program} {w : World} {K : PySem.W.Frag} {mg : Str → Option Value} {base : Heap} {Tt : List (Addr × Str)} {c Pt : Addr}
theorem sz_nz {x : Int} (h : szOk x) : nz x := by unfold szOk at h; unfold nz; omega
theorem ok_1 : HouseOk 1 [] := ⟨by decide, by decide, by decide, (fun _ h => nomatch h), fun x h1 h2 => by
  have : x = 0 := by omega
  rw [this]; exact .zero⟩
theorem ok_2 : HouseOk 2 [⟨0, 1, 1, 2⟩] := ⟨by decide, by decide, by decide, fun d hd => by
  have : d = ⟨0, 1, 1, 2⟩ := by simpa using hd
  subst this
  unfold doorOk; decide, fun x h1 h2 => by
  by_cases h : x = 0
  · rw [h]; exact .zero
  · have : x = 1 := by omega
    rw [this]
    exact .step .zero ⟨_, List.mem_cons_self, .inl ⟨rfl, rfl⟩⟩⟩
theorem ok_3 : HouseOk 1 [⟨0, 1, 0, 2⟩, ⟨0, 1, 0, 2⟩] := ⟨by decide, by decide, by decide, fun d hd => by
  have : d = ⟨0, 1, 0, 2⟩ := by simpa using hd
  subst this
  unfold doorOk; decide, fun x h1 h2 => by
  have : x = 0 := by omega
  rw [this]; exact .zero⟩
abbrev sp_law (K : PySem.W.Frag) (Tt : List (Addr × Str)) : Sp := spLaw K Tt
theorem ok_law (T : Txt K mg) (Dd : DefC K mg "law" s_law ["_law_script"] c) (Dc : Def K mg "_law_caught" s__law_caught ["_law_work"]) (TB : LamX.TabB base mg c Pt) (mem : (Pt, ("law.<locals>.<lambda>" : Str)) ∈ Tt) (only : ∀ p ∈ Tt, p.1 = Pt → p.2 = ("law.<locals>.<lambda>" : Str))
    (C__law_begun : Cal P w K mg base 1 "_law_begun" s__law_begun ["_law_script"] (sp__law_begun K Tt))
    (C_House : CalC P w K mg base 5 "House" "House.__init__" s_House_init ["rooms", "doors"] (He.ga K "House") (sp_House K Tt))
    (C__law_pick : Cal P w K mg base 3 "_law_pick" s__law_pick ["_law_state", "_law_several"] (sp__law_pick K Tt))
    (C__law_size : Cal P w K mg base 4 "_law_size" s__law_size ["_law_state"] (sp__law_size K Tt))
    (C_single_alike : Cal P w K mg base 2 "single_alike" s_single_alike ["one", "other"] (sp_single_alike K Tt))
    (C_changed_by : Cal P w K mg base 9 "changed_by" s_changed_by ["house", "changes"] (sp_changed_by K Tt))
    (C__law_is_truth : Cal P w K mg base 1 "_law_is_truth" s__law_is_truth ["_law_found", "_law_due"] (sp__law_is_truth K Tt))
    (C__law_draw : Cal P w K mg base 2 "_law_draw" s__law_draw ["_law_state", "_law_size_here"] (sp__law_draw K Tt)) :
    Cal P w K mg base 10 "law" s_law ["_law_script"] (sp_law K Tt) := by
  have CK_single_alike_0_other_one := C_single_alike.kw 0 ["other", "one"] [1, 0] (fun _ _ _ _ _ _ us ws h1 h2 => match us, ws, h1, h2 with | [], [_, _], _, _ => rfl)
  refine Dd.raw sc_law (fun vs H Q E ⟨a, ns, h, _⟩ => by rw [h]; rfl) fun f A outer s H vs Q E hr hq => ?_
  have M_caught : LamD (cxD P w K mg base ["_law_script", "_law_state", "_law_turn", "_law_first", "_law_second", "_law_house_here", "_law_some", "_law_near", "_law_item", "_law_later", "_law_row", "_law_lap", "_law_pair", "_law_bad"] "law" s_law f (.ref c) A outer s H E) Tt "_law_caught" "_law_work" c Pt (TCaught K (He.ga K "PullError")) :=
    LamD.of Dc sc__law_caught rfl (Or.inl rfl) (fun g cdv => caught_gives T.c_PullError) TB rfl mem only
  refine ⟨_, (pss_cons (ps_set (i := 1) sc_law.nd rfl (by first | exact Or.inl rfl | exact Or.inr rfl) (pe_cal C__law_begun (hr.mono (by decide)) passD (by rfl) (pa_cons (pv 0) pa_nil)))
    (pss_cons (ps_for passOwnU rfl (pi_range1 (by rfl) T.b_range (pa_cons (pe_op (kO (r := rAddU) op_addU (K := K) rfl) (pe_int) (pe_callB (call_min2U rfl) (by rfl) T.b_min bb_min (pa_cons (pe_callB (kC (r := rLenU) call_lenU (K := K) rfl) (by rfl) T.b_len bb_len (pa_cons (pv 0) pa_nil)) (pa_cons (pe_int) pa_nil)))) pa_nil)) (pg_name (i := 2) sc_law.nd rfl (by first | exact Or.inl rfl | exact Or.inr rfl)) (pss_cons (ps_par (i := 3) (j := 4) rfl sc_law.nd rfl rfl (by decide) rfl rfl (pa_cons (pe_cal C__law_size (hr.mono (by decide)) passD (by rfl) (pa_cons (pv 1) pa_nil)) (pa_cons (pe_op (kO (r := rMulU) op_mulU (K := K) rfl) (pe_cal C__law_size (hr.mono (by decide)) passD (by rfl) (pa_cons (pv 1) pa_nil)) (pe_cal C__law_pick (hr.mono (by decide)) passD (by rfl) (pa_cons (pv 1) (pa_cons (pe_lst (pa_cons (pe_int) (pa_cons (pe_int) (pa_cons (pe_int) (pa_cons (pe_un un_neg (pe_int)) pa_nil))))) pa_nil)))) pa_nil)) (by rfl))
    (pss_cons (ps_set (i := 5) sc_law.nd rfl (by first | exact Or.inl rfl | exact Or.inr rfl) (pe_mk C_House (hr.mono (by decide)) passD (by rfl) (pa_cons (pe_int) (pa_cons (pe_tup (pa_cons (pe_tup (pa_cons (pe_int) (pa_cons (pv 3) (pa_cons (pe_int) (pa_cons (pv 4) pa_nil))))) pa_nil)) pa_nil))))
    (pss_cons (ps_set (i := 6) sc_law.nd rfl (by first | exact Or.inl rfl | exact Or.inr rfl) (pe_lst (pa_cons (pe_tup (pa_cons (pv 3) (pa_cons (pv 4) pa_nil))) (pa_cons (pe_tup (pa_cons (pv 4) (pa_cons (pv 3) pa_nil))) (pa_cons (pe_tup (pa_cons (pe_op op_subU (pe_int) (pv 3)) (pa_cons (pe_op op_subU (pe_int) (pv 4)) pa_nil))) (pa_cons (pe_tup (pa_cons (pe_op op_subU (pe_int) (pv 4)) (pa_cons (pe_op op_subU (pe_int) (pv 3)) pa_nil))) pa_nil))))))
    (pss_cons (ps_set (i := 7) sc_law.nd rfl (by first | exact Or.inl rfl | exact Or.inr rfl) (pe_op (kO (r := rAddU) op_addU (K := K) rfl) (pv 6) (pe_lst (pa_cons (pe_tup (pa_cons (pv 3) (pa_cons (pe_op op_subU (pe_int) (pv 4)) pa_nil))) (pa_cons (pe_tup (pa_cons (pe_op op_subU (pe_int) (pv 3)) (pa_cons (pv 4) pa_nil))) (pa_cons (pe_tup (pa_cons (pe_op (kO (r := rAddU) op_addU (K := K) rfl) (pv 3) (pe_op op_fdivU (pe_int) (pe_op (kO (r := rAddU) op_addU (K := K) rfl) (pe_callB call_absU (by rfl) T.b_abs bb_abs (pa_cons (pv 3) pa_nil)) (pe_int)))) (pa_cons (pv 4) pa_nil))) pa_nil))))))
    (pss_cons (ps_set (i := 7) sc_law.nd rfl (by first | exact Or.inl rfl | exact Or.inr rfl) (pe_op (kO (r := rAddU) op_addU (K := K) rfl) (pv 7) (pe_lst (pa_cons (pe_tup (pa_cons (pv 4) (pa_cons (pe_op op_subU (pe_int) (pv 3)) pa_nil))) (pa_cons (pe_tup (pa_cons (pv 3) (pa_cons (pv 3) pa_nil))) (pa_cons (pe_tup (pa_cons (pe_cal C__law_size (hr.mono (by decide)) passD (by rfl) (pa_cons (pv 1) pa_nil)) (pa_cons (pe_cal C__law_size (hr.mono (by decide)) passD (by rfl) (pa_cons (pv 1) pa_nil)) pa_nil))) pa_nil))))))
    (pss_cons (ps_for passOwnU rfl (pi_seq (pv 7)) (pg_name (i := 8) sc_law.nd rfl (by first | exact Or.inl rfl | exact Or.inr rfl)) (pss_one (ps_if (PW.pt (pw_and (pt_chain op_ltU op_ltU (pe_int) (pe_callB call_absU (by rfl) T.b_abs bb_abs (pa_cons (pe_ix (kI (r := rIxU) (ix_U (u1 hr)) (K := K) rfl) (pv 8) (pe_int) (fun _ _ => rfl)) pa_nil)) (pe_int)) (pw_and1 (pt_chain op_ltU op_ltU (pe_int) (pe_callB call_absU (by rfl) T.b_abs bb_abs (pa_cons (pe_ix (kI (r := rIxU) (ix_U (u1 hr)) (K := K) rfl) (pv 8) (pe_int) (fun _ _ => rfl)) pa_nil)) (pe_int))))) (pss_cons (ps_set (i := 9) sc_law.nd rfl (by first | exact Or.inl rfl | exact Or.inr rfl) (pe_mk C_House (hr.mono (by decide)) passD (by rfl) (pa_cons (pe_int) (pa_cons (pe_tup (pa_cons (pe_tup (pa_cons (pe_int) (pa_cons (pe_ix (kI (r := rIxU) (ix_U (u1 hr)) (K := K) rfl) (pv 8) (pe_int) (fun _ _ => rfl)) (pa_cons (pe_int) (pa_cons (pe_ix (kI (r := rIxU) (ix_U (u1 hr)) (K := K) rfl) (pv 8) (pe_int) (fun _ _ => rfl)) pa_nil))))) pa_nil)) pa_nil))))
    (pss_cons (ps_if (pt_not (pt_val (pe_cal C__law_is_truth (hr.mono (by decide)) passD (by rfl) (pa_cons (pe_calK0 CK_single_alike_0_other_one (hr.mono (by decide)) passD (by rfl) (pk_cons (pv 9) (pk_cons (pv 5) pk_nil))) (pa_cons (pe_cmpR (kO (r := rInU) (op_inU hr) (K := K) rfl) (pv 8) (pv 6) (by rfl)) pa_nil))))) (pss_one (ps_ret (pe_bl))) pss_nil)
    (pss_one (ps_if (pt_not (pt_val (pe_cal C__law_is_truth (hr.mono (by decide)) passD (by rfl) (pa_cons (pe_cal C_single_alike (hr.mono (by decide)) passD (by rfl) (pa_cons (pv 9) (pa_cons (pv 5) pa_nil))) (pa_cons (pe_cmpR (kO (r := rInU) (op_inU hr) (K := K) rfl) (pv 8) (pv 6) (by rfl)) pa_nil))))) (pss_one (ps_ret (pe_bl))) pss_nil)))) pss_nil)))
    (pss_cons (ps_setLc (i := 10) (own := [("_law_lap", 11)]) rfl sc_law.nd rfl rfl (sw_true rfl rfl rfl (by decide +kernel)) (pi_range1 (by rfl) T.b_range (pa_cons (pe_cal C__law_draw (hr.mono (by decide)) passD (by rfl) (pa_cons (pv 1) (pa_cons (pe_int) pa_nil))) pa_nil)) (blkOk_by (own := [("_law_lap", 11)]) (N := ["_law_script", "_law_state", "_law_turn", "_law_first", "_law_second", "_law_house_here", "_law_some", "_law_near", "_law_item", "_law_later", "_law_row", "_law_lap", "_law_pair", "_law_bad"]) (sc := defScope s_law) (by decide +kernel)) (fun _ _ _ _ _ => (pg_name (i := 11) sc_law.nd rfl (by first | exact Or.inl rfl | exact Or.inr rfl))) (fun _ _ _ _ _ => pts_nil) (fun _ _ _ _ _ => (pe_cal C__law_pick (hr.mono (by decide)) passL (by rfl) (pa_cons (pv 1) (pa_cons (pe_lst (pa_cons (pe_tup (pa_cons (pe_str) (pa_cons (pe_int) pa_nil))) (pa_cons (pe_tup (pa_cons (pe_str) (pa_cons (pe_int) pa_nil))) pa_nil))) pa_nil)))))
    (pss_cons (ps_if (pt_cmpR op_isnU (pe_cal C_single_alike (hr.mono (by decide)) passD (by rfl) (pa_cons (pv 5) (pa_cons (pe_cal C_changed_by (hr.mono (by decide)) passD (by rfl) (pa_cons (pv 5) (pa_cons (pv 10) pa_nil))) pa_nil))) (pe_bl) (nomark _)) (pss_one (ps_ret (pe_bl))) pss_nil)
    (pss_cons (ps_set (i := 12) sc_law.nd rfl (by first | exact Or.inl rfl | exact Or.inr rfl) (pe_tup (pa_cons (pe_int) (pa_cons (pe_int) (pa_cons (pe_int) (pa_cons (pe_int) pa_nil))))))
    (pss_cons (ps_set (i := 10) sc_law.nd rfl (by first | exact Or.inl rfl | exact Or.inr rfl) (pe_tup (pa_cons (pe_tup (pa_cons (pe_int) (pa_cons (pe_int) (pa_cons (pe_int) (pa_cons (pe_int) pa_nil))))) pa_nil)))
    (pss_cons (ps_set (i := 13) sc_law.nd rfl (by first | exact Or.inl rfl | exact Or.inr rfl) (pe_cal C__law_pick (hr.mono (by decide)) passD (by rfl) (pa_cons (pv 1) (pa_cons (pe_lst (pa_cons (pe_non) (pa_cons (pe_int) (pa_cons (pe_mk C_House (hr.mono (by decide)) passD (by rfl) (pa_cons (pe_int) (pa_cons (pe_tup pa_nil) pa_nil))) (pa_cons (pe_mk C_House (hr.mono (by decide)) passD (by rfl) (pa_cons (pe_int) (pa_cons (pe_tup (pa_cons (pv 12) pa_nil)) pa_nil))) (pa_cons (pe_mk C_House (hr.mono (by decide)) passD (by rfl) (pa_cons (pe_int) (pa_cons (pe_op (kO (r := rMulU) op_mulU (K := K) rfl) (pv 10) (pe_int)) pa_nil))) (pa_cons (pv 10) (pa_cons (pe_tup (pa_cons (pe_int) (pa_cons (pv 10) pa_nil))) pa_nil)))))))) pa_nil))))
    (pss_cons (ps_if (pt_not (pt_val (pe_callB (kC (r := rIsiU) call_isiU (K := K) rfl) (by rfl) T.b_isinstance bb_isinstance (pa_cons (pe_lam1 (k := 2) (t := fun E => (tCall _ [] E (tCons (tVar 13) (tCons (tVar 5) tNil)))) M_caught (by rfl) (hr.mono (by decide)) (LamX.lamS_by (sc := defScope s_law) (by decide +kernel)) rfl (fun _ _ _ _ _ => rfl) (fun _ _ _ _ _ _ _ hr => (pe_cal C_single_alike (hr.mono (by decide)) passLam (by rfl) (pa_cons (pv 13) (pa_cons (pv 5) pa_nil))))) (pa_cons (pe_glob (v := .ref _) (by rfl) T.c_BadSingle rfl) pa_nil))))) (pss_one (ps_ret (pe_bl))) pss_nil)
    (pss_one (ps_if (pt_not (pt_val (pe_callB (kC (r := rIsiU) call_isiU (K := K) rfl) (by rfl) T.b_isinstance bb_isinstance (pa_cons (pe_lam1 (k := 2) (t := fun E => (tCall _ [] E (tCons (tVar 5) (tCons (tVar 13) tNil)))) M_caught (by rfl) (hr.mono (by decide)) (LamX.lamS_by (sc := defScope s_law) (by decide +kernel)) rfl (fun _ _ _ _ _ => rfl) (fun _ _ _ _ _ _ _ hr => (pe_cal C_single_alike (hr.mono (by decide)) passLam (by rfl) (pa_cons (pv 5) (pa_cons (pv 13) pa_nil))))) (pa_cons (pe_glob (v := .ref _) (by rfl) T.c_BadSingle rfl) pa_nil))))) (pss_one (ps_ret (pe_bl))) pss_nil)))))))))))))))
    (pss_one (ps_ret (pe_bl))))), ?_⟩
  refine law_run (n0 := "_law_script") (n1 := "_law_state") (N := ["_law_turn", "_law_first", "_law_second", "_law_house_here", "_law_some", "_law_near", "_law_item", "_law_later", "_law_row", "_law_lap", "_law_pair", "_law_bad"]) hq fun L W ns hV hG hE hl hs => ?_
  refine ds_seq ?_
  refine ds_forR (LW := fun rs n ρ => 2 ^ 30 ≤ n + 1000 * (8 - rs.length) ∧ rs.length ≤ 8 ∧ ρ = [some (false, .raw L.a), some (false, .raw L.s), none, none, none, none, none, none, none, none, none, none, none, none]) (di_range1 ?_) ?_ ?_
  · repeat' (walk_at "hd1")
    refine b_lenR hs ?_
    repeat' (walk_at "hd1")
    have hmx : (4 + if (4 : Int) < ((List.map L2.V.int ns).length : Int) then 4 else ((List.map L2.V.int ns).length : Int)) ≤ 8 ∧ 0 ≤ (4 + if (4 : Int) < ((List.map L2.V.int ns).length : Int) then 4 else ((List.map L2.V.int ns).length : Int)) := by
      split <;> omega
    exact ⟨by omega, by omega, _, Rfn.refl _, by omega, by rw [upTo_len]; omega, rfl⟩
  · rintro d rs n ρ' ⟨hn, hrs, rfl⟩
    simp only [List.length_cons] at hn hrs
    repeat' (walk_at "hd1")
    rename_i n1 b1 d1 h1 r1 n2 b2 d2 h2 r2 n3 d3 h3 hm3
    obtain ⟨_, x, rfl, hx⟩ := r1
    obtain ⟨_, y, rfl, hy⟩ := r2
    obtain ⟨z, rfl, hz⟩ : ∃ z : Int, d3 = .int z ∧ z ≠ 0 ∧ -83 ≤ z ∧ z ≤ 83 := by
      simp only [List.mem_cons, List.not_mem_nil, or_false] at hm3
      rcases hm3 with rfl | rfl | rfl | rfl
      all_goals exact ⟨_, rfl, by decide, by decide, by decide⟩
    have hyz : nz (y * z) := by
      unfold szOk at hy
      refine ⟨Int.mul_ne_zero hy.1 hz.1, ?_, ?_⟩
      · have := Int.natAbs_mul y z
        have : (y * z).natAbs ≤ 12 * 83 := by rw [this]; exact Nat.mul_le_mul (by omega) (by omega)
        omega
      · have := Int.natAbs_mul y z
        have : (y * z).natAbs ≤ 12 * 83 := by rw [this]; exact Nat.mul_le_mul (by omega) (by omega)
        omega
    have hx := sz_nz hx
    generalize hu : y * z = u at hyz
    refine r_mul (c_smallL (by unfold szOk at hy; omega)) ?_
    rw [hu]
    repeat' (walk_at "hd1")
    refine ⟨rfl, ⟨1, one x u, rfl, rfl, one_ok hx hyz⟩, _, _, rfl, ?_⟩
    repeat' (walk_at "hd1")
    refine r_fdiv (c_divN (by split <;> omega) (by unfold nz at hx; split <;> omega)) ?_
    generalize (1000 : Int).fdiv ((if x < 0 then -x else x) + 1) = w0
    repeat' (walk_at "hd1")
    rename_i n4 b4 d4 h4 r4 n5 b5 d5 h5 r5
    obtain ⟨_, x4, rfl, _⟩ := r4
    obtain ⟨_, x5, rfl, _⟩ := r5
    have hSA : ∀ p q : Int, nz p → nz q → preSA K [dHouse K 1 (one x u), dHouse K 1 (one p q)] := fun p q hp hq => ⟨.inr ⟨_, _, one_ok hx hyz, rfl⟩, .inr ⟨_, _, one_ok hp hq, rfl⟩⟩
    have fA : ∀ p q : Int, fSA K [dHouse K 1 (one x u), dHouse K 1 (one p q)] = .ret false (.bl (aliB (dHouse K 1 (one x u)) (dHouse K 1 (one p q)))) := fun p q => by
      show (if sing K _ = true then (if sing K _ = true then _ else _) else _) = _
      rw [if_pos sing_one, if_pos sing_one]
    refine ds_forR (LW := fun rs n ρ => n5 ≤ n ∧ (∀ d ∈ rs, ∃ p q : Int, d = .tup [.int p, .int q]) ∧ ρ = [some (false, .raw L.a), some (false, .raw L.s), none, none, none, some (false, dHouse K 1 (one x u)), some (true, .lst [.tup [.int x, .int u], .tup [.int u, .int x], .tup [.int (0 - x), .int (0 - u)], .tup [.int (0 - u), .int (0 - x)]]), none, none, none, none, none, none, none]) (di_seqL (de_var rfl ⟨_, rfl, _, ?_, Nat.le_refl _, ?_, rfl⟩)) ?_ ?_
    · repeat' (walk_at "rfn")
    · intro d hd
      simp only [List.cons_append, List.nil_append, List.mem_cons, List.not_mem_nil, or_false] at hd
      rcases hd with rfl | rfl | rfl | rfl | rfl | rfl | rfl | rfl | rfl | rfl
      all_goals exact ⟨_, _, rfl⟩
    · rintro d2 rs2 n6 ρ6 ⟨hn6, hit, rfl⟩
      obtain ⟨p, q, rfl⟩ := hit d2 List.mem_cons_self
      have hit2 : ∀ d ∈ rs2, ∃ p q : Int, d = .tup [.int p, .int q] := fun d hd => hit d (List.mem_cons_of_mem _ hd)
      have key : ∀ b0 : Bool, (b0 = true ↔ D.tup [.int p, .int q] ∈ [D.tup [.int x, .int u], .tup [.int u, .int x], .tup [.int (0 - x), .int (0 - u)], .tup [.int (0 - u), .int (0 - x)]]) → b0 = aliB (dHouse K 1 (one x u)) (dHouse K 1 (one p q)) ∧ b0 = aliB (dHouse K 1 (one p q)) (dHouse K 1 (one x u)) := fun b0 h => by
        refine ⟨Bool.eq_iff_iff.mpr ?_, Bool.eq_iff_iff.mpr ?_⟩
        all_goals
          rw [h, ali_iff]
          simp only [List.mem_cons, List.not_mem_nil, or_false, D.tup.injEq, List.cons.injEq, D.int.injEq, and_true, Ali]
        all_goals omega
      repeat' (walk_at "hd1")
      · rename_i c1 c2 c3 c4
        have hp : nz p := by simp only [decide_eq_true_iff] at c1 c2; unfold nz; split at c1 <;> omega
        have hq : nz q := by simp only [decide_eq_true_iff] at c3 c4; unfold nz; split at c3 <;> omega
        have fB : fSA K [dHouse K 1 (one p q), dHouse K 1 (one x u)] = .ret false (.bl (aliB (dHouse K 1 (one p q)) (dHouse K 1 (one x u)))) := by
          show (if sing K _ = true then (if sing K _ = true then _ else _) else _) = _
          rw [if_pos sing_one, if_pos sing_one]
        refine ⟨rfl, ⟨1, one p q, rfl, rfl, one_ok hp hq⟩, _, _, rfl, ?_⟩
        repeat' (walk_at "hd1")
        refine ⟨rfl, rfl, hSA p q hp hq, _, _, fA p q, ?_⟩
        repeat' (walk_at "hd1")
        · rename_i b0 hb0 hb1
          have hb1 : (!if b0 = true then (aliB (dHouse K 1 (one x u)) (dHouse K 1 (one p q))) else !(aliB (dHouse K 1 (one x u)) (dHouse K 1 (one p q)))) = true := hb1
          rw [← (key b0 hb0).1, tr_self] at hb1; cases hb1
        refine ⟨rfl, ⟨(hSA p q hp hq).2, (hSA p q hp hq).1⟩, _, _, fB, ?_⟩
        repeat' (walk_at "hd1")
        · rename_i b0 hb0 hb1
          have hb1 : (!if b0 = true then (aliB (dHouse K 1 (one p q)) (dHouse K 1 (one x u))) else !(aliB (dHouse K 1 (one p q)) (dHouse K 1 (one x u)))) = true := hb1
          rw [← (key b0 hb0).2, tr_self] at hb1; cases hb1
        · refine ⟨_, ?_, hn6, hit2, rfl⟩
          repeat' (walk_at "rfn")
      all_goals
        refine ⟨_, ?_, hn6, hit2, rfl⟩
        repeat' (walk_at "rfn")
    · rintro n6 ρ6 ⟨hn6, _, rfl⟩
      repeat' (walk_at "hd1")
      refine DF.de (df_lc_cost 1 (fun _ y => isTS y) (noOwn_by rfl) (di_range1 ?_) in_self)
      repeat' (walk_at "hd1")
      rename_i n7 k7 h7 k0 k1
      refine ⟨by omega, by omega, szl (by rw [upTo_len]; omega), by rw [upTo_len]; omega, fun n8 d8 hd8 hc8 => dg_name ?_, fun n8 ys hn8 hsome => ?_⟩
      · repeat' (walk_at "hd1")
        rename_i n9 d9 h9 hm9
        refine ⟨by omega, ?_⟩
        simp only [List.mem_cons, List.not_mem_nil, or_false] at hm9
        exact hm9
      have hts : ∀ y ∈ ys, isTS y := each_all hsome
      have hyl := hsome.len
      rw [upTo_len] at hyl hn8
      repeat' (walk_at "hd1")
      refine ⟨rfl, ⟨x, u, ys, hx, hyz, rfl, rfl, by omega, hts⟩, fun o ho => ?_⟩
      obtain ⟨fb, a', b', rfl, ha', hb', hA⟩ := ho x u rfl
      refine ⟨_, _, rfl, ?_⟩
      repeat' (walk_at "hd1")
      refine ⟨rfl, hSA a' b' ha' hb', _, _, fA a' b', ?_⟩
      repeat' (walk_at "hd1")
      · rename_i hb
        rw [ali_iff.mpr hA] at hb; cases hb
      refine ⟨rfl, ⟨1, [], rfl, rfl, ok_1⟩, _, _, rfl, ?_⟩
      repeat' (walk_at "hd1")
      refine ⟨rfl, ⟨2, [⟨0, 1, 1, 2⟩], rfl, rfl, ok_2⟩, _, _, rfl, ?_⟩
      repeat' (walk_at "hd1")
      refine r_repT (by simp) (by decide) (by decide) (by simp) ?_
      refine da_nil ⟨rfl, ⟨1, [⟨0, 1, 0, 2⟩, ⟨0, 1, 0, 2⟩], rfl, rfl, ok_3⟩, _, _, rfl, ?_⟩
      repeat' (walk_at "hd1")
      rename_i n9 bad h9 hm9
      have hbad : hpl K bad ∧ sing K bad = false := by
        simp only [List.mem_cons, List.not_mem_nil, or_false] at hm9
        rcases hm9 with rfl | rfl | rfl | rfl | rfl | rfl | rfl
        · exact ⟨.inl rfl, rfl⟩
        · exact ⟨.inl rfl, rfl⟩
        · refine ⟨.inr ⟨1, [], ok_1, rfl⟩, ?_⟩
          unfold sing
          exact Bool.and_false _
        · refine ⟨.inr ⟨2, _, ok_2, rfl⟩, ?_⟩
          unfold sing
          exact Bool.and_false _
        · refine ⟨.inr ⟨1, _, ok_3, rfl⟩, ?_⟩
          unfold sing
          exact Bool.and_false _
        · exact ⟨.inl rfl, rfl⟩
        · exact ⟨.inl rfl, rfl⟩
      have hhH : hpl K (dHouse K 1 (one x u)) := .inr ⟨_, _, one_ok hx hyz, rfl⟩
      have f1 : fSA K [bad, dHouse K 1 (one x u)] = .exc (He.ga K "BadSingle") [] [] := by
        show (if sing K bad = true then _ else _) = _
        rw [if_neg (by rw [hbad.2]; decide)]
      have f2 : fSA K [dHouse K 1 (one x u), bad] = .exc (He.ga K "BadSingle") [] [] := by
        show (if sing K _ = true then (if sing K bad = true then _ else _) else _) = _
        rw [if_pos sing_one, if_neg (by rw [hbad.2]; decide)]
      refine de_caught L hV hG mem fun W' E' wV wG wE wEP => ?_
      refine de_detE wE (da_cons (de_var rfl (da_cons (de_var rfl (da_nil ⟨rfl, ⟨hbad.1, hhH⟩, ?_⟩)))))
      rw [f1]
      show W'.EP n9 _ [] []
      rw [wEP]
      refine ⟨rfl, rfl, T.m_BadSingle, ?_⟩
      repeat' (walk_at "hd1")
      refine u_isiX T.e_BadSingle T.k_BadSingle ?_
      repeat' (walk_at "hd1")
      refine de_caught L hV hG mem fun W' E' wV wG wE wEP => ?_
      refine de_detE wE (da_cons (de_var rfl (da_cons (de_var rfl (da_nil ⟨rfl, ⟨hhH, hbad.1⟩, ?_⟩)))))
      rw [f2]
      show W'.EP n9 _ [] []
      rw [wEP]
      refine ⟨rfl, rfl, T.m_BadSingle, ?_⟩
      repeat' (walk_at "hd1")
      refine u_isiX T.e_BadSingle T.k_BadSingle ?_
      repeat' (walk_at "hd1")
      refine ⟨_, ?_, ?_, by omega, rfl⟩
      · repeat' (walk_at "rfn")
      · omega
  · rintro n ρ' ⟨_, _, rfl⟩
    exact ds_ret (de_bl rfl)
end
def hd_is_number : He.DefD := ⟨("is_number", none), "is_number", "is_number", defArgs s_is_number, defBody s_is_number, defScope s_is_number, [], []⟩
def hd_is_below : He.DefD := ⟨("is_below", none), "is_below", "is_below", defArgs s_is_below, defBody s_is_below, defScope s_is_below, [], []⟩
def hd_is_door : He.DefD := ⟨("is_door", none), "is_door", "is_door", defArgs s_is_door, defBody s_is_door, defScope s_is_door, [], []⟩
def hd_are_doors : He.DefD := ⟨("are_doors", none), "are_doors", "are_doors", defArgs s_are_doors, defBody s_are_doors, defScope s_are_doors, [], []⟩
def hd_joined_rooms : He.DefD := ⟨("joined_rooms", none), "joined_rooms", "joined_rooms", defArgs s_joined_rooms, defBody s_joined_rooms, defScope s_joined_rooms, [], []⟩
def hd_need_house : He.DefD := ⟨("need_house", none), "need_house", "need_house", defArgs s_need_house, defBody s_need_house, defScope s_need_house, [], []⟩
def hd_is_pass : He.DefD := ⟨("is_pass", none), "is_pass", "is_pass", defArgs s_is_pass, defBody s_is_pass, defScope s_is_pass, [], []⟩
def hd_gate_of : He.DefD := ⟨("gate_of", none), "gate_of", "gate_of", defArgs s_gate_of, defBody s_gate_of, defScope s_gate_of, [], []⟩
def hd_fold_plan : He.DefD := ⟨("fold_plan", none), "fold_plan", "fold_plan", defArgs s_fold_plan, defBody s_fold_plan, defScope s_fold_plan, [], []⟩
def hd_closed_up : He.DefD := ⟨("closed_up", none), "closed_up", "closed_up", defArgs s_closed_up, defBody s_closed_up, defScope s_closed_up, [], []⟩
def hd_folded_doors : He.DefD := ⟨("folded_doors", none), "folded_doors", "folded_doors", defArgs s_folded_doors, defBody s_folded_doors, defScope s_folded_doors, [], []⟩
def hd_fits_fold : He.DefD := ⟨("fits_fold", none), "fits_fold", "fits_fold", defArgs s_fits_fold, defBody s_fits_fold, defScope s_fits_fold, [], []⟩
def hd_fits_slide : He.DefD := ⟨("fits_slide", none), "fits_slide", "fits_slide", defArgs s_fits_slide, defBody s_fits_slide, defScope s_fits_slide, [], []⟩
def hd_fits_change : He.DefD := ⟨("fits_change", none), "fits_change", "fits_change", defArgs s_fits_change, defBody s_fits_change, defScope s_fits_change, [], []⟩
def hd_with_door : He.DefD := ⟨("with_door", none), "with_door", "with_door", defArgs s_with_door, defBody s_with_door, defScope s_with_door, [], []⟩
def hd_turned_doors : He.DefD := ⟨("turned_doors", none), "turned_doors", "turned_doors", defArgs s_turned_doors, defBody s_turned_doors, defScope s_turned_doors, [], []⟩
def hd_slid_door : He.DefD := ⟨("slid_door", none), "slid_door", "slid_door", defArgs s_slid_door, defBody s_slid_door, defScope s_slid_door, [], []⟩
def hd_parts_behind : He.DefD := ⟨("parts_behind", none), "parts_behind", "parts_behind", defArgs s_parts_behind, defBody s_parts_behind, defScope s_parts_behind, [], []⟩
def hd_is_change_of : He.DefD := ⟨("is_change_of", none), "is_change_of", "is_change_of", defArgs s_is_change_of, defBody s_is_change_of, defScope s_is_change_of, [], []⟩
def hd_house_behind : He.DefD := ⟨("house_behind", none), "house_behind", "house_behind", defArgs s_house_behind, defBody s_house_behind, defScope s_house_behind, [], []⟩
def hd_houses_behind : He.DefD := ⟨("houses_behind", none), "houses_behind", "houses_behind", defArgs s_houses_behind, defBody s_houses_behind, defScope s_houses_behind, [], []⟩
def hd_changed_by : He.DefD := ⟨("changed_by", none), "changed_by", "changed_by", defArgs s_changed_by, defBody s_changed_by, defScope s_changed_by, [], []⟩
def hd_need_single : He.DefD := ⟨("need_single", none), "need_single", "need_single", defArgs s_need_single, defBody s_need_single, defScope s_need_single, [], []⟩
def hd_single_alike : He.DefD := ⟨("single_alike", none), "single_alike", "single_alike", defArgs s_single_alike, defBody s_single_alike, defScope s_single_alike, [], []⟩
def hd__law_begun : He.DefD := ⟨("_law_begun", none), "_law_begun", "_law_begun", defArgs s__law_begun, defBody s__law_begun, defScope s__law_begun, [], []⟩
def hd__law_blended : He.DefD := ⟨("_law_blended", none), "_law_blended", "_law_blended", defArgs s__law_blended, defBody s__law_blended, defScope s__law_blended, [], []⟩
def hd__law_draw : He.DefD := ⟨("_law_draw", none), "_law_draw", "_law_draw", defArgs s__law_draw, defBody s__law_draw, defScope s__law_draw, [], []⟩
def hd__law_pick : He.DefD := ⟨("_law_pick", none), "_law_pick", "_law_pick", defArgs s__law_pick, defBody s__law_pick, defScope s__law_pick, [], []⟩
def hd__law_caught : He.DefD := ⟨("_law_caught", none), "_law_caught", "_law_caught", defArgs s__law_caught, defBody s__law_caught, defScope s__law_caught, [], []⟩
def hd__law_is_truth : He.DefD := ⟨("_law_is_truth", none), "_law_is_truth", "_law_is_truth", defArgs s__law_is_truth, defBody s__law_is_truth, defScope s__law_is_truth, [], []⟩
def hd__law_size : He.DefD := ⟨("_law_size", none), "_law_size", "_law_size", defArgs s__law_size, defBody s__law_size, defScope s__law_size, [], []⟩
def hd_law : He.DefD := ⟨("law", none), "law", "law", defArgs s_law, defBody s_law, defScope s_law, [], []⟩
def hd_House_init : He.DefD := ⟨("House", some "__init__"), "__init__", "House.__init__", defArgs s_House_init, defBody s_House_init, defScope s_House_init, [], []⟩
def hfn : List He.DefD := [hd_is_number, hd_is_below, hd_is_door, hd_are_doors, hd_joined_rooms, hd_need_house, hd_is_pass, hd_gate_of, hd_fold_plan, hd_closed_up, hd_folded_doors, hd_fits_fold, hd_fits_slide, hd_fits_change, hd_with_door, hd_turned_doors, hd_slid_door, hd_parts_behind, hd_is_change_of, hd_house_behind, hd_houses_behind, hd_changed_by, hd_need_single, hd_single_alike, hd__law_begun, hd__law_blended, hd__law_draw, hd__law_pick, hd__law_caught, hd__law_is_truth, hd__law_size, hd_law, hd_House_init]
def hfa : List He.Fa := [.glo "is_number", .glo "is_below", .glo "is_door", .glo "are_doors", .glo "joined_rooms", .glo "need_house", .glo "is_pass", .glo "gate_of", .glo "fold_plan", .glo "closed_up", .glo "folded_doors", .glo "fits_fold", .glo "fits_slide", .glo "fits_change", .glo "with_door", .glo "turned_doors", .glo "slid_door", .glo "parts_behind", .glo "is_change_of", .glo "house_behind", .glo "houses_behind", .glo "changed_by", .glo "need_single", .glo "single_alike", .glo "_law_begun", .glo "_law_blended", .glo "_law_draw", .glo "_law_pick", .glo "_law_caught", .glo "_law_is_truth", .glo "_law_size", .glo "law", .free "abs", .free "all", .free "bool", .free "enumerate", .free "int", .free "isinstance", .free "len", .free "list", .free "min", .free "range", .free "str", .free "tuple", .glo "PullError", .glo "Apart", .glo "BadChanges", .glo "BadDoors", .glo "BadHouse", .glo "BadRooms", .glo "BadSingle", .glo "House", .int "MOST_ROOMS" 12, .int "MOST_DOORS" 20, .int "GREATEST" 999, .int "MOST_CHANGES" 30, .glo "UNITS", .exc "BadChanges", .exm "BadChanges" "PullError" true, .exc "BadDoors", .exm "BadDoors" "PullError" true, .exc "BadHouse", .exm "BadHouse" "PullError" true, .exc "BadRooms", .exm "BadRooms" "PullError" true, .exc "BadSingle", .exm "BadSingle" "PullError" true, .mkr "House"]
def hloose : List Str := [("is_number" : Str), ("is_below" : Str), ("PullError" : Str), ("Apart" : Str), ("BadChanges" : Str), ("BadDoors" : Str), ("BadHouse" : Str), ("BadRooms" : Str), ("BadSingle" : Str), ("MOST_ROOMS" : Str), ("MOST_DOORS" : Str), ("GREATEST" : Str), ("is_door" : Str), ("are_doors" : Str), ("joined_rooms" : Str), ("House" : Str), ("need_house" : Str), ("is_pass" : Str), ("gate_of" : Str), ("MOST_CHANGES" : Str), ("UNITS" : Str), ("fold_plan" : Str), ("closed_up" : Str), ("folded_doors" : Str), ("fits_fold" : Str), ("fits_slide" : Str), ("fits_change" : Str), ("with_door" : Str), ("turned_doors" : Str), ("slid_door" : Str), ("parts_behind" : Str), ("is_change_of" : Str), ("house_behind" : Str), ("houses_behind" : Str), ("changed_by" : Str), ("need_single" : Str), ("single_alike" : Str), ("_law_begun" : Str), ("_law_blended" : Str), ("_law_draw" : Str), ("_law_pick" : Str), ("_law_caught" : Str), ("_law_is_truth" : Str), ("_law_size" : Str)]
abbrev lawIx : Nat := 49
section
variable {K : PySem.W.Frag} {h : Heap} {mg : Str → Option Value} (X : K.In h) (G : h.Ns mainGlobals mg) (c : He.SaysD hfa hfn K)
include X G c
theorem hg_is_number : mg "is_number" = some (.ref (He.ga K "is_number")) := He.glo_ok X G (c.fact 0 (f := .glo "is_number") rfl)
theorem hdf_is_number : Def K mg "is_number" s_is_number ["value"] := (c.def_ 0 (d := hd_is_number) rfl).elim fun fd F => def_of F (hg_is_number X G c) fun _ _ _ _ _ _ us hl => match us, hl with | [_], _ => rfl
theorem hg_is_below : mg "is_below" = some (.ref (He.ga K "is_below")) := He.glo_ok X G (c.fact 1 (f := .glo "is_below") rfl)
theorem hdf_is_below : Def K mg "is_below" s_is_below ["value", "size"] := (c.def_ 1 (d := hd_is_below) rfl).elim fun fd F => def_of F (hg_is_below X G c) fun _ _ _ _ _ _ us hl => match us, hl with | [_, _], _ => rfl
theorem hg_is_door : mg "is_door" = some (.ref (He.ga K "is_door")) := He.glo_ok X G (c.fact 2 (f := .glo "is_door") rfl)
theorem hdf_is_door : Def K mg "is_door" s_is_door ["value", "rooms"] := (c.def_ 2 (d := hd_is_door) rfl).elim fun fd F => def_of F (hg_is_door X G c) fun _ _ _ _ _ _ us hl => match us, hl with | [_, _], _ => rfl
theorem hg_are_doors : mg "are_doors" = some (.ref (He.ga K "are_doors")) := He.glo_ok X G (c.fact 3 (f := .glo "are_doors") rfl)
theorem hdf_are_doors : Def K mg "are_doors" s_are_doors ["value", "rooms"] := (c.def_ 3 (d := hd_are_doors) rfl).elim fun fd F => def_of F (hg_are_doors X G c) fun _ _ _ _ _ _ us hl => match us, hl with | [_, _], _ => rfl
theorem hg_joined_rooms : mg "joined_rooms" = some (.ref (He.ga K "joined_rooms")) := He.glo_ok X G (c.fact 4 (f := .glo "joined_rooms") rfl)
theorem hdf_joined_rooms : Def K mg "joined_rooms" s_joined_rooms ["doors"] := (c.def_ 4 (d := hd_joined_rooms) rfl).elim fun fd F => def_of F (hg_joined_rooms X G c) fun _ _ _ _ _ _ us hl => match us, hl with | [_], _ => rfl
theorem hg_need_house : mg "need_house" = some (.ref (He.ga K "need_house")) := He.glo_ok X G (c.fact 5 (f := .glo "need_house") rfl)
theorem hdf_need_house : Def K mg "need_house" s_need_house ["house"] := (c.def_ 5 (d := hd_need_house) rfl).elim fun fd F => def_of F (hg_need_house X G c) fun _ _ _ _ _ _ us hl => match us, hl with | [_], _ => rfl
theorem hg_folded_doors : mg "folded_doors" = some (.ref (He.ga K "folded_doors")) := He.glo_ok X G (c.fact 10 (f := .glo "folded_doors") rfl)
theorem hdf_folded_doors : Def K mg "folded_doors" s_folded_doors ["doors", "at"] := (c.def_ 10 (d := hd_folded_doors) rfl).elim fun fd F => def_of F (hg_folded_doors X G c) fun _ _ _ _ _ _ us hl => match us, hl with | [_, _], _ => rfl
theorem hg_fits_fold : mg "fits_fold" = some (.ref (He.ga K "fits_fold")) := He.glo_ok X G (c.fact 11 (f := .glo "fits_fold") rfl)
theorem hdf_fits_fold : Def K mg "fits_fold" s_fits_fold ["house", "at"] := (c.def_ 11 (d := hd_fits_fold) rfl).elim fun fd F => def_of F (hg_fits_fold X G c) fun _ _ _ _ _ _ us hl => match us, hl with | [_, _], _ => rfl
theorem hg_fits_slide : mg "fits_slide" = some (.ref (He.ga K "fits_slide")) := He.glo_ok X G (c.fact 12 (f := .glo "fits_slide") rfl)
theorem hdf_fits_slide : Def K mg "fits_slide" s_fits_slide ["house", "end", "over"] := (c.def_ 12 (d := hd_fits_slide) rfl).elim fun fd F => def_of F (hg_fits_slide X G c) fun _ _ _ _ _ _ us hl => match us, hl with | [_, _, _], _ => rfl
theorem hg_fits_change : mg "fits_change" = some (.ref (He.ga K "fits_change")) := He.glo_ok X G (c.fact 13 (f := .glo "fits_change") rfl)
theorem hdf_fits_change : Def K mg "fits_change" s_fits_change ["house", "thing"] := (c.def_ 13 (d := hd_fits_change) rfl).elim fun fd F => def_of F (hg_fits_change X G c) fun _ _ _ _ _ _ us hl => match us, hl with | [_, _], _ => rfl
theorem hg_with_door : mg "with_door" = some (.ref (He.ga K "with_door")) := He.glo_ok X G (c.fact 14 (f := .glo "with_door") rfl)
theorem hdf_with_door : Def K mg "with_door" s_with_door ["doors", "at", "door"] := (c.def_ 14 (d := hd_with_door) rfl).elim fun fd F => def_of F (hg_with_door X G c) fun _ _ _ _ _ _ us hl => match us, hl with | [_, _, _], _ => rfl
theorem hg_turned_doors : mg "turned_doors" = some (.ref (He.ga K "turned_doors")) := He.glo_ok X G (c.fact 15 (f := .glo "turned_doors") rfl)
theorem hdf_turned_doors : Def K mg "turned_doors" s_turned_doors ["doors", "room"] := (c.def_ 15 (d := hd_turned_doors) rfl).elim fun fd F => def_of F (hg_turned_doors X G c) fun _ _ _ _ _ _ us hl => match us, hl with | [_, _], _ => rfl
theorem hg_slid_door : mg "slid_door" = some (.ref (He.ga K "slid_door")) := He.glo_ok X G (c.fact 16 (f := .glo "slid_door") rfl)
theorem hdf_slid_door : Def K mg "slid_door" s_slid_door ["house", "end", "over"] := (c.def_ 16 (d := hd_slid_door) rfl).elim fun fd F => def_of F (hg_slid_door X G c) fun _ _ _ _ _ _ us hl => match us, hl with | [_, _, _], _ => rfl
theorem hg_parts_behind : mg "parts_behind" = some (.ref (He.ga K "parts_behind")) := He.glo_ok X G (c.fact 17 (f := .glo "parts_behind") rfl)
theorem hdf_parts_behind : Def K mg "parts_behind" s_parts_behind ["house", "change"] := (c.def_ 17 (d := hd_parts_behind) rfl).elim fun fd F => def_of F (hg_parts_behind X G c) fun _ _ _ _ _ _ us hl => match us, hl with | [_, _], _ => rfl
theorem hg_is_change_of : mg "is_change_of" = some (.ref (He.ga K "is_change_of")) := He.glo_ok X G (c.fact 18 (f := .glo "is_change_of") rfl)
theorem hdf_is_change_of : Def K mg "is_change_of" s_is_change_of ["house", "thing"] := (c.def_ 18 (d := hd_is_change_of) rfl).elim fun fd F => def_of F (hg_is_change_of X G c) fun _ _ _ _ _ _ us hl => match us, hl with | [_, _], _ => rfl
theorem hg_house_behind : mg "house_behind" = some (.ref (He.ga K "house_behind")) := He.glo_ok X G (c.fact 19 (f := .glo "house_behind") rfl)
theorem hdf_house_behind : Def K mg "house_behind" s_house_behind ["house", "change"] := (c.def_ 19 (d := hd_house_behind) rfl).elim fun fd F => def_of F (hg_house_behind X G c) fun _ _ _ _ _ _ us hl => match us, hl with | [_, _], _ => rfl
theorem hg_houses_behind : mg "houses_behind" = some (.ref (He.ga K "houses_behind")) := He.glo_ok X G (c.fact 20 (f := .glo "houses_behind") rfl)
theorem hdf_houses_behind : Def K mg "houses_behind" s_houses_behind ["house", "changes"] := (c.def_ 20 (d := hd_houses_behind) rfl).elim fun fd F => def_of F (hg_houses_behind X G c) fun _ _ _ _ _ _ us hl => match us, hl with | [_, _], _ => rfl
theorem hg_changed_by : mg "changed_by" = some (.ref (He.ga K "changed_by")) := He.glo_ok X G (c.fact 21 (f := .glo "changed_by") rfl)
theorem hdf_changed_by : Def K mg "changed_by" s_changed_by ["house", "changes"] := (c.def_ 21 (d := hd_changed_by) rfl).elim fun fd F => def_of F (hg_changed_by X G c) fun _ _ _ _ _ _ us hl => match us, hl with | [_, _], _ => rfl
theorem hg_need_single : mg "need_single" = some (.ref (He.ga K "need_single")) := He.glo_ok X G (c.fact 22 (f := .glo "need_single") rfl)
theorem hdf_need_single : Def K mg "need_single" s_need_single ["house"] := (c.def_ 22 (d := hd_need_single) rfl).elim fun fd F => def_of F (hg_need_single X G c) fun _ _ _ _ _ _ us hl => match us, hl with | [_], _ => rfl
theorem hg_single_alike : mg "single_alike" = some (.ref (He.ga K "single_alike")) := He.glo_ok X G (c.fact 23 (f := .glo "single_alike") rfl)
theorem hdf_single_alike : Def K mg "single_alike" s_single_alike ["one", "other"] := (c.def_ 23 (d := hd_single_alike) rfl).elim fun fd F => def_of F (hg_single_alike X G c) fun _ _ _ _ _ _ us hl => match us, hl with | [_, _], _ => rfl
theorem hg__law_begun : mg "_law_begun" = some (.ref (He.ga K "_law_begun")) := He.glo_ok X G (c.fact 24 (f := .glo "_law_begun") rfl)
theorem hdf__law_begun : Def K mg "_law_begun" s__law_begun ["_law_script"] := (c.def_ 24 (d := hd__law_begun) rfl).elim fun fd F => def_of F (hg__law_begun X G c) fun _ _ _ _ _ _ us hl => match us, hl with | [_], _ => rfl
theorem hg__law_blended : mg "_law_blended" = some (.ref (He.ga K "_law_blended")) := He.glo_ok X G (c.fact 25 (f := .glo "_law_blended") rfl)
theorem hdf__law_blended : Def K mg "_law_blended" s__law_blended ["_law_state"] := (c.def_ 25 (d := hd__law_blended) rfl).elim fun fd F => def_of F (hg__law_blended X G c) fun _ _ _ _ _ _ us hl => match us, hl with | [_], _ => rfl
theorem hg__law_draw : mg "_law_draw" = some (.ref (He.ga K "_law_draw")) := He.glo_ok X G (c.fact 26 (f := .glo "_law_draw") rfl)
theorem hdf__law_draw : Def K mg "_law_draw" s__law_draw ["_law_state", "_law_size_here"] := (c.def_ 26 (d := hd__law_draw) rfl).elim fun fd F => def_of F (hg__law_draw X G c) fun _ _ _ _ _ _ us hl => match us, hl with | [_, _], _ => rfl
theorem hg__law_pick : mg "_law_pick" = some (.ref (He.ga K "_law_pick")) := He.glo_ok X G (c.fact 27 (f := .glo "_law_pick") rfl)
theorem hdf__law_pick : Def K mg "_law_pick" s__law_pick ["_law_state", "_law_several"] := (c.def_ 27 (d := hd__law_pick) rfl).elim fun fd F => def_of F (hg__law_pick X G c) fun _ _ _ _ _ _ us hl => match us, hl with | [_, _], _ => rfl
theorem hg__law_caught : mg "_law_caught" = some (.ref (He.ga K "_law_caught")) := He.glo_ok X G (c.fact 28 (f := .glo "_law_caught") rfl)
theorem hdf__law_caught : Def K mg "_law_caught" s__law_caught ["_law_work"] := (c.def_ 28 (d := hd__law_caught) rfl).elim fun fd F => def_of F (hg__law_caught X G c) fun _ _ _ _ _ _ us hl => match us, hl with | [_], _ => rfl
theorem hg__law_is_truth : mg "_law_is_truth" = some (.ref (He.ga K "_law_is_truth")) := He.glo_ok X G (c.fact 29 (f := .glo "_law_is_truth") rfl)
theorem hdf__law_is_truth : Def K mg "_law_is_truth" s__law_is_truth ["_law_found", "_law_due"] := (c.def_ 29 (d := hd__law_is_truth) rfl).elim fun fd F => def_of F (hg__law_is_truth X G c) fun _ _ _ _ _ _ us hl => match us, hl with | [_, _], _ => rfl
theorem hg__law_size : mg "_law_size" = some (.ref (He.ga K "_law_size")) := He.glo_ok X G (c.fact 30 (f := .glo "_law_size") rfl)
theorem hdf__law_size : Def K mg "_law_size" s__law_size ["_law_state"] := (c.def_ 30 (d := hd__law_size) rfl).elim fun fd F => def_of F (hg__law_size X G c) fun _ _ _ _ _ _ us hl => match us, hl with | [_], _ => rfl
theorem hg_law : mg "law" = some (.ref (He.ga K "law")) := He.glo_ok X G (c.fact 31 (f := .glo "law") rfl)
theorem hdc_law : DefC K mg "law" s_law ["_law_script"] (He.cT K ("law", none)).1 := (c.def_ 31 (d := hd_law) rfl).elim fun fd F => defC_of (p := ("law", none)) F (hg_law X G c) fun _ _ _ _ _ _ us hl => match us, hl with | [_], _ => rfl
theorem hfree_abs : mg "abs" = none := He.free_ok X G (c.fact 32 (f := .free "abs") rfl)
theorem hfree_all : mg "all" = none := He.free_ok X G (c.fact 33 (f := .free "all") rfl)
theorem hfree_bool : mg "bool" = none := He.free_ok X G (c.fact 34 (f := .free "bool") rfl)
theorem hfree_enumerate : mg "enumerate" = none := He.free_ok X G (c.fact 35 (f := .free "enumerate") rfl)
theorem hfree_int : mg "int" = none := He.free_ok X G (c.fact 36 (f := .free "int") rfl)
theorem hfree_isinstance : mg "isinstance" = none := He.free_ok X G (c.fact 37 (f := .free "isinstance") rfl)
theorem hfree_len : mg "len" = none := He.free_ok X G (c.fact 38 (f := .free "len") rfl)
theorem hfree_list : mg "list" = none := He.free_ok X G (c.fact 39 (f := .free "list") rfl)
theorem hfree_min : mg "min" = none := He.free_ok X G (c.fact 40 (f := .free "min") rfl)
theorem hfree_range : mg "range" = none := He.free_ok X G (c.fact 41 (f := .free "range") rfl)
theorem hfree_str : mg "str" = none := He.free_ok X G (c.fact 42 (f := .free "str") rfl)
theorem hfree_tuple : mg "tuple" = none := He.free_ok X G (c.fact 43 (f := .free "tuple") rfl)
theorem hx_0 : (He.Fa.ok K (.glo "PullError")) = true := c.fact 44 rfl
theorem hx_1 : (He.Fa.ok K (.glo "Apart")) = true := c.fact 45 rfl
theorem hx_2 : (He.Fa.ok K (.glo "BadChanges")) = true := c.fact 46 rfl
theorem hx_3 : (He.Fa.ok K (.glo "BadDoors")) = true := c.fact 47 rfl
theorem hx_4 : (He.Fa.ok K (.glo "BadHouse")) = true := c.fact 48 rfl
theorem hx_5 : (He.Fa.ok K (.glo "BadRooms")) = true := c.fact 49 rfl
theorem hx_6 : (He.Fa.ok K (.glo "BadSingle")) = true := c.fact 50 rfl
theorem hx_7 : (He.Fa.ok K (.glo "House")) = true := c.fact 51 rfl
theorem hx_8 : (He.Fa.ok K (.int "MOST_ROOMS" 12)) = true := c.fact 52 rfl
theorem hx_9 : (He.Fa.ok K (.int "MOST_DOORS" 20)) = true := c.fact 53 rfl
theorem hx_10 : (He.Fa.ok K (.int "GREATEST" 999)) = true := c.fact 54 rfl
theorem hx_11 : (He.Fa.ok K (.int "MOST_CHANGES" 30)) = true := c.fact 55 rfl
theorem hx_12 : (He.Fa.ok K (.glo "UNITS")) = true := c.fact 56 rfl
theorem hx_13 : (He.Fa.ok K (.exc "BadChanges")) = true := c.fact 57 rfl
theorem hx_14 : (He.Fa.ok K (.exm "BadChanges" "PullError" true)) = true := c.fact 58 rfl
theorem hx_15 : (He.Fa.ok K (.exc "BadDoors")) = true := c.fact 59 rfl
theorem hx_16 : (He.Fa.ok K (.exm "BadDoors" "PullError" true)) = true := c.fact 60 rfl
theorem hx_17 : (He.Fa.ok K (.exc "BadHouse")) = true := c.fact 61 rfl
theorem hx_18 : (He.Fa.ok K (.exm "BadHouse" "PullError" true)) = true := c.fact 62 rfl
theorem hx_19 : (He.Fa.ok K (.exc "BadRooms")) = true := c.fact 63 rfl
theorem hx_20 : (He.Fa.ok K (.exm "BadRooms" "PullError" true)) = true := c.fact 64 rfl
theorem hx_21 : (He.Fa.ok K (.exc "BadSingle")) = true := c.fact 65 rfl
theorem hx_22 : (He.Fa.ok K (.exm "BadSingle" "PullError" true)) = true := c.fact 66 rfl
theorem hx_23 : (He.Fa.ok K (.mkr "House")) = true := c.fact 67 rfl
theorem hdi_House : DefI K mg "House" "House.__init__" s_House_init ["rooms", "doors"] (He.ga K "House") := (c.def_ 32 (d := hd_House_init) rfl).elim fun fd F => defi_of F (He.mkr_ok (hx_23 X G c)) (He.glo_ok X G (hx_7 X G c)) fun _ _ _ _ _ _ us hl => match us, hl with | [_, _, _], _ => rfl
end
def exL (K : PySem.W.Frag) : List Bool := [excCB K (He.ga K "BadChanges"), decide (PySem.W.kitOne K (.ref (He.ga K "BadChanges")) (.ref (He.ga K "BadChanges")) = some true), excCB K (He.ga K "BadDoors"), decide (PySem.W.kitOne K (.ref (He.ga K "BadDoors")) (.ref (He.ga K "BadDoors")) = some true), excCB K (He.ga K "BadHouse"), decide (PySem.W.kitOne K (.ref (He.ga K "BadHouse")) (.ref (He.ga K "BadHouse")) = some true), excCB K (He.ga K "BadRooms"), decide (PySem.W.kitOne K (.ref (He.ga K "BadRooms")) (.ref (He.ga K "BadRooms")) = some true), excCB K (He.ga K "BadSingle"), decide (PySem.W.kitOne K (.ref (He.ga K "BadSingle")) (.ref (He.ga K "BadSingle")) = some true), clsB K (He.ga K "House") ["rooms", "doors"]]
def exB (K : PySem.W.Frag) : Bool := (exL K).all id
theorem exB_get {K : PySem.W.Frag} (h : exB K = true) (i : Nat) {b : Bool} (e : (exL K)[i]? = some b) : b = true := List.all_eq_true.mp h b (List.mem_of_getElem? e)
abbrev Rr : PySem.W.OpenRow := PySem.W.OpenLaw.row PySem.Challenge.rw_pulledrooms_k93_houses_of_one_door
def lawP : List He.Defn := [("law", none)]
abbrev lawTt (K : PySem.W.Frag) : List (Addr × Str) := [((He.cT K ("law", none)).2, "law.<locals>.<lambda>")]
abbrev hkX : PySem.W.Hook := He.hookX 5 hfa hfn [] lawP exB
def obK (s : PySem.W.SharedT) : He.AlX := He.obsX 5 hfa hfn [] lawP exB (HandSHeadRun.getT s)
theorem obK_eq (s : PySem.W.SharedT) : obK s = hkX.obs s.abs := He.obsX_eq (HandSHeadRun.getT_eq s)
theorem runK (w : World) : HandSHeadRun.RunEq Rr (PySem.W.view Rr.prog [lawIx]) hkX obK 8000 hloose w := by
  intro os
  kernel_rfl
theorem lawAt {w : World} {K : PySem.W.Frag} {h : Heap} {mg : Str → Option Value} {fa : Addr} (KX : K.In h) (G : h.Ns mainGlobals mg) (hmg : mg "law" = some (.ref fa)) (c : He.SaysX hfa hfn [] lawP exB w h K) :
    LamX.LawAtS PySem.Challenge.rw_pulledrooms_k93_houses_of_one_door w K (L2.CX (PySem.Challenge.rw_pulledrooms_k93_houses_of_one_door).prog w) 10 63 "_law_script" mg fa h := by
  have d := c.t.d
  have e := hmg.symm.trans (hg_law KX G d)
  cases e
  have m := c.more
  have T : Txt K mg := { b_abs := hfree_abs KX G d, b_all := hfree_all KX G d, b_bool := hfree_bool KX G d, b_enumerate := hfree_enumerate KX G d, b_int := hfree_int KX G d, b_isinstance := hfree_isinstance KX G d, b_len := hfree_len KX G d, b_list := hfree_list KX G d, b_min := hfree_min KX G d, b_range := hfree_range KX G d, b_str := hfree_str KX G d, b_tuple := hfree_tuple KX G d, g_MOST_ROOMS := He.int_ok KX G (hx_8 KX G d), g_MOST_DOORS := He.int_ok KX G (hx_9 KX G d), g_GREATEST := He.int_ok KX G (hx_10 KX G d), g_MOST_CHANGES := He.int_ok KX G (hx_11 KX G d), g_UNITS := He.glo_ok KX G (hx_12 KX G d), c_PullError := He.glo_ok KX G (hx_0 KX G d), c_Apart := He.glo_ok KX G (hx_1 KX G d), c_BadChanges := He.glo_ok KX G (hx_2 KX G d), c_BadDoors := He.glo_ok KX G (hx_3 KX G d), c_BadHouse := He.glo_ok KX G (hx_4 KX G d), c_BadRooms := He.glo_ok KX G (hx_5 KX G d), c_BadSingle := He.glo_ok KX G (hx_6 KX G d), c_House := He.glo_ok KX G (hx_7 KX G d), x_BadChanges := excT_of KX G (hx_2 KX G d) (hx_13 KX G d), e_BadChanges := excC_of (exB_get m 0 rfl), k_BadChanges := of_decide_eq_true (exB_get m 1 rfl), m_BadChanges := He.exm_ok (hx_14 KX G d), x_BadDoors := excT_of KX G (hx_3 KX G d) (hx_15 KX G d), e_BadDoors := excC_of (exB_get m 2 rfl), k_BadDoors := of_decide_eq_true (exB_get m 3 rfl), m_BadDoors := He.exm_ok (hx_16 KX G d), x_BadHouse := excT_of KX G (hx_4 KX G d) (hx_17 KX G d), e_BadHouse := excC_of (exB_get m 4 rfl), k_BadHouse := of_decide_eq_true (exB_get m 5 rfl), m_BadHouse := He.exm_ok (hx_18 KX G d), x_BadRooms := excT_of KX G (hx_5 KX G d) (hx_19 KX G d), e_BadRooms := excC_of (exB_get m 6 rfl), k_BadRooms := of_decide_eq_true (exB_get m 7 rfl), m_BadRooms := He.exm_ok (hx_20 KX G d), x_BadSingle := excT_of KX G (hx_6 KX G d) (hx_21 KX G d), e_BadSingle := excC_of (exB_get m 8 rfl), k_BadSingle := of_decide_eq_true (exB_get m 9 rfl), m_BadSingle := He.exm_ok (hx_22 KX G d), cl_House := clsT_of (exB_get m 10 rfl) }
  have TD : Txd mg := ⟨T.b_len, T.b_int, T.b_abs⟩
  obtain ⟨fd, F⟩ := d.def_ 31 (d := hd_law) rfl
  have bnd : ∀ (kV doc pm : Value) (an : Option Addr) (cdv ct : Value) (us : List Value), us.length = (["_law_script"] : List Str).length → bindArgs (PySem.W.fnOf "law" "law" (defArgs s_law) (defBody s_law) (defScope s_law) .none kV doc pm an cdv ct) ⟨us, []⟩ = pure ((["_law_script"] : List Str).zip us) := fun _ _ _ _ _ _ us hl => match us, hl with | [_], _ => rfl
  refine ⟨fd, lawP.map (He.cT K), spLaw K (lawTt K), fun p hp => ?_, fun p hp => ?_, fun p hp => ?_, fun s u => FunD.bindsA F bnd s [u] rfl, fun H a ns hl _ hT hS => ⟨a, ns, rfl, hS, hl, fun p hp => ?_, fun _ => rfl⟩, fun base KB GB TB => ?_⟩
  · obtain ⟨q, hq, e⟩ := List.mem_map.mp hp; rw [← e]; exact c.empty _ hq
  · obtain ⟨q, hq, e⟩ := List.mem_map.mp hp; rw [← e]; exact c.out _ hq
  · obtain ⟨q, hq, e⟩ := List.mem_map.mp hp; rw [← e]; exact PySem.W.codeHd_of_K KX (c.hd _ hq)
  · simp only [lawTt, List.mem_cons, List.not_mem_nil, or_false] at hp
    rcases hp with rfl
    all_goals exact LamX.TabS.nil (hT (He.cT K (_, none)) (List.mem_map.mpr ⟨_, by simp [lawP], rfl⟩))
  ·
    have k__law_begun := ok__law_begun (P := (PySem.Challenge.rw_pulledrooms_k93_houses_of_one_door).prog) (w := w) (base := base) TD (hdf__law_begun KX G d)
    have k_joined_rooms := ok_joined_rooms (P := (PySem.Challenge.rw_pulledrooms_k93_houses_of_one_door).prog) (w := w) (base := base) (Tt := lawTt K) T (hdf_joined_rooms KX G d) 
    have k_is_number := ok_is_number (P := (PySem.Challenge.rw_pulledrooms_k93_houses_of_one_door).prog) (w := w) (base := base) (Tt := lawTt K) T (hdf_is_number KX G d) 
    have k_is_below := ok_is_below (P := (PySem.Challenge.rw_pulledrooms_k93_houses_of_one_door).prog) (w := w) (base := base) (Tt := lawTt K) T (hdf_is_below KX G d) k_is_number
    have k_is_door := ok_is_door (P := (PySem.Challenge.rw_pulledrooms_k93_houses_of_one_door).prog) (w := w) (base := base) (Tt := lawTt K) T (hdf_is_door KX G d) k_is_below k_is_number
    have k_are_doors := ok_are_doors (P := (PySem.Challenge.rw_pulledrooms_k93_houses_of_one_door).prog) (w := w) (base := base) (Tt := lawTt K) T (hdf_are_doors KX G d) k_is_door
    have k_House := ok_House (P := (PySem.Challenge.rw_pulledrooms_k93_houses_of_one_door).prog) (w := w) (base := base) (Tt := lawTt K) T (hdi_House KX G d) k_joined_rooms k_are_doors k_is_number
    have k__law_blended := ok__law_blended (P := (PySem.Challenge.rw_pulledrooms_k93_houses_of_one_door).prog) (w := w) (base := base) TD (hdf__law_blended KX G d)
    have k__law_draw := ok__law_draw (Tt := lawTt K) TD (hdf__law_draw KX G d) k__law_blended
    have k__law_pick := ok__law_pick TD (hdf__law_pick KX G d) k__law_draw
    have k__law_size := ok__law_size (P := (PySem.Challenge.rw_pulledrooms_k93_houses_of_one_door).prog) (w := w) (base := base) (Tt := lawTt K) T (hdf__law_size KX G d) k__law_pick
    have k_need_single := ok_need_single (P := (PySem.Challenge.rw_pulledrooms_k93_houses_of_one_door).prog) (w := w) (base := base) (Tt := lawTt K) T (hdf_need_single KX G d) 
    have k_single_alike := ok_single_alike (P := (PySem.Challenge.rw_pulledrooms_k93_houses_of_one_door).prog) (w := w) (base := base) (Tt := lawTt K) T (hdf_single_alike KX G d) k_need_single
    have k_need_house := ok_need_house (P := (PySem.Challenge.rw_pulledrooms_k93_houses_of_one_door).prog) (w := w) (base := base) (Tt := lawTt K) T (hdf_need_house KX G d) 
    have k_with_door := ok_with_door (P := (PySem.Challenge.rw_pulledrooms_k93_houses_of_one_door).prog) (w := w) (base := base) (Tt := lawTt K) T (hdf_with_door KX G d) 
    have k_folded_doors := never_ok (P := (PySem.Challenge.rw_pulledrooms_k93_houses_of_one_door).prog) (w := w) (base := base) (m := 2) (k := 1) (hdf_folded_doors KX G d)
    have k_turned_doors := ok_turned_doors (P := (PySem.Challenge.rw_pulledrooms_k93_houses_of_one_door).prog) (w := w) (base := base) (Tt := lawTt K) T (hdf_turned_doors KX G d) 
    have k_slid_door := never_ok (P := (PySem.Challenge.rw_pulledrooms_k93_houses_of_one_door).prog) (w := w) (base := base) (m := 3) (k := 1) (hdf_slid_door KX G d)
    have k_parts_behind := ok_parts_behind (P := (PySem.Challenge.rw_pulledrooms_k93_houses_of_one_door).prog) (w := w) (base := base) (Tt := lawTt K) T (hdf_parts_behind KX G d) k_with_door k_folded_doors k_turned_doors k_slid_door
    have k_fits_fold := never_ok (P := (PySem.Challenge.rw_pulledrooms_k93_houses_of_one_door).prog) (w := w) (base := base) (m := 2) (k := 1) (hdf_fits_fold KX G d)
    have k_fits_slide := never_ok (P := (PySem.Challenge.rw_pulledrooms_k93_houses_of_one_door).prog) (w := w) (base := base) (m := 3) (k := 1) (hdf_fits_slide KX G d)
    have k_fits_change := ok_fits_change (P := (PySem.Challenge.rw_pulledrooms_k93_houses_of_one_door).prog) (w := w) (base := base) (Tt := lawTt K) T (hdf_fits_change KX G d) k_fits_fold k_is_below k_is_number k_fits_slide
    have k_is_change_of := ok_is_change_of (P := (PySem.Challenge.rw_pulledrooms_k93_houses_of_one_door).prog) (w := w) (base := base) (Tt := lawTt K) T (hdf_is_change_of KX G d) k_parts_behind k_fits_change k_are_doors
    have k_house_behind := ok_house_behind (P := (PySem.Challenge.rw_pulledrooms_k93_houses_of_one_door).prog) (w := w) (base := base) (Tt := lawTt K) T (hdf_house_behind KX G d) k_parts_behind k_House
    have k_houses_behind := ok_houses_behind (P := (PySem.Challenge.rw_pulledrooms_k93_houses_of_one_door).prog) (w := w) (base := base) (Tt := lawTt K) T (hdf_houses_behind KX G d) k_is_change_of k_house_behind
    have k_changed_by := ok_changed_by (P := (PySem.Challenge.rw_pulledrooms_k93_houses_of_one_door).prog) (w := w) (base := base) (Tt := lawTt K) T (hdf_changed_by KX G d) k_need_house k_houses_behind
    have k__law_is_truth := ok__law_is_truth (P := (PySem.Challenge.rw_pulledrooms_k93_houses_of_one_door).prog) (w := w) (base := base) (Tt := lawTt K) T (hdf__law_is_truth KX G d) 
    have only_law : ∀ p ∈ lawTt K, p.1 = (He.cT K ("law", none)).2 → p.2 = "law.<locals>.<lambda>" := fun p hp e => by
      simp only [lawTt, List.mem_cons, List.not_mem_nil, or_false] at hp
      rcases hp with rfl
      · rfl
    have k_law := ok_law (P := (PySem.Challenge.rw_pulledrooms_k93_houses_of_one_door).prog) (w := w) (base := base) (Tt := lawTt K) T (hdc_law KX G d) (hdf__law_caught KX G d) (TB (He.cT K ("law", none)) (List.mem_map.mpr ⟨_, by simp [lawP], rfl⟩)) (by simp [lawTt]) only_law k__law_begun k_House k__law_pick k__law_size k_single_alike k_changed_by k__law_is_truth k__law_draw
    exact Cal.fnok k_law F (hg_law KX G d)
end Kx
open PySem PySem.W PySem.Calls PyProof.Rows
theorem PySem.Challenge.cw_pulledrooms_k93_houses_of_one_door_holds : PySem.Challenge.rw_pulledrooms_k93_houses_of_one_door.Holds := by
  w_on; o_law
  refine HandSHeadRun.head_any (r := OpenLaw.row PySem.Challenge.rw_pulledrooms_k93_houses_of_one_door) (q := view (OpenLaw.row PySem.Challenge.rw_pulledrooms_k93_houses_of_one_door).prog [Kx.lawIx]) (H := Kx.hkX) (ob := Kx.obK) (M := 8000) (loose := Kx.hloose) (d := HandSHeadRun.topDef (OpenLaw.row PySem.Challenge.rw_pulledrooms_k93_houses_of_one_door).prog Kx.lawIx) (kwd := []) Kx.obK_eq
    (by kernel_rfl) (fun s => by kernel_rfl) Kx.runK (by kernel_rfl) (by kernel_rfl) (by kernel_rfl) (by rfl) (by first | assumption | decide +kernel) (by decide +kernel) ⟨rfl, rfl, rfl, rfl, rfl, by decide +kernel⟩ ?hw ?hc
  case hw => w_witness2
  case hc =>
    refine LamX.walk_ofTsE (l := PySem.Challenge.rw_pulledrooms_k93_houses_of_one_door) (n := 63) (k := 10) (x := "_law_script") (CX := fun w => L2.CX (PySem.Challenge.rw_pulledrooms_k93_houses_of_one_door).prog w) rfl (by decide) (by kernel_rfl) ⟨rfl, by decide, by decide⟩ ?F fun w H s e s' h => ?N
    case N =>
      obtain ⟨_, _, _, _, _, _, _, _, _, _, _, _, z⟩ := h
      exact z.elim
    case F =>
      intro w mg fa h Y G hmg0
      obtain ⟨K, KX, c⟩ := Y
      have hmg : mg ("law" : PySem.Str) = some (.ref fa) := by
        have e : (HandSHeadRun.topDef (OpenLaw.row PySem.Challenge.rw_pulledrooms_k93_houses_of_one_door).prog Kx.lawIx).name = ("law" : PySem.Str) := by kernel_rfl
        rw [← e]
        exact hmg0
      exact ⟨K, KX, Kx.lawAt KX G hmg c⟩
