import PyProof.Rows.All
import Wide.All
import OpenK.AllK
import Wide.FinOn
import HandS.ForMost
import HandS.Deep
import HandS.IsInst
import HandS.Gcd
import HandS.Wide
import HandS.Evl
import HandS.Property
import HandS.MakeKwOnly
import HandS.Strs
import HandS.Rev
import HandS.TupAny
import HandS.Defaults
import HandS.Head0
import HandS.Head1
import HandS.Head2
import HandS.HeadEnd
import HandS.HeadHook1
import HandS.HeadHook2
import KE.GoesEnum
import HandS.HeadHook4
import HandS.Head3
import PySem.Challenge.RW_unbent_k68_whole_honest_parties_are_not
set_option Elab.async false
set_option linter.all false
set_option maxRecDepth 100000
set_option maxHeartbeats 0
/-! (Dl) -/
/-! A layer over HandS: values are plain data (PyData) or handles of tracked mutable objects; heaps vanish from what one proves. -/
namespace DL
open PySem PySem.Spec PyProof.Rows L2

inductive Dt where
  | dat (d : PyData)
  | obj (a : Addr)
inductive GO where
  | lst (xs : List PyData)
  | nums
  | ins (C : Addr) (ns : List Str) (ds : List Dt)
  | dic (kvs : List (Key × Dt))
abbrev GH := Addr → Option GO
abbrev De := List (Option Dt)
def updG (G : GH) (a : Addr) (o : GO) : GH := fun b => if b = a then some o else G b
theorem updG_same {G : GH} {a : Addr} {o : GO} : updG G a o a = some o := by unfold updG; rw [if_pos rfl]
theorem updG_ne {G : GH} {a b : Addr} {o : GO} (h : b ≠ a) : updG G a o b = G b := by unfold updG; rw [if_neg h]
theorem updG_updG {G : GH} {a : Addr} {o u : GO} : updG (updG G a o) a u = updG G a u := by
  funext b; unfold updG; split <;> rfl
theorem updG_self {G : GH} {a : Addr} {o : GO} (h : G a = some o) : updG G a o = G := by
  funext b; unfold updG
  by_cases e : b = a
  · subst e; rw [if_pos rfl, h]
  · rw [if_neg e]
theorem neG {G : GH} {a b : Addr} {o u : GO} (h : G a = some o) (h' : G b = some u) (d : o ≠ u) : a ≠ b := by
  intro e; subst e; rw [h] at h'; exact d (Option.some.inj h')
theorem neG_none {G : GH} {a b : Addr} {o : GO} (h : G a = some o) (h' : G b = none) : a ≠ b := by
  intro e; subst e; rw [h] at h'; cases h'
/-- what data may not be: private, or a tracked mutable object -/
def Bk (P : Addr → Prop) (G : GH) (a : Addr) : Prop := P a ∨ ∃ o, G a = some o

mutual
inductive Dq (K : PySem.W.Frag) (B : Addr → Prop) (H : Hp) : V → PyData → Prop
  | non : Dq K B H .non .none
  | bl (b : Bool) : Dq K B H (.bl b) (.bool b)
  | int (i : Int) : Dq K B H (.int i) (.int i)
  | str (x : Str) : Dq K B H (.str x) (.str x)
  | lst {a : Addr} {xs : List V} {ds : List PyData} : ¬ B a → Rd H a (.lst xs) → DqAll K B H xs ds → Dq K B H (.ref a) (.list ds)
  | tup {a : Addr} {xs : List V} {ds : List PyData} : SqT K H a xs → DqAll K B H xs ds → Dq K B H (.ref a) (.tuple ds)
inductive DqAll (K : PySem.W.Frag) (B : Addr → Prop) (H : Hp) : List V → List PyData → Prop
  | nil : DqAll K B H [] []
  | cons {v : V} {vs : List V} {d : PyData} {ds : List PyData} : Dq K B H v d → DqAll K B H vs ds → DqAll K B H (v :: vs) (d :: ds)
end
section
variable {K : PySem.W.Frag} {B B' : Addr → Prop} {H H' : Hp}
mutual
theorem Dq.map (ht : ∀ a xs, SqT K H a xs → SqT K H' a xs) (hl : ∀ a xs, ¬ B a → Rd H a (.lst xs) → ¬ B' a ∧ Rd H' a (.lst xs)) : ∀ {v : V} {d : PyData}, Dq K B H v d → Dq K B' H' v d
  | _, _, .non => .non
  | _, _, .bl b => .bl b
  | _, _, .int i => .int i
  | _, _, .str x => .str x
  | _, _, .lst n r a => .lst (hl _ _ n r).1 (hl _ _ n r).2 (DqAll.map ht hl a)
  | _, _, .tup r a => .tup (ht _ _ r) (DqAll.map ht hl a)
theorem DqAll.map (ht : ∀ a xs, SqT K H a xs → SqT K H' a xs) (hl : ∀ a xs, ¬ B a → Rd H a (.lst xs) → ¬ B' a ∧ Rd H' a (.lst xs)) : ∀ {v : List V} {d : List PyData}, DqAll K B H v d → DqAll K B' H' v d
  | _, _, .nil => .nil
  | _, _, .cons a b => .cons (Dq.map ht hl a) (DqAll.map ht hl b)
end
mutual
theorem Dq.dp : ∀ {v : V} {d : PyData}, Dq K B H v d → Dp K H v d
  | _, _, .non => .non
  | _, _, .bl b => .bl b
  | _, _, .int i => .int i
  | _, _, .str x => .str x
  | _, _, .lst _ r a => .lst (.inl r) (DqAll.dp a)
  | _, _, .tup r a => .tup r (DqAll.dp a)
theorem DqAll.dp : ∀ {v : List V} {d : List PyData}, DqAll K B H v d → DpAll K H v d
  | _, _, .nil => .nil
  | _, _, .cons a b => .cons (Dq.dp a) (DqAll.dp b)
end
theorem DqAll.length : ∀ {vs : List V} {ds : List PyData}, DqAll K B H vs ds → vs.length = ds.length
  | _, _, .nil => rfl
  | _, _, .cons _ b => congrArg Nat.succ (DqAll.length b)
theorem DqAll.get : ∀ {vs : List V} {ds : List PyData} {i : Nat} {d : PyData}, DqAll K B H vs ds → ds[i]? = some d → ∃ v, vs[i]? = some v ∧ Dq K B H v d
  | _, _, _, _, .nil, e => by simp at e
  | _, _, 0, _, .cons r _, e => by simp at e; subst e; exact ⟨_, rfl, r⟩
  | _, _, i + 1, x, .cons _ t, e => by
    obtain ⟨u, h1, h2⟩ := DqAll.get (i := i) t (by simpa using e)
    exact ⟨u, by simpa using h1, h2⟩
theorem DqAll.getV : ∀ {vs : List V} {ds : List PyData} {i : Nat} {v : V}, DqAll K B H vs ds → vs[i]? = some v → ∃ d, ds[i]? = some d ∧ Dq K B H v d
  | _, _, _, _, .nil, e => by simp at e
  | _, _, 0, _, .cons r _, e => by simp at e; subst e; exact ⟨_, rfl, r⟩
  | _, _, i + 1, x, .cons _ t, e => by
    obtain ⟨u, h1, h2⟩ := DqAll.getV (i := i) t (by simpa using e)
    exact ⟨u, by simpa using h1, h2⟩
theorem DqAll.append : ∀ {vs : List V} {ds : List PyData} {ws : List V} {es : List PyData}, DqAll K B H vs ds → DqAll K B H ws es → DqAll K B H (vs ++ ws) (ds ++ es)
  | _, _, _, _, .nil, s => s
  | _, _, _, _, .cons r t, s => .cons r (DqAll.append t s)
theorem DqAll.one {v : V} {d : PyData} (h : Dq K B H v d) : DqAll K B H [v] [d] := .cons h .nil
theorem DqAll.take : ∀ {vs : List V} {ds : List PyData} (n : Nat), DqAll K B H vs ds → DqAll K B H (vs.take n) (ds.take n)
  | _, _, 0, _ => .nil
  | _, _, _ + 1, .nil => .nil
  | _, _, n + 1, .cons r t => .cons r (DqAll.take n t)
theorem DqAll.drop : ∀ {vs : List V} {ds : List PyData} (n : Nat), DqAll K B H vs ds → DqAll K B H (vs.drop n) (ds.drop n)
  | _, _, 0, r => r
  | _, _, _ + 1, .nil => .nil
  | _, _, n + 1, .cons _ t => DqAll.drop n t
theorem DqAll.set : ∀ {vs : List V} {ds : List PyData} {v : V} {d : PyData} (n : Nat), DqAll K B H vs ds → Dq K B H v d → DqAll K B H (vs.set n v) (ds.set n d)
  | _, _, _, _, _, .nil, _ => .nil
  | _, _, _, _, 0, .cons r t, q => .cons q t
  | _, _, _, _, n + 1, .cons r t, q => .cons r (DqAll.set n t q)
theorem DqAll.nums : ∀ {vs : List V} {ns : List Int}, DqAll K B H vs (ns.map PyData.int) → vs = ns.map V.int
  | _, [], .nil => rfl
  | _, n :: ns, .cons (.int _) t => by rw [DqAll.nums (ns := ns) t]; rfl
theorem DqAll.bools : ∀ {vs : List V} {ns : List Bool}, DqAll K B H vs (ns.map PyData.bool) → vs = ns.map V.bl
  | _, [], .nil => rfl
  | _, n :: ns, .cons (.bl _) t => by rw [DqAll.bools (ns := ns) t]; rfl
theorem DqAll.strs : ∀ {vs : List V} {ns : List Str}, DqAll K B H vs (ns.map PyData.str) → vs = ns.map V.str
  | _, [], .nil => rfl
  | _, n :: ns, .cons (.str _) t => by rw [DqAll.strs (ns := ns) t]; rfl
end
/-- a value and what one knows of it -/
def VR (K : PySem.W.Frag) (B : Addr → Prop) (H : Hp) (v : V) : Dt → Prop
  | .dat d => Dq K B H v d
  | .obj a => v = .ref a
def OR (K : PySem.W.Frag) (B : Addr → Prop) (H : Hp) (a : Addr) : GO → Prop
  | .lst xs => ∃ vs, H a = some (.lst vs) ∧ DqAll K B H vs xs
  | .nums => ∃ ns : List Int, H a = some (.lst (ns.map V.int))
  | .ins C ns ds => ∃ dx vs, H a = some (.ins C dx (ns.zip vs)) ∧ ns.length = vs.length ∧ Paired (VR K B H) vs ds
  | .dic kvs => ∃ kv : List (Key × V), H a = some (.dK kv) ∧ Paired (fun p q => p.1 = q.1 ∧ VR K B H p.2 q.2) kv kvs
structure R (K : PySem.W.Frag) (P : Addr → Prop) (G : GH) (H : Hp) : Prop where
  ob : ∀ a o, G a = some o → OR K (Bk P G) H a o
  pr : ∀ a, P a → G a = none ∧ ∃ o, H a = some o
/-- what stands is kept: the tuples, and all that G does not track -/
structure Stab (G : GH) (H : Hp) (G' : GH) (H' : Hp) : Prop where
  tup : ∀ a xs, Rd H a (.tup xs) → Rd H' a (.tup xs)
  keep : ∀ a o, G a = none → H a = some o → H' a = some o ∧ G' a = none
def SR (K : PySem.W.Frag) (B : Addr → Prop) (H : Hp) (σ : L2.St) (δ : De) : Prop :=
  σ.length = δ.length ∧ ∀ (i : Nat) (d : Dt), δ[i]? = some (some d) → ∃ v, σ[i]? = some (some v) ∧ VR K B H v d
section
variable {K : PySem.W.Frag} {P : Addr → Prop} {G G1 G2 : GH} {H H1 H2 : Hp} {v : V} {d : Dt} {σ : L2.St} {δ : De}
theorem OR.there {B : Addr → Prop} {a : Addr} {o : GO} (h : OR K B H a o) : ∃ u, H a = some u := by
  cases o with
  | lst xs => obtain ⟨_, e, _⟩ := h; exact ⟨_, e⟩
  | nums => obtain ⟨_, e⟩ := h; exact ⟨_, e⟩
  | ins C ns ds => obtain ⟨_, _, e, _⟩ := h; exact ⟨_, e⟩
  | dic kvs => obtain ⟨_, e, _⟩ := h; exact ⟨_, e⟩
theorem R.there (r : R K P G H) {a : Addr} {o : GO} (h : G a = some o) : ∃ u, H a = some u := (r.ob a o h).there
theorem R.freshG (r : R K P G H) {a : Addr} (h : H a = none) : G a = none := by
  cases e : G a with
  | none => rfl
  | some o =>
    obtain ⟨u, q⟩ := r.there e
    rw [h] at q; cases q
theorem R.freshP (r : R K P G H) {a : Addr} (h : H a = none) : ¬ P a := fun p => by
  obtain ⟨_, o, q⟩ := r.pr a p
  rw [h] at q; cases q
theorem R.freshB (r : R K P G H) {a : Addr} (h : H a = none) : ¬ Bk P G a := fun b => by
  rcases b with p | ⟨o, e⟩
  · exact r.freshP h p
  · rw [r.freshG h] at e; cases e
theorem nbk {a : Addr} (n : ¬ Bk P G a) : G a = none := by
  cases e : G a with
  | none => rfl
  | some o => exact absurd (.inr ⟨o, e⟩) n
theorem Stab.refl : Stab G H G H := ⟨fun _ _ h => h, fun _ _ n h => ⟨h, n⟩⟩
theorem Stab.trans (a : Stab G H G1 H1) (b : Stab G1 H1 G2 H2) : Stab G H G2 H2 :=
  ⟨fun c xs h => b.tup c xs (a.tup c xs h), fun c o n h => b.keep c o (a.keep c o n h).2 (a.keep c o n h).1⟩
theorem Stab.sqT (s : Stab G H G1 H1) {a : Addr} {xs : List V} (h : SqT K H a xs) : SqT K H1 a xs := by
  rcases h with h | h
  · exact .inl (s.tup a xs h)
  · exact .inr h
theorem Stab.rd (s : Stab G H G1 H1) {a : Addr} {u : HO} (n : G a = none) (h : Rd H a u) : Rd H1 a u := by
  rcases h with h | ⟨ob, h⟩
  · exact .inl (s.keep a _ n h).1
  · exact .inr ⟨ob, (s.keep a _ n h).1⟩
theorem Rd.some {a : Addr} {u : HO} (h : Rd H a u) : ∃ o, H a = some o := by
  rcases h with h | ⟨ob, h⟩
  · exact ⟨_, h⟩
  · exact ⟨_, h⟩
/-- seen from a later state, with other private objects, none of which stood -/
theorem Stab.lstP {P' : Addr → Prop} (s : Stab G H G1 H1) (hp : ∀ a, P' a → P a ∨ H a = none) : ∀ (a : Addr) (xs : List V), ¬ Bk P G a → Rd H a (.lst xs) → ¬ Bk P' G1 a ∧ Rd H1 a (.lst xs) := fun a xs n q => by
  refine ⟨fun b => ?_, s.rd (nbk n) q⟩
  obtain ⟨o, e⟩ := Rd.some q
  rcases b with b | ⟨o', e'⟩
  · rcases hp a b with z | z
    · exact n (.inl z)
    · rw [e] at z; cases z
  · rw [(s.keep a o (nbk n) e).2] at e'; cases e'
theorem Stab.lst (s : Stab G H G1 H1) : ∀ (a : Addr) (xs : List V), ¬ Bk P G a → Rd H a (.lst xs) → ¬ Bk P G1 a ∧ Rd H1 a (.lst xs) := s.lstP fun _ p => .inl p
theorem Stab.dqP {P' : Addr → Prop} (s : Stab G H G1 H1) (hp : ∀ a, P' a → P a ∨ H a = none) {d : PyData} (h : Dq K (Bk P G) H v d) : Dq K (Bk P' G1) H1 v d := h.map (fun _ _ => s.sqT) (s.lstP hp)
theorem Stab.dqAP {P' : Addr → Prop} (s : Stab G H G1 H1) (hp : ∀ a, P' a → P a ∨ H a = none) {vs : List V} {d : List PyData} (h : DqAll K (Bk P G) H vs d) : DqAll K (Bk P' G1) H1 vs d := h.map (fun _ _ => s.sqT) (s.lstP hp)
theorem Stab.vrP {P' : Addr → Prop} (s : Stab G H G1 H1) (hp : ∀ a, P' a → P a ∨ H a = none) (h : VR K (Bk P G) H v d) : VR K (Bk P' G1) H1 v d := by
  cases d with
  | dat d => exact s.dqP hp h
  | obj a => exact h
theorem Stab.dq (s : Stab G H G1 H1) {d : PyData} (h : Dq K (Bk P G) H v d) : Dq K (Bk P G1) H1 v d := s.dqP (fun _ p => .inl p) h
theorem Stab.dqA (s : Stab G H G1 H1) {vs : List V} {ds : List PyData} (h : DqAll K (Bk P G) H vs ds) : DqAll K (Bk P G1) H1 vs ds := s.dqAP (fun _ p => .inl p) h
theorem Stab.vr (s : Stab G H G1 H1) (h : VR K (Bk P G) H v d) : VR K (Bk P G1) H1 v d := s.vrP (fun _ p => .inl p) h
theorem Paired.map {α β : Type} {F F' : α → β → Prop} : ∀ {xs : List α} {ys : List β}, Paired F xs ys → (∀ x y, F x y → F' x y) → Paired F' xs ys
  | _, _, .nil, _ => .nil
  | _, _, .cons r t, h => .cons (h _ _ r) (Paired.map t h)
theorem Stab.vrs (s : Stab G H G1 H1) {vs : List V} {ds : List Dt} (h : Paired (VR K (Bk P G) H) vs ds) : Paired (VR K (Bk P G1) H1) vs ds := Paired.map h fun _ _ => s.vr
theorem Stab.sr (s : Stab G H G1 H1) (h : SR K (Bk P G) H σ δ) : SR K (Bk P G1) H1 σ δ := ⟨h.1, fun i d e => by
  obtain ⟨v, e1, r⟩ := h.2 i d e
  exact ⟨v, e1, s.vr r⟩⟩
/-- an object is as it was, seen from a later state -/
theorem Stab.or (s : Stab G H G1 H1) {a : Addr} {o : GO} (h : OR K (Bk P G) H a o) (e : H1 a = H a) : OR K (Bk P G1) H1 a o := by
  cases o with
  | lst xs => obtain ⟨vs, q, r⟩ := h; exact ⟨vs, e.trans q, s.dqA r⟩
  | nums => obtain ⟨ns, q⟩ := h; exact ⟨ns, e.trans q⟩
  | ins C ns ds => obtain ⟨dx, vs, q, l, r⟩ := h; exact ⟨dx, vs, e.trans q, l, s.vrs r⟩
  | dic kvs => obtain ⟨kv, q, r⟩ := h; exact ⟨kv, e.trans q, Paired.map r fun _ _ z => ⟨z.1, s.vr z.2⟩⟩
/-- something new that G does not track -/
theorem Stab.new (r : R K P G H) {p : Addr} {o : HO} (h : H p = none) : Stab G H G (upd H p o) := by
  refine ⟨fun a xs q => ?_, fun a u n q => ⟨by rw [upd_ne (ne_of_none q h)]; exact q, n⟩⟩
  rcases q with q | ⟨ob, q⟩
  · exact .inl (by rw [upd_ne (ne_of_none q h)]; exact q)
  · exact .inr ⟨ob, by rw [upd_ne (ne_of_none q h)]; exact q⟩
theorem R.new (r : R K P G H) {p : Addr} {o : HO} (h : H p = none) : R K P G (upd H p o) := by
  refine ⟨fun a u e => (Stab.new r h).or (r.ob a u e) ?_, fun a q => ⟨(r.pr a q).1, ?_⟩⟩
  · obtain ⟨w, q⟩ := r.there e
    rw [upd_ne (ne_of_none q h)]
  · obtain ⟨_, w, e⟩ := r.pr a q
    exact ⟨w, by rw [upd_ne (ne_of_none e h)]; exact e⟩
theorem mutOf {B : Addr → Prop} {a : Addr} {o : GO} (h : OR K B H a o) : (∀ xs, ¬ Rd H a (.tup xs)) ∧ ∀ b u, H b = some (.own u) → b ≠ a := by
  have key : ∀ u, H a = some u → (∀ xs, u ≠ .tup xs) → (∀ ob w, u ≠ .frz ob w) → (∀ x, u ≠ .own x) → (∀ xs, ¬ Rd H a (.tup xs)) ∧ ∀ b w, H b = some (.own w) → b ≠ a := fun u e h1 h2 h3 =>
    ⟨fun xs q => by
      rcases q with q | ⟨ob, q⟩
      · rw [e] at q; exact h1 xs (Option.some.inj q)
      · rw [e] at q; exact h2 ob _ (Option.some.inj q),
    fun b w q z => by subst z; rw [e] at q; exact h3 w (Option.some.inj q)⟩
  cases o with
  | lst xs => obtain ⟨vs, e, _⟩ := h; exact key _ e (fun _ z => nomatch z) (fun _ _ z => nomatch z) fun _ z => nomatch z
  | nums => obtain ⟨vs, e⟩ := h; exact key _ e (fun _ z => nomatch z) (fun _ _ z => nomatch z) fun _ z => nomatch z
  | ins C ns ds => obtain ⟨dx, vs, e, _⟩ := h; exact key _ e (fun _ z => nomatch z) (fun _ _ z => nomatch z) fun _ z => nomatch z
  | dic kvs => obtain ⟨vs, e, _⟩ := h; exact key _ e (fun _ z => nomatch z) (fun _ _ z => nomatch z) fun _ z => nomatch z
/-- a tracked object is written -/
theorem Stab.write (r : R K P G H) {a : Addr} {o o' : GO} {u : HO} (h : G a = some o) : Stab G H (updG G a o') (upd H a u) := by
  have m := mutOf (r.ob a o h)
  refine ⟨fun b xs q => ?_, fun b w n q => ?_⟩
  · have hb : b ≠ a := fun z => by subst z; exact m.1 xs q
    rcases q with q | ⟨ob, q⟩
    · exact .inl (by rw [upd_ne hb]; exact q)
    · exact .inr ⟨ob, by rw [upd_ne hb]; exact q⟩
  · have hb : b ≠ a := fun z => by subst z; rw [n] at h; cases h
    rw [upd_ne hb, updG_ne hb]; exact ⟨q, n⟩
theorem R.write (r : R K P G H) {a : Addr} {o o' : GO} {u : HO} (h : G a = some o) (new : OR K (Bk P (updG G a o')) (upd H a u) a o') : R K P (updG G a o') (upd H a u) := by
  refine ⟨fun b w e => ?_, fun b p => ?_⟩
  · by_cases hb : b = a
    · subst hb; rw [updG_same] at e; cases e; exact new
    · rw [updG_ne hb] at e
      exact (Stab.write r h).or (r.ob b w e) (upd_ne hb)
  · have hb : b ≠ a := fun z => by subst z; rw [(r.pr b p).1] at h; cases h
    rw [updG_ne hb, upd_ne hb]; exact r.pr b p
/-- a new tracked object -/
theorem Stab.newG (r : R K P G H) {p : Addr} {o : GO} {u : HO} (h : H p = none) : Stab G H (updG G p o) (upd H p u) := by
  refine ⟨(Stab.new r h).tup, fun a w n q => ?_⟩
  have ha : a ≠ p := ne_of_none q h
  rw [upd_ne ha, updG_ne ha]; exact ⟨q, n⟩
theorem R.newG (r : R K P G H) {p : Addr} {o : GO} {u : HO} (h : H p = none) (new : OR K (Bk P (updG G p o)) (upd H p u) p o) : R K P (updG G p o) (upd H p u) := by
  refine ⟨fun b w e => ?_, fun b q => ?_⟩
  · by_cases hb : b = p
    · subst hb; rw [updG_same] at e; cases e; exact new
    · rw [updG_ne hb] at e
      exact (Stab.newG r h).or (r.ob b w e) (upd_ne hb)
  · obtain ⟨h1, w, e⟩ := r.pr b q
    have hb : b ≠ p := ne_of_none e h
    rw [updG_ne hb, upd_ne hb]; exact ⟨h1, w, e⟩
/-- a tracked list is let go: it is data from now on -/
def dropG (G : GH) (a : Addr) : GH := fun b => if b = a then none else G b
theorem dropG_ne {G : GH} {a b : Addr} (h : b ≠ a) : dropG G a b = G b := by unfold dropG; rw [if_neg h]
theorem dropG_same {G : GH} {a : Addr} : dropG G a a = none := by unfold dropG; rw [if_pos rfl]
theorem Stab.drop {a : Addr} : Stab G H (dropG G a) H := by
  refine ⟨fun _ _ h => h, fun b o n h => ⟨h, ?_⟩⟩
  by_cases hb : b = a
  · subst hb; exact dropG_same
  · rw [dropG_ne hb]; exact n
theorem R.drop (r : R K P G H) {a : Addr} : R K P (dropG G a) H := by
  refine ⟨fun b w e => ?_, fun b p => ⟨?_, (r.pr b p).2⟩⟩
  · by_cases hb : b = a
    · subst hb; rw [dropG_same] at e; cases e
    · rw [dropG_ne hb] at e
      exact (Stab.drop (H := H)).or (r.ob b w e) rfl
  · by_cases hb : b = a
    · subst hb; exact dropG_same
    · rw [dropG_ne hb]; exact (r.pr b p).1
theorem dropG_new {G : GH} {p : Addr} {o : GO} (h : G p = none) : dropG (updG G p o) p = G := by
  funext b
  by_cases hb : b = p
  · subst hb; rw [dropG_same, h]
  · rw [dropG_ne hb, updG_ne hb]
theorem SR.set (h : SR K (Bk P G) H σ δ) (r : VR K (Bk P G) H v d) (i : Nat) : SR K (Bk P G) H (σ.set i (some v)) (δ.set i (some d)) := by
  refine ⟨by rw [List.length_set, List.length_set]; exact h.1, fun j e q => ?_⟩
  by_cases hj : i = j
  · subst hj
    by_cases hl : i < δ.length
    · rw [List.getElem?_set_self hl] at q
      cases q
      exact ⟨v, List.getElem?_set_self (by rw [h.1]; exact hl), r⟩
    · rw [List.getElem?_eq_none (by simpa using hl)] at q; cases q
  · rw [List.getElem?_set_ne hj] at q ⊢
    exact h.2 j e q
theorem SR.unset (h : SR K (Bk P G) H σ δ) (i : Nat) : SR K (Bk P G) H (σ.set i none) (δ.set i none) := by
  refine ⟨by rw [List.length_set, List.length_set]; exact h.1, fun j e q => ?_⟩
  by_cases hj : i = j
  · subst hj
    by_cases hl : i < δ.length
    · rw [List.getElem?_set_self hl] at q; cases q
    · rw [List.getElem?_eq_none (by simpa using hl)] at q; cases q
  · rw [List.getElem?_set_ne hj] at q ⊢
    exact h.2 j e q
end
end DL
/-! (Dl2) -/
namespace DL
open PySem PySem.Spec PyProof.Rows L2

theorem VR.int {K : PySem.W.Frag} {B : Addr → Prop} {H : Hp} (i : Int) : VR K B H (.int i) (.dat (.int i)) := Dq.int i
theorem VR.str {K : PySem.W.Frag} {B : Addr → Prop} {H : Hp} (i : Str) : VR K B H (.str i) (.dat (.str i)) := Dq.str i
theorem VR.bl {K : PySem.W.Frag} {B : Addr → Prop} {H : Hp} (i : Bool) : VR K B H (.bl i) (.dat (.bool i)) := Dq.bl i
theorem VR.non {K : PySem.W.Frag} {B : Addr → Prop} {H : Hp} : VR K B H .non (.dat .none) := Dq.non
theorem VR.tup {K : PySem.W.Frag} {B : Addr → Prop} {H : Hp} {a : Addr} {xs : List V} {ds : List PyData} (h : SqT K H a xs) (w : DqAll K B H xs ds) : VR K B H (.ref a) (.dat (.tuple ds)) := Dq.tup h w
theorem VR.lst {K : PySem.W.Frag} {B : Addr → Prop} {H : Hp} {a : Addr} {xs : List V} {ds : List PyData} (n : ¬ B a) (h : Rd H a (.lst xs)) (w : DqAll K B H xs ds) : VR K B H (.ref a) (.dat (.list ds)) := Dq.lst n h w
/-! ### judgements -/
def WE (K : PySem.W.Frag) (te : TE) (δ : De) (G : GH) (Φ : Dt → GH → Prop) : Prop :=
  ∀ (P : Addr → Prop) (σ : L2.St) (H : Hp), R K P G H → SR K (Bk P G) H σ δ → ∀ Q : VK,
    (∀ v d G' H', Stab G H G' H' → R K P G' H' → VR K (Bk P G') H' v d → Φ d G' → Q v H') → te σ H Q
def WT (K : PySem.W.Frag) (tt : TT) (δ : De) (G : GH) (Φ : Bool → GH → Prop) : Prop :=
  ∀ (P : Addr → Prop) (σ : L2.St) (H : Hp), R K P G H → SR K (Bk P G) H σ δ → ∀ Q : Bool → Hp → Prop,
    (∀ b G' H', Stab G H G' H' → R K P G' H' → Φ b G' → Q b H') → tt σ H Q
def WA (K : PySem.W.Frag) (ta : TA) (δ : De) (G : GH) (Φ : List Dt → GH → Prop) : Prop :=
  ∀ (P : Addr → Prop) (σ : L2.St) (H : Hp), R K P G H → SR K (Bk P G) H σ δ → ∀ Q : List V → Hp → Prop,
    (∀ vs ds G' H', Stab G H G' H' → R K P G' H' → Paired (VR K (Bk P G') H') vs ds → Φ ds G' → Q vs H') → ta σ H Q
/-- a part of a slice -/
def WO (K : PySem.W.Frag) (tp : TO) (δ : De) (G : GH) (Φ : Option Int → GH → Prop) : Prop :=
  ∀ (P : Addr → Prop) (σ : L2.St) (H : Hp), R K P G H → SR K (Bk P G) H σ δ → ∀ Q : Option Int → Hp → Prop,
    (∀ b G' H', Stab G H G' H' → R K P G' H' → Φ b G' → Q b H') → tp σ H Q
/-- the slots that a target writes -/
def Agr (ts : List Nat) (σ σ' : L2.St) : Prop := σ'.length = σ.length ∧ ∀ j, j ∉ ts → σ'[j]? = σ[j]?
def WG (K : PySem.W.Frag) (g : TG) (ts : List Nat) (d : Dt) (δ : De) (G : GH) (Φ : De → GH → Prop) : Prop :=
  ∀ (P : Addr → Prop) (σ : L2.St) (H : Hp) (v : V), R K P G H → SR K (Bk P G) H σ δ → VR K (Bk P G) H v d → ∀ Q : L2.St → Hp → Prop,
    (∀ σ' δ' G' H', Stab G H G' H' → R K P G' H' → SR K (Bk P G') H' σ' δ' → Agr ts σ σ' → Φ δ' G' → Q σ' H') → g v σ H Q
def WGs (K : PySem.W.Frag) (g : TGs) (ts : List Nat) (ds : List PyData) (δ : De) (G : GH) (Φ : De → GH → Prop) : Prop :=
  ∀ (P : Addr → Prop) (σ : L2.St) (H : Hp) (vs : List V), R K P G H → SR K (Bk P G) H σ δ → DqAll K (Bk P G) H vs ds → ∀ Q : L2.St → Hp → Prop,
    (∀ σ' δ' G' H', Stab G H G' H' → R K P G' H' → SR K (Bk P G') H' σ' δ' → Agr ts σ σ' → Φ δ' G' → Q σ' H') → g vs σ H Q
structure DE where
  nx : De → GH → Prop
  rt : Dt → GH → Prop
  bk : De → GH → Prop := fun _ _ => False
  ct : De → GH → Prop := fun _ _ => False
structure DEn (K : PySem.W.Frag) (P : Addr → Prop) (G : GH) (H : Hp) (E : DE) (D : Ends) : Prop where
  nx : ∀ σ' δ' G' H', Stab G H G' H' → R K P G' H' → SR K (Bk P G') H' σ' δ' → E.nx δ' G' → D.nx σ' H'
  rt : ∀ v d G' H', Stab G H G' H' → R K P G' H' → VR K (Bk P G') H' v d → E.rt d G' → D.rt v H'
  bk : ∀ σ' δ' G' H', Stab G H G' H' → R K P G' H' → SR K (Bk P G') H' σ' δ' → E.bk δ' G' → D.bk σ' H'
  ct : ∀ σ' δ' G' H', Stab G H G' H' → R K P G' H' → SR K (Bk P G') H' σ' δ' → E.ct δ' G' → D.ct σ' H'
theorem DEn.later {K : PySem.W.Frag} {P : Addr → Prop} {G G1 : GH} {H H1 : Hp} {E : DE} {D : Ends} (e : DEn K P G H E D) (s : Stab G H G1 H1) : DEn K P G1 H1 E D :=
  ⟨fun σ' δ' G' H' q => e.nx σ' δ' G' H' (s.trans q), fun v d G' H' q => e.rt v d G' H' (s.trans q), fun σ' δ' G' H' q => e.bk σ' δ' G' H' (s.trans q), fun σ' δ' G' H' q => e.ct σ' δ' G' H' (s.trans q)⟩
def WS (K : PySem.W.Frag) (ts : TS) (δ : De) (G : GH) (E : DE) : Prop :=
  ∀ (P : Addr → Prop) (σ : L2.St) (H : Hp), R K P G H → SR K (Bk P G) H σ δ → ∀ D : Ends, DEn K P G H E D → ts D σ H
/-- what a loop walks: n turns giving the data xs -/
structure Wk (K : PySem.W.Frag) (P : Addr → Prop) (G0 : GH) (H0 : Hp) (J : It) (xs : List PyData) : Prop where
  go : ∀ P' G H i x, (∀ a, P' a → P a ∨ H0 a = none) → Stab G0 H0 G H → R K P' G H → xs[i]? = some x → J.go i H ∧ ∀ v H', J.yld i H v H' → Stab G H G H' ∧ R K P' G H' ∧ Dq K (Bk P' G) H' v x
  stop : ∀ G H, Stab G0 H0 G H → J.stop xs.length H
def WI (K : PySem.W.Frag) (wi : TI) (δ : De) (G : GH) (Φ : List PyData → GH → Prop) : Prop :=
  ∀ (P : Addr → Prop) (σ : L2.St) (H : Hp), R K P G H → SR K (Bk P G) H σ δ → ∀ Q : It → Hp → Prop,
    (∀ J xs G' H', Stab G H G' H' → R K P G' H' → Wk K P G' H' J xs → Φ xs G' → Q J H') → wi σ H Q

section
variable {K : PySem.W.Frag} {δ : De} {G : GH} {Φ : Dt → GH → Prop} {ta tb te tv : TE} {tt tu : TT} {d : Dt} {i : Nat}
theorem WE.mono {Φ' : Dt → GH → Prop} (h : WE K te δ G Φ) (k : ∀ d G', Φ d G' → Φ' d G') : WE K te δ G Φ' := fun P σ H r s Q q => h P σ H r s Q fun v d G' H' a b c e => q v d G' H' a b c (k d G' e)
theorem WT.mono {Φ Φ' : Bool → GH → Prop} (h : WT K tt δ G Φ) (k : ∀ d G', Φ d G' → Φ' d G') : WT K tt δ G Φ' := fun P σ H r s Q q => h P σ H r s Q fun b G' H' a c e => q b G' H' a c (k b G' e)
theorem WA.mono {ta : TA} {Φ Φ' : List Dt → GH → Prop} (h : WA K ta δ G Φ) (k : ∀ d G', Φ d G' → Φ' d G') : WA K ta δ G Φ' := fun P σ H r s Q q => h P σ H r s Q fun v d G' H' a b c e => q v d G' H' a b c (k d G' e)
theorem we_var (h : δ[i]? = some (some d)) (k : Φ d G) : WE K (tVar i) δ G Φ := fun P σ H r s Q q => by
  obtain ⟨v, e, z⟩ := s.2 i d h
  exact ⟨v, e, q v d G H .refl r z k⟩
theorem we_int {n : Int} (k : Φ (.dat (.int n)) G) : WE K (tC (.int n)) δ G Φ := fun P σ H r s Q q => q _ _ G H .refl r (.int n) k
theorem we_str {n : Str} (k : Φ (.dat (.str n)) G) : WE K (tC (.str n)) δ G Φ := fun P σ H r s Q q => q _ _ G H .refl r (.str n) k
theorem we_bl {n : Bool} (k : Φ (.dat (.bool n)) G) : WE K (tC (.bl n)) δ G Φ := fun P σ H r s Q q => q _ _ G H .refl r (.bl n) k
theorem we_non (k : Φ (.dat .none) G) : WE K (tC .non) δ G Φ := fun P σ H r s Q q => q _ _ G H .refl r .non k
theorem we_gT {a : Addr} {vs : List V} {ds : List PyData} (h : ∀ H, SqT K H a vs) (w : ∀ B H, DqAll K B H vs ds) (k : Φ (.dat (.tuple ds)) G) : WE K (tC (.ref a)) δ G Φ :=
  fun P σ H r s Q q => q _ _ G H .refl r (.tup (h H) (w _ H)) k
/-- two operands, then an operation on values -/
theorem we_op2 {r : R2} {Ψ : Dt → Dt → GH → (Dt → GH → Prop) → Prop}
    (hr : ∀ (P : Addr → Prop) (G : GH) (H : Hp) (x y : V) (dx dy : Dt) (Φ : Dt → GH → Prop), R K P G H → VR K (Bk P G) H x dx → VR K (Bk P G) H y dy → Ψ dx dy G Φ → ∀ Q : VK,
      (∀ v d G' H', Stab G H G' H' → R K P G' H' → VR K (Bk P G') H' v d → Φ d G' → Q v H') → r x y H Q)
    (h : WE K ta δ G fun x G1 => WE K tb δ G1 fun y G2 => Ψ x y G2 Φ) : WE K (tOp r ta tb) δ G Φ := fun P σ H rr s Q q =>
  h P σ H rr s _ fun x dx G1 H1 s1 r1 v1 h1 => h1 P σ H1 r1 (s1.sr s) _ fun y dy G2 H2 s2 r2 v2 h2 =>
    hr P G2 H2 x y dx dy Φ r2 (s2.vr v1) v2 h2 Q fun v d G' H' s3 => q v d G' H' ((s1.trans s2).trans s3)
theorem we_II {g : Int → Int → Int} (h : WE K ta δ G fun x G1 => WE K tb δ G1 fun y G2 => ∃ i j, x = .dat (.int i) ∧ y = .dat (.int j) ∧ Φ (.dat (.int (g i j))) G2) : WE K (tOp (rI0 fun i j => .int (g i j)) ta tb) δ G Φ :=
  we_op2 (Ψ := fun x y G Φ => ∃ i j, x = .dat (.int i) ∧ y = .dat (.int j) ∧ Φ (.dat (.int (g i j))) G) (fun P G H x y dx dy Φ r vx vy ⟨i, j, ex, ey, k⟩ Q q => by
    subst ex; subst ey
    cases vx; cases vy
    exact ⟨i, j, rfl, rfl, q _ _ G H .refl r (.int _) k⟩) h
theorem we_IB {g : Int → Int → Bool} (h : WE K ta δ G fun x G1 => WE K tb δ G1 fun y G2 => ∃ i j, x = .dat (.int i) ∧ y = .dat (.int j) ∧ Φ (.dat (.bool (g i j))) G2) : WE K (tOp (rI0 fun i j => .bl (g i j)) ta tb) δ G Φ :=
  we_op2 (Ψ := fun x y G Φ => ∃ i j, x = .dat (.int i) ∧ y = .dat (.int j) ∧ Φ (.dat (.bool (g i j))) G) (fun P G H x y dx dy Φ r vx vy ⟨i, j, ex, ey, k⟩ Q q => by
    subst ex; subst ey
    cases vx; cases vy
    exact ⟨i, j, rfl, rfl, q _ _ G H .refl r (.bl _) k⟩) h
theorem we_IC {C : Int → Int → Prop} {g : Int → Int → Int} (h : WE K ta δ G fun x G1 => WE K tb δ G1 fun y G2 => ∃ i j, x = .dat (.int i) ∧ y = .dat (.int j) ∧ C i j ∧ Φ (.dat (.int (g i j))) G2) : WE K (tOp (rI C fun i j => .int (g i j)) ta tb) δ G Φ :=
  we_op2 (Ψ := fun x y G Φ => ∃ i j, x = .dat (.int i) ∧ y = .dat (.int j) ∧ C i j ∧ Φ (.dat (.int (g i j))) G) (fun P G H x y dx dy Φ r vx vy ⟨i, j, ex, ey, c, k⟩ Q q => by
    subst ex; subst ey
    cases vx; cases vy
    exact ⟨i, j, rfl, rfl, c, q _ _ G H .refl r (.int _) k⟩) h
/-! ### scalars compared -/
def dEq (x y : Dt) (Φ : Bool → Prop) : Prop := match x, y with
  | .dat (.int i), .dat (.int j) => Φ (decide (i = j))
  | .dat (.str i), .dat (.str j) => Φ (decide (i = j))
  | .dat (.bool i), .dat (.bool j) => Φ (decide (i = j))
  | .dat .none, .dat .none => Φ true
  | .dat .none, .dat (.int _) => Φ false
  | .dat (.int _), .dat .none => Φ false
  | .dat (.int _), .dat (.str _) => Φ false
  | .dat (.str _), .dat (.int _) => Φ false
  | _, _ => False
theorem dEq_ok {B : Addr → Prop} {H : Hp} {x y : V} {dx dy : Dt} {Φ : Bool → Prop} (hx : VR K B H x dx) (hy : VR K B H y dy) (h : dEq dx dy Φ) : scal x y = true ∧ Φ (decide (x = y)) := by
  unfold dEq at h
  split at h
  · cases hx; cases hy; refine ⟨rfl, ?_⟩
    rename_i i j
    by_cases e : i = j
    · subst e; simpa using h
    · have : ¬ (V.int i = V.int j) := fun z => e (V.int.inj z)
      simpa [this, e] using h
  · cases hx; cases hy; refine ⟨rfl, ?_⟩
    rename_i i j
    by_cases e : i = j
    · subst e; simpa using h
    · have : ¬ (V.str i = V.str j) := fun z => e (V.str.inj z)
      simpa [this, e] using h
  · cases hx; cases hy; refine ⟨rfl, ?_⟩
    rename_i i j
    by_cases e : i = j
    · subst e; simpa using h
    · have : ¬ (V.bl i = V.bl j) := fun z => e (V.bl.inj z)
      simpa [this, e] using h
  · cases hx; cases hy; exact ⟨rfl, by simpa using h⟩
  · cases hx; cases hy; exact ⟨rfl, by simpa using h⟩
  · cases hx; cases hy; exact ⟨rfl, by simpa using h⟩
  · cases hx; cases hy; exact ⟨rfl, by simpa using h⟩
  · cases hx; cases hy; exact ⟨rfl, by simpa using h⟩
  · exact h.elim
theorem we_eq (h : WE K ta δ G fun x G1 => WE K tb δ G1 fun y G2 => dEq x y fun b => Φ (.dat (.bool b)) G2) : WE K (tOp rEq ta tb) δ G Φ :=
  we_op2 (Ψ := fun x y G Φ => dEq x y fun b => Φ (.dat (.bool b)) G) (fun P G H x y dx dy Φ r vx vy k Q q => by
    obtain ⟨h1, h2⟩ := dEq_ok vx vy k
    exact ⟨h1, q _ _ G H .refl r (.bl _) h2⟩) h
theorem we_ne (h : WE K ta δ G fun x G1 => WE K tb δ G1 fun y G2 => dEq x y fun b => Φ (.dat (.bool (!b))) G2) : WE K (tOp rNe ta tb) δ G Φ :=
  we_op2 (Ψ := fun x y G Φ => dEq x y fun b => Φ (.dat (.bool (!b))) G) (fun P G H x y dx dy Φ r vx vy k Q q => by
    obtain ⟨h1, h2⟩ := dEq_ok vx vy k
    exact ⟨h1, q _ _ G H .refl r (.bl _) h2⟩) h
/-! ### data compared -/
theorem we_eqD (h : WE K ta δ G fun x G1 => WE K tb δ G1 fun y G2 => ∃ d e, x = .dat d ∧ y = .dat e ∧ SeqAt.shaped d = true ∧ SeqAt.shaped e = true ∧ Φ (.dat (.bool (PyData.eqv d e))) G2) : WE K (tOp (rEqD K) ta tb) δ G Φ :=
  we_op2 (Ψ := fun x y G Φ => ∃ d e, x = .dat d ∧ y = .dat e ∧ SeqAt.shaped d = true ∧ SeqAt.shaped e = true ∧ Φ (.dat (.bool (PyData.eqv d e))) G) (fun P G H x y dx dy Φ r vx vy ⟨d, e, e1, e2, s1, s2, k⟩ Q q => by
    subst e1; subst e2
    exact ⟨d, e, Dq.dp vx, Dq.dp vy, s1, s2, q _ _ G H .refl r (.bl _) k⟩) h
theorem we_neD (h : WE K ta δ G fun x G1 => WE K tb δ G1 fun y G2 => ∃ d e, x = .dat d ∧ y = .dat e ∧ SeqAt.shaped d = true ∧ SeqAt.shaped e = true ∧ Φ (.dat (.bool (!PyData.eqv d e))) G2) : WE K (tOp (rNeD K) ta tb) δ G Φ :=
  we_op2 (Ψ := fun x y G Φ => ∃ d e, x = .dat d ∧ y = .dat e ∧ SeqAt.shaped d = true ∧ SeqAt.shaped e = true ∧ Φ (.dat (.bool (!PyData.eqv d e))) G) (fun P G H x y dx dy Φ r vx vy ⟨d, e, e1, e2, s1, s2, k⟩ Q q => by
    subst e1; subst e2
    exact ⟨d, e, Dq.dp vx, Dq.dp vy, s1, s2, q _ _ G H .refl r (.bl _) k⟩) h
/-- the items of a list: data, or a tracked list -/
def LsOf (G : GH) (x : Dt) (ds : List PyData) : Prop := x = .dat (.list ds) ∨ ∃ a, x = .obj a ∧ G a = some (.lst ds)
theorem LsOf.at_ {P : Addr → Prop} {H : Hp} {x : V} {dx : Dt} {ds : List PyData} (r : R K P G H) (vx : VR K (Bk P G) H x dx) (h : LsOf G dx ds) : ∃ a vs, x = .ref a ∧ Rd H a (.lst vs) ∧ DqAll K (Bk P G) H vs ds := by
  rcases h with e | ⟨a, e, g⟩
  · subst e
    cases vx with
    | lst n q z => exact ⟨_, _, rfl, q, z⟩
  · subst e
    obtain ⟨vs, q, z⟩ := r.ob a _ g
    exact ⟨a, vs, vx, .inl q, z⟩
theorem LsOf.dp {P : Addr → Prop} {H : Hp} {x : V} {dx : Dt} {ds : List PyData} (r : R K P G H) (vx : VR K (Bk P G) H x dx) (h : LsOf G dx ds) : Dp K H x (.list ds) := by
  obtain ⟨a, vs, e, q, z⟩ := h.at_ r vx
  subst e
  exact .lst (.inl q) z.dp
theorem we_inD (h : WE K ta δ G fun x G1 => WE K tb δ G1 fun y G2 => ∃ d ds, x = .dat d ∧ LsOf G2 y ds ∧ SeqAt.shaped d = true ∧ SeqAt.shaped (.list ds) = true ∧ Φ (.dat (.bool (ds.any fun z => PyData.eqv z d))) G2) : WE K (tOp (rInD K) ta tb) δ G Φ :=
  we_op2 (Ψ := fun x y G Φ => ∃ d ds, x = .dat d ∧ LsOf G y ds ∧ SeqAt.shaped d = true ∧ SeqAt.shaped (.list ds) = true ∧ Φ (.dat (.bool (ds.any fun z => PyData.eqv z d))) G) (fun P G H x y dx dy Φ r vx vy ⟨d, ds, e1, l, s1, s2, k⟩ Q q => by
    subst e1
    exact ⟨d, ds, Dq.dp vx, l.dp r vy, s1, s2, q _ _ G H .refl r (.bl _) k⟩) h
theorem we_notInD (h : WE K ta δ G fun x G1 => WE K tb δ G1 fun y G2 => ∃ d ds, x = .dat d ∧ LsOf G2 y ds ∧ SeqAt.shaped d = true ∧ SeqAt.shaped (.list ds) = true ∧ Φ (.dat (.bool (!ds.any fun z => PyData.eqv z d))) G2) : WE K (tOp (rNotInD K) ta tb) δ G Φ :=
  we_op2 (Ψ := fun x y G Φ => ∃ d ds, x = .dat d ∧ LsOf G y ds ∧ SeqAt.shaped d = true ∧ SeqAt.shaped (.list ds) = true ∧ Φ (.dat (.bool (!ds.any fun z => PyData.eqv z d))) G) (fun P G H x y dx dy Φ r vx vy ⟨d, ds, e1, l, s1, s2, k⟩ Q q => by
    subst e1
    exact ⟨d, ds, Dq.dp vx, l.dp r vy, s1, s2, q _ _ G H .refl r (.bl _) k⟩) h
/-! ### flat items -/
def flV : PyData → Option V
  | .none => some .non
  | .bool b => some (.bl b)
  | .int i => some (.int i)
  | .str x => some (.str x)
  | _ => none
theorem flV_ok {B : Addr → Prop} {H : Hp} {v w : V} {d : PyData} (h : Dq K B H v d) (e : flV d = some w) : v = w ∧ flatV v = true := by
  cases h <;> first
    | (cases e; exact ⟨rfl, rfl⟩)
    | cases e
def flVs : List PyData → Option (List V)
  | [] => some []
  | d :: ds => match flV d, flVs ds with
    | some v, some vs => some (v :: vs)
    | _, _ => none
theorem flVs_ok {B : Addr → Prop} {H : Hp} : ∀ {vs ws : List V} {ds : List PyData}, DqAll K B H vs ds → flVs ds = some ws → vs = ws ∧ vs.all flatV = true
  | _, _, _, .nil, e => by cases e; exact ⟨rfl, rfl⟩
  | _, ws, _, .cons (d := d) (ds := ds) a b, e => by
    unfold flVs at e
    cases h1 : flV d with
    | none => rw [h1] at e; cases e
    | some v =>
      cases h2 : flVs ds with
      | none => rw [h1, h2] at e; cases e
      | some vs =>
        rw [h1, h2] at e
        cases e
        obtain ⟨q1, q2⟩ := flV_ok a h1
        obtain ⟨q3, q4⟩ := flVs_ok b h2
        subst q1; subst q3
        exact ⟨rfl, by rw [List.all_cons, q2, q4]; rfl⟩
def SqOf (G : GH) (x : Dt) (ds : List PyData) : Prop := x = .dat (.tuple ds) ∨ LsOf G x ds
theorem we_in {neg : Bool} (h : WE K ta δ G fun x G1 => WE K tb δ G1 fun y G2 => ∃ d ds v vs, x = .dat d ∧ SqOf G2 y ds ∧ flV d = some v ∧ flVs ds = some vs ∧ Φ (.dat (.bool (if neg then !inV v vs else inV v vs))) G2) : WE K (tOp (rIn K neg) ta tb) δ G Φ :=
  we_op2 (Ψ := fun x y G Φ => ∃ d ds v vs, x = .dat d ∧ SqOf G y ds ∧ flV d = some v ∧ flVs ds = some vs ∧ Φ (.dat (.bool (if neg then !inV v vs else inV v vs))) G) (fun P G H x y dx dy Φ r vx vy ⟨d, ds, v, vs, e1, l, f1, f2, k⟩ Q q => by
    subst e1
    obtain ⟨rfl, g1⟩ := flV_ok vx f1
    rcases l with e | l
    · subst e
      cases vy with
      | tup q1 z =>
        obtain ⟨rfl, g2⟩ := flVs_ok z f2
        exact ⟨_, _, rfl, .inr q1, g1, g2, q _ _ G H .refl r (.bl _) k⟩
    · obtain ⟨a, ws, e, q1, z⟩ := l.at_ r vy
      subst e
      obtain ⟨rfl, g2⟩ := flVs_ok z f2
      exact ⟨_, _, rfl, .inl (.inl q1), g1, g2, q _ _ G H .refl r (.bl _) k⟩) h
/-- one sign in a text -/
theorem we_inS (h : WE K ta δ G fun x G1 => WE K tb δ G1 fun y G2 => ∃ c z, x = .dat (.str ⟨#[c]⟩) ∧ y = .dat (.str z) ∧ Φ (.dat (.bool (decide (c ∈ z.cps.toList)))) G2) :
    WE K (tOp (fun x y H Q => ∃ (c : Nat) (z : Str), x = .str ⟨#[c]⟩ ∧ y = .str z ∧ Q (.bl (decide (c ∈ z.cps.toList))) H) ta tb) δ G Φ :=
  we_op2 (Ψ := fun x y G Φ => ∃ c z, x = .dat (.str ⟨#[c]⟩) ∧ y = .dat (.str z) ∧ Φ (.dat (.bool (decide (c ∈ z.cps.toList)))) G) (fun P G H x y dx dy Φ r vx vy ⟨c, z, e1, e2, k⟩ Q q => by
    subst e1; subst e2
    cases vx; cases vy
    exact ⟨c, z, rfl, rfl, q _ _ G H .refl r (.bl _) k⟩) h
/-! ### is None -/
def isN : Dt → Bool
  | .dat .none => true
  | _ => false
theorem isN_ok {B : Addr → Prop} {H : Hp} {v : V} {d : Dt} (h : VR K B H v d) : decide (v = .non) = isN d := by
  cases d with
  | obj a => cases h; rfl
  | dat d =>
    cases (show Dq K B H v d from h) <;> rfl
theorem we_isN (h : WE K ta δ G fun x G1 => Φ (.dat (.bool (isN x))) G1) : WE K (tIsN ta) δ G Φ := fun P σ H rr s Q q =>
  h P σ H rr s _ fun x dx G1 H1 s1 r1 v1 h1 => q _ _ G1 H1 s1 r1 (by rw [isN_ok v1]; exact .bl _) h1
theorem we_notN (h : WE K ta δ G fun x G1 => Φ (.dat (.bool (!isN x))) G1) : WE K (tNotN ta) δ G Φ := fun P σ H rr s Q q =>
  h P σ H rr s _ fun x dx G1 H1 s1 r1 v1 h1 => q _ _ G1 H1 s1 r1 (by rw [isN_ok v1]; exact .bl _) h1
/-! ### and, or, not -/
theorem we_and (h : WE K ta δ G fun x G1 => ∃ b, x = .dat (.bool b) ∧ (b = true → WE K tb δ G1 Φ) ∧ (b = false → Φ (.dat (.bool false)) G1)) : WE K (tAndV ta tb) δ G Φ := fun P σ H rr s Q q =>
  h P σ H rr s _ fun x dx G1 H1 s1 r1 v1 ⟨b, e, h1, h2⟩ => by
    subst e
    cases v1
    refine ⟨b, rfl, ?_⟩
    cases b with
    | true => exact h1 rfl P σ H1 r1 (s1.sr s) Q fun v d G' H' s2 => q v d G' H' (s1.trans s2)
    | false => exact q _ _ G1 H1 s1 r1 (.bl false) (h2 rfl)
theorem we_or (h : WE K ta δ G fun x G1 => ∃ b, x = .dat (.bool b) ∧ (b = false → WE K tb δ G1 Φ) ∧ (b = true → Φ (.dat (.bool true)) G1)) : WE K (tOrV ta tb) δ G Φ := fun P σ H rr s Q q =>
  h P σ H rr s _ fun x dx G1 H1 s1 r1 v1 ⟨b, e, h1, h2⟩ => by
    subst e
    cases v1
    refine ⟨b, rfl, ?_⟩
    cases b with
    | false => exact h1 rfl P σ H1 r1 (s1.sr s) Q fun v d G' H' s2 => q v d G' H' (s1.trans s2)
    | true => exact q _ _ G1 H1 s1 r1 (.bl true) (h2 rfl)
theorem we_not (h : WE K ta δ G fun x G1 => ∃ b, x = .dat (.bool b) ∧ Φ (.dat (.bool (!b))) G1) : WE K (tNotV ta) δ G Φ := fun P σ H rr s Q q =>
  h P σ H rr s _ fun x dx G1 H1 s1 r1 v1 ⟨b, e, h1⟩ => by
    subst e
    cases v1
    exact ⟨b, rfl, q _ _ G1 H1 s1 r1 (.bl _) h1⟩
theorem we_chain {r r' : R2} {tc : TE} {Ψ Ψ' : Dt → Dt → GH → (Bool → GH → Prop) → Prop}
    (hr : ∀ (P : Addr → Prop) (G : GH) (H : Hp) (x y : V) (dx dy : Dt) (Φ : Bool → GH → Prop), R K P G H → VR K (Bk P G) H x dx → VR K (Bk P G) H y dy → Ψ dx dy G Φ → ∀ Q : VK, (∀ b, Φ b G → Q (.bl b) H) → r x y H Q)
    (hr' : ∀ (P : Addr → Prop) (G : GH) (H : Hp) (x y : V) (dx dy : Dt) (Φ : Bool → GH → Prop), R K P G H → VR K (Bk P G) H x dx → VR K (Bk P G) H y dy → Ψ' dx dy G Φ → ∀ Q : VK, (∀ b, Φ b G → Q (.bl b) H) → r' x y H Q)
    (h : WE K ta δ G fun x G1 => WE K tb δ G1 fun y G2 => Ψ x y G2 fun b G3 => (b = true → WE K tc δ G3 fun z G4 => Ψ' y z G4 fun b' G5 => Φ (.dat (.bool b')) G5) ∧ (b = false → Φ (.dat (.bool false)) G3)) : WE K (tChain r r' ta tb tc) δ G Φ := fun P σ H rr s Q q =>
  h P σ H rr s _ fun x dx G1 H1 s1 r1 v1 h1 => h1 P σ H1 r1 (s1.sr s) _ fun y dy G2 H2 s2 r2 v2 h2 =>
    hr P G2 H2 x y dx dy _ r2 (s2.vr v1) v2 h2 _ fun b hb => ⟨b, rfl, by
      cases b with
      | false => exact q _ _ G2 H2 (s1.trans s2) r2 (.bl false) (hb.2 rfl)
      | true => exact hb.1 rfl P σ H2 r2 ((s1.trans s2).sr s) _ fun z dz G4 H4 s4 r4 v4 h4 => (hr' P G4 H4 y z dy dz _ r4 (s4.vr v2) v4 h4 _ fun b' hb' => q _ _ G4 H4 ((s1.trans s2).trans s4) r4 (.bl b') hb')⟩
theorem bb_I {g : Int → Int → Bool} (P : Addr → Prop) (G : GH) (H : Hp) (x y : V) (dx dy : Dt) (Φ : Bool → GH → Prop) (r : R K P G H) (vx : VR K (Bk P G) H x dx) (vy : VR K (Bk P G) H y dy)
    (k : ∃ i j, dx = .dat (.int i) ∧ dy = .dat (.int j) ∧ Φ (g i j) G) (Q : VK) (q : ∀ b, Φ b G → Q (.bl b) H) : rI0 (fun i j => .bl (g i j)) x y H Q := by
  obtain ⟨i, j, e1, e2, k⟩ := k
  subst e1; subst e2
  cases vx; cases vy
  exact ⟨i, j, rfl, rfl, q _ k⟩
theorem we_chainI {g g' : Int → Int → Bool} {tc : TE} (h : WE K ta δ G fun x G1 => WE K tb δ G1 fun y G2 => ∃ i j, x = .dat (.int i) ∧ y = .dat (.int j) ∧ (g i j = true → WE K tc δ G2 fun z G4 => ∃ k, z = .dat (.int k) ∧ Φ (.dat (.bool (g' j k))) G4) ∧ (g i j = false → Φ (.dat (.bool false)) G2)) :
    WE K (tChain (rI0 fun i j => .bl (g i j)) (rI0 fun i j => .bl (g' i j)) ta tb tc) δ G Φ := by
  refine we_chain (Ψ := fun x y G Φ => ∃ i j, x = .dat (.int i) ∧ y = .dat (.int j) ∧ Φ (g i j) G) (Ψ' := fun x y G Φ => ∃ i j, x = .dat (.int i) ∧ y = .dat (.int j) ∧ Φ (g' i j) G) bb_I bb_I ?_
  refine h.mono fun x G1 h1 => h1.mono fun y G2 ⟨i, j, e1, e2, h2, h3⟩ => ⟨i, j, e1, e2, fun hb => ?_, h3⟩
  exact (h2 hb).mono fun z G4 ⟨k, e3, h4⟩ => ⟨j, k, e2, e3, h4⟩
/-! ### tests -/
end
end DL
/-! (Dl3) -/
namespace DL
open PySem PySem.Spec PyProof.Rows L2

/-! ### rules of the layer below, widened -/
section
variable {X : Cx}
def rCatR : R2 := fun x y H Q => ∃ l b xs zs, x = .ref l ∧ y = .ref b ∧ Rd H l (.lst xs) ∧ Rd H b (.lst zs) ∧ xs.length + zs.length ≤ sizeLine ∧ ∀ p, H p = none → Q (.ref p) (upd H p (.lst (xs ++ zs)))
theorem op_catR : OpR X (binaryOp .Add) rCatR := by
  intro pins s σ H x y v u Q I rx ry h
  obtain ⟨l, b, xs, zs, rfl, rfl, hH, hB, hz, q⟩ := h
  cases rx
  cases ry
  obtain ⟨z, its, n, r, e⟩ := hH.ok I.hok
  obtain ⟨z2, its2, n2, r2, e2⟩ := hB.ok I.hok
  have l1 := r.length
  have l2 := r2.length
  refine PySem.P.add_list e e2 ?_ (by rw [List.size_toArray, List.size_toArray]; omega)
  have ea : its.toArray ++ its2.toArray = (its ++ its2).toArray := by simp
  rw [ea]
  exact ⟨.ref _, _, I.lnew (t' := s.toks) (r.append r2) (by rw [List.length_append]; omega), rfl, q _ I.fresh⟩
def rAddS : R2 := fun x y H Q => ∃ i j, x = .str i ∧ y = .str j ∧ i.length + j.length ≤ sizeLine ∧ Q (.str (i ++ j)) H
def rAddI : R2 := rI0 fun i j => .int (i + j)
def rAddU (K : PySem.W.Frag) : R2 := fun x y H Q => rAddI x y H Q ∨ (rAddS x y H Q ∨ (rCatR x y H Q ∨ rCatA K x y H Q))
theorem op_addU : OpR X (binaryOp .Add) (rAddU X.K) := OpR.or op_add (OpR.or op_add_str (OpR.or op_catR op_catA))
def rExtR : V → List V → Hp → VK → Prop := fun x vs H Q => ∃ l b xs zs, x = .ref l ∧ vs = [.ref b] ∧ H l = some (.lst xs) ∧ Rd H b (.lst zs) ∧ xs.length + zs.length ≤ sizeLine ∧ Q .non (upd H l (.lst (xs ++ zs)))
theorem mt_extR : MtM X "list.extend" rExtR := by
  intro pins s σ H x vs v us Q I rx rv h
  obtain ⟨l, b, xs, zs, rfl, rfl, hH, hB, hz, q⟩ := h
  cases rx
  obtain ⟨u, rfl, ru⟩ := rv.one
  cases ru
  obtain ⟨z, its, n, r, hl, e⟩ := I.lstM hH
  obtain ⟨z2, its2, n2, r2, e2⟩ := hB.ok I.hok
  have hl2 := r2.length
  have hsz : its.toArray.size + its2.toArray.size ≤ sizeLine := by rw [List.size_toArray, List.size_toArray]; omega
  have hlong : ¬ (!its.toArray.isEmpty && Builtin.List.listTooLong (its.toArray.size + its2.toArray.size)) = true := by
    rw [notLongL hsz, Bool.and_false]
    exact Bool.false_ne_true
  refine call_meets PySem.F.slot_list_extend ⟨_, e, rfl⟩ PySem.F.entry_list_extend (PySem.F.args_list_extend_2 _ _)
    (AutoSeq1.list_extend_list_list_0 l its.toArray n b its2.toArray n2 hlong (by rw [List.size_toArray]; omega) (by omega)) ⟨e, e2, ?_⟩
  refine ⟨.non, _, I.lset (its' := its ++ its2) hH e (by simp) (r.append r2) ?_, rfl, q⟩
  rw [List.length_append]
  omega
def rLenU (K : PySem.W.Frag) : List V → Hp → VK → Prop := fun xs H Q => ∃ x n, xs = [x] ∧ LenV K x H n ∧ Q (.int n) H
theorem call_lenU : CallR X (.builtin "len") (rLenU X.K) := call_len
def rLenD : List V → Hp → VK → Prop := fun xs H Q => ∃ a kvs, xs = [V.ref a] ∧ H a = some (.dK kvs) ∧ Q (.int (kvs.length : Nat)) H
theorem call_lenDD : CallR X (.builtin "len") rLenD := call_lenD
def rAbs : List V → Hp → VK → Prop := fun xs H Q => ∃ i, xs = [.int i] ∧ Q (.int (if i < 0 then -i else i)) H
theorem call_absU : CallR X (.builtin "abs") rAbs := call_abs
def rInt1 : List V → Hp → VK → Prop := fun xs H Q => (∃ i, xs = [.int i] ∧ Q (.int i) H) ∨ ∃ k, xs = [.bl k] ∧ Q (.int (if k then 1 else 0)) H
theorem call_intU : CallR X (.type "int") rInt1 := call_int1
def rStrI : List V → Hp → VK → Prop := fun xs H Q => ∃ i, xs = [.int i] ∧ i.natAbs.log2 < 1920 ∧ Q (.str (toString i)) H
theorem call_strU : CallR X (.type "str") rStrI := call_str_int
def rMin2U : List V → Hp → VK → Prop := fun xs H Q => ∃ i j, xs = [.int i, .int j] ∧ Q (.int (if j < i then j else i)) H
theorem call_minU (hc : X.calm = true) : CallR X (.builtin "min") rMin2U := call_min2 hc
def rListU (K : PySem.W.Frag) : List V → Hp → VK → Prop := fun xs H Q => ∃ p ys, xs = [.ref p] ∧ (SqL K H p ys ∨ SqT K H p ys) ∧ ∀ l, H l = none → Q (.ref l) (upd H l (.lst ys))
theorem call_listU : CallR X (.type "list") (rListU X.K) := call_list_of
def rTupU (K : PySem.W.Frag) : List V → Hp → VK → Prop := fun xs H Q => ∃ p ys, xs = [.ref p] ∧ ((SqL K H p ys ∧ ∀ l, H l = none → Q (.ref l) (upd H l (.tup ys))) ∨ (SqT K H p ys ∧ Q (.ref p) H))
theorem call_tupU : CallR X (.type "tuple") (rTupU X.K) := call_tuple_of
def rJoinU (K : PySem.W.Frag) : V → List V → Hp → VK → Prop := fun x xs H Q => ∃ a p, ∃ ys : List Str, x = .str a ∧ xs = [.ref p] ∧ (SqL K H p (ys.map V.str) ∨ SqT K H p (ys.map V.str)) ∧
      (ys.map (·.length)).sum + ys.length * a.length ≤ 16777216 ∧ Q (.str (Txt.join a ys)) H
theorem pe_joinU {o e : Expr} {to te : TE} {apos pos : Pos} (ho : PE X o to) (he : PE X e te) (hs : starEach [e] X.env = [(false, eval e X.env)] := by rfl) (hbase : attributeBase o "join" X.env (eval o X.env) = eval o X.env := by rfl) (hline : (apos.endLine == pos.line) = true := by rfl) :
    PE X (.Call (.Attribute o "join" apos) [e] [] pos) (tM1 (rJoinU X.K) to te) := pe_join ho he hs hbase hline
def rInSg : R2 := fun x y H Q => ∃ (c : Nat) (z : Str), x = .str ⟨#[c]⟩ ∧ y = .str z ∧ Q (.bl (decide (c ∈ z.cps.toList))) H
theorem op_inSg : OpR X (compareOp .In) rInSg := op_in_sign
/-- isinstance(e, T), T a built-in class by its name -/
def tIsi (K : PySem.W.Frag) (T : String) (te : TE) : TE := tCB (rIsi K) (tCons te (tCons (tC (.ty T)) tNil))
theorem pe_isi {T : String} {x : Str} {e : Expr} {te : TE} {p p2 pos : Pos} (hg : Gl X "isinstance") (hm : X.mg "isinstance" = none) (hg2 : Gl X x) (hm2 : X.mg x = none) (hv : bootBuiltins x = some (.type T)) (he : PE X e te)
    (hn : x ≠ "__name__" := by decide) (hd : (x == ("__debug__" : Str)) = false := by decide) (h1 : starEach [e, .Name x p2] X.env = (false, eval e X.env) :: starEach [.Name x p2] X.env := by rfl)
    (h2 : (backTo pos (starEach [.Name x p2] X.env)).any (·.1) = false := by rfl) (h3 : starEach [.Name x p2] X.env = (false, eval (.Name x p2) X.env) :: starEach [] X.env := by rfl) : PE X (.Call (.Name "isinstance" p) [e, .Name x p2] [] pos) (tIsi X.K T te) :=
  pe_callB call_isi hg hm (by decide +kernel) (pa_cons he (pa_cons (pe_bltn hg2 hm2 hv rfl hn hd) pa_nil h3) h1) (by decide) (by decide) h1 h2
/-- a list that will be written -/
def tLstG (t : TA) : TE := tLst t
theorem pe_lstG {es : List Expr} {t : TA} {pos : Pos} (h : PA X es t) : PE X (.List es pos) (tLstG t) := pe_lst h
end

section
variable {K : PySem.W.Frag} {δ : De} {G : GH} {Φ : Dt → GH → Prop} {ta tb te tv : TE} {tt tu : TT} {t : TA} {d : Dt} {i : Nat}
/-! ### tests -/
theorem wt_val {Ψ : Bool → GH → Prop} (h : WE K te δ G fun x G1 => ∃ b, x = .dat (.bool b) ∧ Ψ b G1) : WT K (tB te) δ G Ψ := fun P σ H rr s Q q =>
  h P σ H rr s _ fun x dx G1 H1 s1 r1 v1 ⟨b, e, h1⟩ => by
    subst e
    cases v1
    exact ⟨b, rfl, q b G1 H1 s1 r1 h1⟩
theorem wt_tst {Ψ : Bool → GH → Prop} (h : WE K te δ G fun x G1 => ∃ b, x = .dat (.bool b) ∧ Ψ b G1) : WT K (tTest te) δ G Ψ := wt_val h
theorem wt_and {Ψ : Bool → GH → Prop} (h : WT K tt δ G fun b G1 => (b = true → WT K tu δ G1 Ψ) ∧ (b = false → Ψ false G1)) : WT K (tAnd tt tu) δ G Ψ := fun P σ H rr s Q q =>
  h P σ H rr s _ fun b G1 H1 s1 r1 ⟨h1, h2⟩ => by
    cases b with
    | true => exact h1 rfl P σ H1 r1 (s1.sr s) Q fun c G' H' s2 => q c G' H' (s1.trans s2)
    | false => exact q false G1 H1 s1 r1 (h2 rfl)
theorem wt_or {Ψ : Bool → GH → Prop} (h : WT K tt δ G fun b G1 => (b = false → WT K tu δ G1 Ψ) ∧ (b = true → Ψ true G1)) : WT K (tOr tt tu) δ G Ψ := fun P σ H rr s Q q =>
  h P σ H rr s _ fun b G1 H1 s1 r1 ⟨h1, h2⟩ => by
    cases b with
    | false => exact h1 rfl P σ H1 r1 (s1.sr s) Q fun c G' H' s2 => q c G' H' (s1.trans s2)
    | true => exact q true G1 H1 s1 r1 (h2 rfl)
theorem wt_not {Ψ : Bool → GH → Prop} (h : WT K tt δ G fun b G1 => Ψ (!b) G1) : WT K (tNot tt) δ G Ψ := fun P σ H rr s Q q =>
  h P σ H rr s _ fun b G1 H1 s1 r1 h1 => q _ G1 H1 s1 r1 h1
theorem wt_yes {Ψ : Bool → GH → Prop} (h : Ψ true G) : WT K tYes δ G Ψ := fun P σ H rr s Q q => q true G H .refl rr h
/-- truth of a list of data -/
theorem wt_is {Ψ : Bool → GH → Prop} {b : Bool} (e : b = true ∨ b = false) (h : (b = true → Ψ true G) ∧ (b = false → Ψ false G)) : Ψ b G := by
  cases b with
  | true => exact h.1 rfl
  | false => exact h.2 rfl
/-! ### argument lists, displays -/
theorem wa_nil {Ψ : List Dt → GH → Prop} (h : Ψ [] G) : WA K tNil δ G Ψ := fun P σ H rr s Q q => q _ _ G H .refl rr .nil h
theorem wa_cons {Ψ : List Dt → GH → Prop} (h : WE K ta δ G fun x G1 => WA K t δ G1 fun xs G2 => Ψ (x :: xs) G2) : WA K (tCons ta t) δ G Ψ := fun P σ H rr s Q q =>
  h P σ H rr s _ fun x dx G1 H1 s1 r1 v1 h1 => h1 P σ H1 r1 (s1.sr s) _ fun vs ds G2 H2 s2 r2 v2 h2 => q _ _ G2 H2 (s1.trans s2) r2 (.cons (s2.vr v1) v2) h2
def undats : List Dt → Option (List PyData)
  | [] => some []
  | .dat d :: ds => match undats ds with
    | some es => some (d :: es)
    | none => none
  | .obj _ :: _ => none
theorem undats_ok {B : Addr → Prop} {H : Hp} : ∀ {vs : List V} {ds : List Dt} {es : List PyData}, Paired (VR K B H) vs ds → undats ds = some es → DqAll K B H vs es
  | _, _, _, .nil, e => by cases e; exact .nil
  | _, .dat d :: ds, es, .cons a b, e => by
    unfold undats at e
    cases h : undats ds with
    | none => rw [h] at e; cases e
    | some fs =>
      rw [h] at e
      cases e
      exact .cons a (undats_ok b h)
  | _, .obj _ :: _, _, .cons _ _, e => by cases e
theorem line6 {n : Nat} (h : n ≤ 1000000) : n ≤ sizeLine := Nat.le_trans h (by rw [sizeLine_eq]; decide)
theorem we_tup (h : WA K t δ G fun ds G1 => ∃ es, undats ds = some es ∧ es.length ≤ 1000000 ∧ Φ (.dat (.tuple es)) G1) : WE K (tTup t) δ G Φ := fun P σ H rr s Q q =>
  h P σ H rr s _ fun vs ds G1 H1 s1 r1 v1 ⟨es, e, l, h1⟩ => by
    have w := undats_ok v1 e
    refine ⟨line6 (by rw [w.length]; exact l), fun p hp => ?_⟩
    have s2 : Stab G1 H1 G1 (upd H1 p (.tup vs)) := .new r1 hp
    exact q _ _ G1 _ (s1.trans s2) (r1.new hp) (.tup (SqT.of upd_same) (s2.dqA w)) h1
theorem new_lst {P : Addr → Prop} {H1 : Hp} {vs : List V} {es : List PyData} {p : Addr} (r1 : R K P G H1) (hp : H1 p = none) (w : DqAll K (Bk P G) H1 vs es) :
    Stab G H1 G (upd H1 p (.lst vs)) ∧ R K P G (upd H1 p (.lst vs)) ∧ VR K (Bk P G) (upd H1 p (.lst vs)) (.ref p) (.dat (.list es)) := by
  have s2 : Stab G H1 G (upd H1 p (.lst vs)) := .new r1 hp
  exact ⟨s2, r1.new hp, .lst (r1.freshB hp) (.inl upd_same) (s2.dqA w)⟩
theorem new_lstG {P : Addr → Prop} {H1 : Hp} {vs : List V} {es : List PyData} {p : Addr} (r1 : R K P G H1) (hp : H1 p = none) (w : DqAll K (Bk P G) H1 vs es) :
    Stab G H1 (updG G p (.lst es)) (upd H1 p (.lst vs)) ∧ R K P (updG G p (.lst es)) (upd H1 p (.lst vs)) ∧ VR K (Bk P (updG G p (.lst es))) (upd H1 p (.lst vs)) (.ref p) (.obj p) := by
  have s2 : Stab G H1 (updG G p (.lst es)) (upd H1 p (.lst vs)) := .newG r1 hp
  exact ⟨s2, r1.newG hp ⟨vs, upd_same, s2.dqA w⟩, rfl⟩
theorem we_lst (h : WA K t δ G fun ds G1 => ∃ es, undats ds = some es ∧ es.length ≤ 1000000 ∧ Φ (.dat (.list es)) G1) : WE K (tLst t) δ G Φ := fun P σ H rr s Q q =>
  h P σ H rr s _ fun vs ds G1 H1 s1 r1 v1 ⟨es, e, l, h1⟩ => by
    have w := undats_ok v1 e
    refine ⟨line6 (by rw [w.length]; exact l), fun p hp => ?_⟩
    obtain ⟨s2, r2, v2⟩ := new_lst r1 hp w
    exact q _ _ G1 _ (s1.trans s2) r2 v2 h1
theorem we_lstG (h : WA K t δ G fun ds G1 => ∃ es, undats ds = some es ∧ es.length ≤ 1000000 ∧ ∀ p, G1 p = none → Φ (.obj p) (updG G1 p (.lst es))) : WE K (tLstG t) δ G Φ := fun P σ H rr s Q q =>
  h P σ H rr s _ fun vs ds G1 H1 s1 r1 v1 ⟨es, e, l, h1⟩ => by
    have w := undats_ok v1 e
    refine ⟨line6 (by rw [w.length]; exact l), fun p hp => ?_⟩
    obtain ⟨s2, r2, v2⟩ := new_lstG r1 hp w
    exact q _ _ _ _ (s1.trans s2) r2 v2 (h1 p (r1.freshG hp))
theorem we_dictG (h : ∀ p, G p = none → Φ (.obj p) (updG G p (.dic []))) : WE K tDNewK δ G Φ := fun P σ H rr s Q q p hp => by
  have s2 : Stab G H (updG G p (.dic [])) (upd H p (.dK [])) := .newG rr hp
  exact q _ (.obj p) _ _ s2 (rr.newG hp ⟨[], upd_same, .nil⟩) rfl (h p (rr.freshG hp))
/-! ### + -/
def dAdd (x y : Dt) (G : GH) (Φ : Dt → GH → Prop) : Prop := match x, y with
  | .dat (.int i), .dat (.int j) => Φ (.dat (.int (i + j))) G
  | .dat (.str i), .dat (.str j) => i.length + j.length ≤ sizeLine ∧ Φ (.dat (.str (i ++ j))) G
  | .dat (.tuple i), .dat (.tuple j) => i.length + j.length ≤ sizeLine ∧ Φ (.dat (.tuple (i ++ j))) G
  | .dat (.list i), .dat (.list j) => i.length + j.length ≤ sizeLine ∧ Φ (.dat (.list (i ++ j))) G
  | .obj a, .dat (.list j) => ∃ i, G a = some (.lst i) ∧ i.length + j.length ≤ sizeLine ∧ Φ (.dat (.list (i ++ j))) G
  | _, _ => False
theorem cat_ok {P : Addr → Prop} {H : Hp} {x y : V} {dx dy : Dt} {xs ys : List PyData} (r : R K P G H) (vx : VR K (Bk P G) H x dx) (vy : VR K (Bk P G) H y dy) (hx : LsOf G dx xs) (hy : LsOf G dy ys) (l : xs.length + ys.length ≤ sizeLine) (Q : VK)
    (q : ∀ v d G' H', Stab G H G' H' → R K P G' H' → VR K (Bk P G') H' v d → d = .dat (.list (xs ++ ys)) ∧ G' = G → Q v H') : rCatR x y H Q := by
  obtain ⟨a, vs, rfl, q1, w1⟩ := hx.at_ r vx
  obtain ⟨b, ws, rfl, q2, w2⟩ := hy.at_ r vy
  refine ⟨a, b, vs, ws, rfl, rfl, q1, q2, by rw [w1.length, w2.length]; exact l, fun p hp => ?_⟩
  obtain ⟨s2, r2, v2⟩ := new_lst r hp (w1.append w2)
  exact q _ _ G _ s2 r2 v2 ⟨rfl, rfl⟩
theorem we_add (h : WE K ta δ G fun x G1 => WE K tb δ G1 fun y G2 => dAdd x y G2 Φ) : WE K (tOp (rAddU K) ta tb) δ G Φ :=
  we_op2 (Ψ := dAdd) (fun P G H x y dx dy Φ r vx vy k Q q => by
    unfold dAdd at k
    split at k
    · cases vx; cases vy
      exact .inl ⟨_, _, rfl, rfl, q _ _ G H .refl r (.int _) k⟩
    · cases vx; cases vy
      exact .inr (.inl ⟨_, _, rfl, rfl, k.1, q _ _ G H .refl r (.str _) k.2⟩)
    · cases vx with
      | tup s1 w1 =>
        cases vy with
        | tup s2 w2 =>
          rename_i i j a vs b ws
          refine .inr (.inr (.inr ⟨a, b, vs, ws, rfl, rfl, s1, s2, by rw [w1.length, w2.length]; exact k.1, fun e => ?_, fun _ e => ?_, fun _ _ p hp => ?_⟩))
          · subst e
            cases w1
            exact q _ _ G H .refl r (.tup s2 w2) k.2
          · subst e
            cases w2
            have k2 := k.2
            rw [List.append_nil] at k2
            exact q _ _ G H .refl r (.tup s1 w1) k2
          · have s3 : Stab G H G (upd H p (.tup (vs ++ ws))) := .new r hp
            exact q _ _ G _ s3 (r.new hp) (.tup (SqT.of upd_same) (s3.dqA (w1.append w2))) k.2
    · exact .inr (.inr (.inl (cat_ok r vx vy (.inl rfl) (.inl rfl) k.1 Q fun v d G' H' a b c ⟨e1, e2⟩ => by
        subst e1; subst e2
        exact q v _ _ H' a b c k.2)))
    · obtain ⟨xs, g, l, k⟩ := k
      exact .inr (.inr (.inl (cat_ok r vx vy (.inr ⟨_, rfl, g⟩) (.inl rfl) l Q fun v d G' H' a b c ⟨e1, e2⟩ => by
        subst e1; subst e2
        exact q v _ _ H' a b c k)))
    · exact k.elim) h
/-! ### an item -/
def dIx (x y : Dt) (G : GH) (Φ : Dt → GH → Prop) : Prop := match x, y with
  | .dat (.list xs), .dat (.int i) => ∃ d, atI xs i = some d ∧ Φ (.dat d) G
  | .dat (.tuple xs), .dat (.int i) => ∃ d, atI xs i = some d ∧ Φ (.dat d) G
  | .dat (.str z), .dat (.int i) => z.length ≤ sizeLine ∧ ∃ c, atI z.cps.toList i = some c ∧ Φ (.dat (.str ⟨#[c]⟩)) G
  | .obj a, .dat (.int i) => ∃ xs, G a = some (.lst xs) ∧ ∃ d, atI xs i = some d ∧ Φ (.dat d) G
  | _, _ => False
theorem atI_ok {B : Addr → Prop} {H : Hp} {vs : List V} {ds : List PyData} {i : Int} {d : PyData} (w : DqAll K B H vs ds) (h : atI ds i = some d) : ∃ v, atI vs i = some v ∧ Dq K B H v d := by
  unfold atI at h ⊢
  rw [w.length]
  cases e : ixN ds.length i with
  | none => rw [e] at h; cases h
  | some j =>
    rw [e] at h
    exact w.get h
theorem we_ix (h : WE K ta δ G fun x G1 => WE K tb δ G1 fun y G2 => dIx x y G2 Φ) : WE K (tOp (rIx K) ta tb) δ G Φ :=
  we_op2 (Ψ := dIx) (fun P G H x y dx dy Φ r vx vy k Q q => by
    have lst : ∀ xs i d, LsOf G dx xs → dy = .dat (.int i) → atI xs i = some d → Φ (.dat d) G → rIx K x y H Q := fun xs i d l e h k' => by
      subst e
      cases vy
      obtain ⟨a, vs, rfl, q1, w1⟩ := l.at_ r vx
      obtain ⟨v, h1, h2⟩ := atI_ok w1 h
      exact .inl ⟨a, vs, i, v, rfl, rfl, .inl q1, h1, q v (.dat d) G H .refl r h2 k'⟩
    unfold dIx at k
    split at k
    · obtain ⟨d, h, k⟩ := k
      exact lst _ _ d (.inl rfl) rfl h k
    · obtain ⟨d, h, k⟩ := k
      cases vy
      cases vx with
      | tup s1 w1 =>
        obtain ⟨v, h1, h2⟩ := atI_ok w1 h
        exact .inr (.inl ⟨_, _, _, v, rfl, rfl, s1, h1, q v (.dat d) G H .refl r h2 k⟩)
    · obtain ⟨l, c, h, k⟩ := k
      cases vx; cases vy
      exact .inr (.inr ⟨_, _, c, rfl, rfl, l, h, q _ _ G H .refl r (.str _) k⟩)
    · obtain ⟨xs, g, d, h, k⟩ := k
      exact lst _ _ d (.inr ⟨_, rfl, g⟩) rfl h k
    · exact k.elim) h
/-! ### slices -/
theorem wo_none {Ψ : Option Int → GH → Prop} (h : Ψ none G) : WO K tNoPart δ G Ψ := fun P σ H rr s Q q => q _ G H .refl rr h
theorem wo_some {Ψ : Option Int → GH → Prop} (h : WE K te δ G fun x G1 => ∃ i, x = .dat (.int i) ∧ Ψ (some i) G1) : WO K (tPart te) δ G Ψ := fun P σ H rr s Q q =>
  h P σ H rr s _ fun x dx G1 H1 s1 r1 v1 ⟨i, e, h1⟩ => by
    subst e
    cases v1
    exact ⟨i, rfl, q _ G1 H1 s1 r1 h1⟩
/-- the items that a slice takes -/
def cutD (xs : List PyData) (lo hi : Option Int) : List PyData := (xs.drop (HT.sIx xs.length 0 lo)).take (HT.sIx xs.length xs.length hi - HT.sIx xs.length 0 lo)
theorem cut_ok {B : Addr → Prop} {H : Hp} {vs : List V} {ds : List PyData} (w : DqAll K B H vs ds) (lo hi : Option Int) : DqAll K B H (cutV vs lo hi) (cutD ds lo hi) := by
  unfold cutV cutD
  rw [w.length]
  exact (w.drop _).take _
theorem we_slL {tl th : TO} (h : WE K te δ G fun x G1 => WO K tl δ G1 fun lo G2 => WO K th δ G2 fun hi G3 => ∃ xs, LsOf G3 x xs ∧ Φ (.dat (.list (cutD xs lo hi))) G3) : WE K (tSl (rSlL K) te tl th) δ G Φ := fun P σ H rr s Q q =>
  h P σ H rr s _ fun x dx G1 H1 s1 r1 v1 h1 => h1 P σ H1 r1 (s1.sr s) _ fun lo G2 H2 s2 r2 h2 => h2 P σ H2 r2 ((s1.trans s2).sr s) _ fun hi G3 H3 s3 r3 ⟨xs, l, h3⟩ => by
    obtain ⟨a, vs, rfl, q1, w1⟩ := l.at_ r3 ((s2.trans s3).vr v1)
    refine ⟨a, vs, rfl, .inl q1, fun p hp => ?_⟩
    obtain ⟨s4, r4, v4⟩ := new_lst r3 hp (cut_ok w1 lo hi)
    exact q _ _ G3 _ (((s1.trans s2).trans s3).trans s4) r4 v4 h3
theorem we_slT {tl th : TO} (h : WE K te δ G fun x G1 => WO K tl δ G1 fun lo G2 => WO K th δ G2 fun hi G3 => ∃ xs, x = .dat (.tuple xs) ∧ Φ (.dat (.tuple (cutD xs lo hi))) G3) : WE K (tSl (rSlA K) te tl th) δ G Φ := fun P σ H rr s Q q =>
  h P σ H rr s _ fun x dx G1 H1 s1 r1 v1 h1 => h1 P σ H1 r1 (s1.sr s) _ fun lo G2 H2 s2 r2 h2 => h2 P σ H2 r2 ((s1.trans s2).sr s) _ fun hi G3 H3 s3 r3 ⟨xs, e, h3⟩ => by
    subst e
    have v3 := (s2.trans s3).vr v1
    cases v3 with
    | tup q1 w1 =>
      rename_i a vs
      refine ⟨a, vs, rfl, q1, fun ⟨z1, z2⟩ => ?_, fun _ p hp => ?_⟩
      · have e : cutD xs lo hi = xs := by
          unfold cutD
          rw [w1.length] at z1 z2
          rw [z1, z2, List.drop_zero, Nat.sub_zero, List.take_length]
        rw [e] at h3
        exact q _ _ G3 H3 ((s1.trans s2).trans s3) r3 (.tup q1 w1) h3
      · have s4 : Stab G3 H3 G3 (upd H3 p (.tup (cutV vs lo hi))) := .new r3 hp
        exact q _ _ G3 _ (((s1.trans s2).trans s3).trans s4) (r3.new hp) (.tup (SqT.of upd_same) (s4.dqA (cut_ok w1 lo hi))) h3
/-! ### built-ins -/
theorem we_cb {r : List V → Hp → VK → Prop} {Ψ : List Dt → GH → (Dt → GH → Prop) → Prop}
    (hr : ∀ (P : Addr → Prop) (G : GH) (H : Hp) (vs : List V) (ds : List Dt) (Φ : Dt → GH → Prop), R K P G H → Paired (VR K (Bk P G) H) vs ds → Ψ ds G Φ → ∀ Q : VK,
      (∀ v d G' H', Stab G H G' H' → R K P G' H' → VR K (Bk P G') H' v d → Φ d G' → Q v H') → r vs H Q)
    (h : WA K t δ G fun ds G1 => Ψ ds G1 Φ) : WE K (tCB r t) δ G Φ := fun P σ H rr s Q q =>
  h P σ H rr s _ fun vs ds G1 H1 s1 r1 v1 h1 => hr P G1 H1 vs ds Φ r1 v1 h1 Q fun v d G' H' s2 => q v d G' H' (s1.trans s2)
def dLen (x : Dt) (G : GH) (Ψ : Nat → Prop) : Prop := match x with
  | .dat (.list xs) => Ψ xs.length
  | .dat (.tuple xs) => Ψ xs.length
  | .dat (.str z) => z.length ≤ sizeLine ∧ Ψ z.length
  | .obj a => (∃ xs, G a = some (.lst xs) ∧ Ψ xs.length) ∨ (G a = some .nums ∧ ∀ n, Ψ n)
  | _ => False
theorem we_len (h : WA K t δ G fun ds G1 => ∃ x, ds = [x] ∧ dLen x G1 fun n => Φ (.dat (.int n)) G1) : WE K (tCB (rLenU K) t) δ G Φ :=
  we_cb (Ψ := fun ds G Φ => ∃ x, ds = [x] ∧ dLen x G fun n => Φ (.dat (.int n)) G) (fun P G H vs ds Φ r v ⟨x, e, k⟩ Q q => by
    subst e
    cases v with
    | cons v t =>
      cases t
      rename_i y
      have fin : ∀ n : Nat, LenV K y H n → Φ (.dat (.int n)) G → rLenU K [y] H Q := fun n l k => ⟨y, n, rfl, l, q _ _ G H .refl r (.int _) k⟩
      unfold dLen at k
      split at k
      · cases v with
        | lst n q1 w => exact fin _ (.inl ⟨_, .inl q1, w.length.symm⟩) k
      · cases v with
        | tup q1 w => exact fin _ (.inr ⟨_, q1, w.length.symm⟩) k
      · cases v
        exact fin _ ⟨k.1, rfl⟩ k.2
      · have e : y = .ref _ := v
        subst e
        rcases k with ⟨xs, g, k⟩ | ⟨g, k⟩
        · obtain ⟨ws, q1, w⟩ := r.ob _ _ g
          exact fin _ (.inl ⟨_, .inl (.inl q1), w.length.symm⟩) k
        · obtain ⟨ns, q1⟩ := r.ob _ _ g
          exact fin _ (.inl ⟨_, .inl (.inl q1), rfl⟩) (k _)
      · exact k.elim) h
theorem we_lenD (h : WA K t δ G fun ds G1 => ∃ a kvs, ds = [.obj a] ∧ G1 a = some (.dic kvs) ∧ Φ (.dat (.int (kvs.length : Nat))) G1) : WE K (tCB rLenD t) δ G Φ :=
  we_cb (Ψ := fun ds G Φ => ∃ a kvs, ds = [.obj a] ∧ G a = some (.dic kvs) ∧ Φ (.dat (.int (kvs.length : Nat))) G) (fun P G H vs ds Φ r v ⟨a, kvs, e, g, k⟩ Q q => by
    subst e
    cases v with
    | cons v t =>
      cases t
      cases v
      obtain ⟨kv, q1, w⟩ := r.ob _ _ g
      refine ⟨a, kv, rfl, q1, ?_⟩
      have e : kv.length = kvs.length := Paired.length w
      rw [e]
      exact q _ _ G H .refl r (.int _) k) h
theorem we_abs (h : WA K t δ G fun ds G1 => ∃ i, ds = [.dat (.int i)] ∧ Φ (.dat (.int (if i < 0 then -i else i))) G1) : WE K (tCB rAbs t) δ G Φ :=
  we_cb (Ψ := fun ds G Φ => ∃ i, ds = [.dat (.int i)] ∧ Φ (.dat (.int (if i < 0 then -i else i))) G) (fun P G H vs ds Φ r v ⟨i, e, k⟩ Q q => by
    subst e
    cases v with
    | cons v t =>
      cases t; cases v
      exact ⟨i, rfl, q _ _ G H .refl r (.int _) k⟩) h
def dInt (x : Dt) (Ψ : Int → Prop) : Prop := match x with
  | .dat (.int i) => Ψ i
  | .dat (.bool b) => Ψ (if b then 1 else 0)
  | _ => False
theorem we_int1 (h : WA K t δ G fun ds G1 => ∃ x, ds = [x] ∧ dInt x fun i => Φ (.dat (.int i)) G1) : WE K (tCB rInt1 t) δ G Φ :=
  we_cb (Ψ := fun ds G Φ => ∃ x, ds = [x] ∧ dInt x fun i => Φ (.dat (.int i)) G) (fun P G H vs ds Φ r v ⟨x, e, k⟩ Q q => by
    subst e
    cases v with
    | cons v t =>
      cases t
      unfold dInt at k
      split at k
      · cases v; exact .inl ⟨_, rfl, q _ _ G H .refl r (.int _) k⟩
      · cases v; exact .inr ⟨_, rfl, q _ _ G H .refl r (.int _) k⟩
      · exact k.elim) h
theorem we_strI (h : WA K t δ G fun ds G1 => ∃ i, ds = [.dat (.int i)] ∧ i.natAbs.log2 < 1920 ∧ Φ (.dat (.str (toString i))) G1) : WE K (tCB rStrI t) δ G Φ :=
  we_cb (Ψ := fun ds G Φ => ∃ i, ds = [.dat (.int i)] ∧ i.natAbs.log2 < 1920 ∧ Φ (.dat (.str (toString i))) G) (fun P G H vs ds Φ r v ⟨i, e, l, k⟩ Q q => by
    subst e
    cases v with
    | cons v t =>
      cases t; cases v
      exact ⟨i, rfl, l, q _ _ G H .refl r (.str _) k⟩) h
theorem we_min2 (h : WA K t δ G fun ds G1 => ∃ i j, ds = [.dat (.int i), .dat (.int j)] ∧ Φ (.dat (.int (if j < i then j else i))) G1) : WE K (tCB rMin2U t) δ G Φ :=
  we_cb (Ψ := fun ds G Φ => ∃ i j, ds = [.dat (.int i), .dat (.int j)] ∧ Φ (.dat (.int (if j < i then j else i))) G) (fun P G H vs ds Φ r v ⟨i, j, e, k⟩ Q q => by
    subst e
    cases v with
    | cons v t =>
      cases t with
      | cons v2 t =>
        cases t; cases v; cases v2
        exact ⟨i, j, rfl, q _ _ G H .refl r (.int _) k⟩) h
theorem we_gcd (h : WA K t δ G fun ds G1 => ∃ i j, ds = [.dat (.int i), .dat (.int j)] ∧ Φ (.dat (.int ((Nat.gcd i.natAbs j.natAbs : Nat) : Int))) G1) : WE K (tCB rGcd t) δ G Φ :=
  we_cb (Ψ := fun ds G Φ => ∃ i j, ds = [.dat (.int i), .dat (.int j)] ∧ Φ (.dat (.int ((Nat.gcd i.natAbs j.natAbs : Nat) : Int))) G) (fun P G H vs ds Φ r v ⟨i, j, e, k⟩ Q q => by
    subst e
    cases v with
    | cons v t =>
      cases t with
      | cons v2 t =>
        cases t; cases v; cases v2
        exact ⟨i, j, rfl, q _ _ G H .refl r (.int _) k⟩) h
theorem SqOf.at_ {P : Addr → Prop} {H : Hp} {x : V} {dx : Dt} {ds : List PyData} (r : R K P G H) (vx : VR K (Bk P G) H x dx) (h : SqOf G dx ds) : ∃ a vs, x = .ref a ∧ (SqL K H a vs ∨ SqT K H a vs) ∧ DqAll K (Bk P G) H vs ds := by
  rcases h with e | l
  · subst e
    cases vx with
    | tup q w => exact ⟨_, _, rfl, .inr q, w⟩
  · obtain ⟨a, vs, e, q, w⟩ := l.at_ r vx
    exact ⟨a, vs, e, .inl (.inl q), w⟩
theorem we_listOf (h : WA K t δ G fun ds G1 => ∃ x xs, ds = [x] ∧ SqOf G1 x xs ∧ Φ (.dat (.list xs)) G1) : WE K (tCB (rListU K) t) δ G Φ :=
  we_cb (Ψ := fun ds G Φ => ∃ x xs, ds = [x] ∧ SqOf G x xs ∧ Φ (.dat (.list xs)) G) (fun P G H vs ds Φ r v ⟨x, xs, e, l, k⟩ Q q => by
    subst e
    cases v with
    | cons v t =>
      cases t
      obtain ⟨a, ws, rfl, q1, w⟩ := l.at_ r v
      refine ⟨a, ws, rfl, q1, fun p hp => ?_⟩
      obtain ⟨s2, r2, v2⟩ := new_lst r hp w
      exact q _ _ G _ s2 r2 v2 k) h
theorem we_tupOf (h : WA K t δ G fun ds G1 => ∃ x xs, ds = [x] ∧ SqOf G1 x xs ∧ Φ (.dat (.tuple xs)) G1) : WE K (tCB (rTupU K) t) δ G Φ :=
  we_cb (Ψ := fun ds G Φ => ∃ x xs, ds = [x] ∧ SqOf G x xs ∧ Φ (.dat (.tuple xs)) G) (fun P G H vs ds Φ r v ⟨x, xs, e, l, k⟩ Q q => by
    subst e
    cases v with
    | cons v t =>
      cases t
      obtain ⟨a, ws, rfl, q1, w⟩ := l.at_ r v
      refine ⟨a, ws, rfl, ?_⟩
      rcases q1 with q1 | q1
      · refine .inl ⟨q1, fun p hp => ?_⟩
        have s3 : Stab G H G (upd H p (.tup ws)) := .new r hp
        exact q _ _ G _ s3 (r.new hp) (.tup (SqT.of upd_same) (s3.dqA w)) k
      · exact .inr ⟨q1, q _ _ G H .refl r (.tup q1 w) k⟩) h
theorem we_sum (h : WA K t δ G fun ds G1 => ∃ (x : Dt) (ns : List Int), ds = [x] ∧ LsOf G1 x (ns.map PyData.int) ∧ Φ (.dat (.int ns.sum)) G1) : WE K (tCB (rSum K) t) δ G Φ :=
  we_cb (Ψ := fun ds G Φ => ∃ (x : Dt) (ns : List Int), ds = [x] ∧ LsOf G x (ns.map PyData.int) ∧ Φ (.dat (.int ns.sum)) G) (fun P G H vs ds Φ r v ⟨x, ns, e, l, k⟩ Q q => by
    subst e
    cases v with
    | cons v t =>
      cases t
      obtain ⟨a, ws, rfl, q1, w⟩ := l.at_ r v
      have e := w.nums
      subst e
      exact ⟨a, ns, rfl, .inl q1, q _ _ G H .refl r (.int _) k⟩) h
theorem we_all (h : WA K t δ G fun ds G1 => ∃ (x : Dt) (bs : List Bool), ds = [x] ∧ LsOf G1 x (bs.map PyData.bool) ∧ Φ (.dat (.bool (bs.all id))) G1) : WE K (tCB (rAll K) t) δ G Φ :=
  we_cb (Ψ := fun ds G Φ => ∃ (x : Dt) (bs : List Bool), ds = [x] ∧ LsOf G x (bs.map PyData.bool) ∧ Φ (.dat (.bool (bs.all id))) G) (fun P G H vs ds Φ r v ⟨x, ns, e, l, k⟩ Q q => by
    subst e
    cases v with
    | cons v t =>
      cases t
      obtain ⟨a, ws, rfl, q1, w⟩ := l.at_ r v
      have e := w.bools
      subst e
      exact ⟨a, ns, rfl, .inl q1, q _ _ G H .refl r (.bl _) k⟩) h
theorem we_any (h : WA K t δ G fun ds G1 => ∃ (x : Dt) (bs : List Bool), ds = [x] ∧ LsOf G1 x (bs.map PyData.bool) ∧ Φ (.dat (.bool (bs.any id))) G1) : WE K (tCB (rAny K) t) δ G Φ :=
  we_cb (Ψ := fun ds G Φ => ∃ (x : Dt) (bs : List Bool), ds = [x] ∧ LsOf G x (bs.map PyData.bool) ∧ Φ (.dat (.bool (bs.any id))) G) (fun P G H vs ds Φ r v ⟨x, ns, e, l, k⟩ Q q => by
    subst e
    cases v with
    | cons v t =>
      cases t
      obtain ⟨a, ws, rfl, q1, w⟩ := l.at_ r v
      have e := w.bools
      subst e
      exact ⟨a, ns, rfl, .inl q1, q _ _ G H .refl r (.bl _) k⟩) h
theorem we_join (h : WE K ta δ G fun x G1 => ∃ a, x = .dat (.str a) ∧ WE K te δ G1 fun y G2 => ∃ ys : List Str, SqOf G2 y (ys.map PyData.str) ∧ (ys.map (·.length)).sum + ys.length * a.length ≤ 16777216 ∧ Φ (.dat (.str (Txt.join a ys))) G2) :
    WE K (tM1 (rJoinU K) ta te) δ G Φ := fun P σ H rr s Q q =>
  h P σ H rr s _ fun x dx G1 H1 s1 r1 v1 ⟨a, e, h1⟩ => by
    subst e
    cases v1
    refine ⟨⟨a, rfl⟩, h1 P σ H1 r1 (s1.sr s) _ fun y dy G2 H2 s2 r2 v2 ⟨ys, l, z, k⟩ => ?_⟩
    obtain ⟨b, ws, rfl, q1, w⟩ := l.at_ r2 v2
    have e := w.strs
    subst e
    exact ⟨a, b, ys, rfl, rfl, q1, z, q _ _ G2 H2 (s1.trans s2) r2 (.str _) k⟩
end
end DL
/-! (Dl4) -/
namespace DL
open PySem PySem.Spec PyProof.Rows L2

/-! ### promises over data -/
abbrev FT := List Dt → GH → (Dt → GH → Prop) → Prop
def spD (K : PySem.W.Frag) (F : FT) : Sp := fun vs H Q _ => ∃ P ds G Φ, Paired (VR K (Bk P G) H) vs ds ∧ R K P G H ∧ F ds G Φ ∧
  ∀ v d G' H', Stab G H G' H' → R K P G' H' → VR K (Bk P G') H' v d → Φ d G' → Q v H'
theorem spD_len {K : PySem.W.Frag} {F : FT} {n : Nat} (h : ∀ ds G Φ, F ds G Φ → ds.length = n) : ∀ vs H Q E, spD K F vs H Q E → vs.length = n := fun vs H Q E ⟨P, ds, G, Φ, p, _, f, _⟩ => by
  have e : vs.length = ds.length := Paired.length p
  rw [e, h ds G Φ f]
def startD (N : List Str) (ds : List Dt) : De := ds.map some ++ List.replicate (N.length - ds.length) none
theorem start_sr {K : PySem.W.Frag} {B : Addr → Prop} {H : Hp} {N : List Str} {vs : List V} {ds : List Dt} (p : Paired (VR K B H) vs ds) : SR K B H (L2.start N vs) (startD N ds) := by
  have e : vs.length = ds.length := Paired.length p
  refine ⟨by unfold L2.start startD; simp [e], fun i d h => ?_⟩
  unfold startD at h
  by_cases hi : i < ds.length
  · rw [List.getElem?_append_left (by simpa using hi), List.getElem?_map] at h
    unfold L2.start
    rw [List.getElem?_append_left (by simpa [e] using hi), List.getElem?_map]
    clear hi
    induction p generalizing i with
    | nil => simp at h
    | @cons v d' vs ds r t ih =>
      cases i with
      | zero => simp at h; subst h; exact ⟨v, by simp, r⟩
      | succ i =>
        have e' : vs.length = ds.length := Paired.length t
        exact ih e' i (by simpa using h)
  · rw [List.getElem?_append_right (by simpa using hi), List.getElem?_replicate] at h
    split at h <;> cases h
/-- THE RULE for a def -/
theorem okD {P : Program} {w : World} {K : PySem.W.Frag} {mg : Str → Option Value} {base : Heap} {x qual : Str} {params : Arguments} {body : List Stmt} {scope : Scope} {dvs : List V} {kws : List (Str × V)} {f : Addr} {fd : FuncData}
    {N ps : List Str} {k : Nat} {F : FT} (D : FunD K x qual params body scope dvs kws f fd) (S : FnScope N ps scope) (len : ∀ ds G Φ, F ds G Φ → ds.length = ps.length)
    (hbody : ∀ (cdv : Value) (A : Around) (outer : List Env) (s : Shared) (H : Hp) (E : XK), Room k (A.deeper (envOfC qual scope s.heap.objs.size f cdv)) →
      ∃ t, PSs (cxOf CX0 P w K mg base N qual scope f cdv A outer s H E).nox body t ∧ ∀ ds G Φ, F ds G Φ → WS K t (startD N ds) G { nx := fun _ G' => Φ (.dat .none) G', rt := Φ }) :
    FnOk P w K mg base CX0 (k + 1) f fd ps (spD K F) := by
  refine D.ok S (spD_len len) fun cdv A outer s H vs Q E hr h => ?_
  obtain ⟨Pp, ds, G, Φ, p, r, hf, q⟩ := h
  obtain ⟨t, ht, hw⟩ := hbody cdv A outer s H E hr
  refine ⟨t, ht.nox, hw ds G Φ hf Pp _ H r (start_sr p) _ ⟨fun σ' δ' G' H' s1 r1 _ k => ?_, fun v d G' H' s1 r1 v1 k => q v d G' H' s1 r1 v1 k, fun _ _ _ _ _ _ _ k => k.elim, fun _ _ _ _ _ _ _ k => k.elim⟩⟩
  exact q .non (.dat .none) G' H' s1 r1 .non k

section
variable {K : PySem.W.Frag} {δ : De} {G : GH} {Φ : Dt → GH → Prop} {ta tb te tv : TE} {tt tu : TT} {t : TA} {d : Dt} {i : Nat} {F : FT} {E : XK}
theorem Paired.append {α β : Type} {F : α → β → Prop} : ∀ {xs xs' : List α} {ys ys' : List β}, Paired F xs ys → Paired F xs' ys' → Paired F (xs ++ xs') (ys ++ ys')
  | _, _, _, _, .nil, s => s
  | _, _, _, _, .cons r t, s => .cons r (Paired.append t s)
/-- default values as data -/
def DfV (K : PySem.W.Frag) (dvs : List V) (dds : List Dt) : Prop := ∀ B H, Paired (VR K B H) dvs dds
theorem dfv_nil : DfV K [] [] := fun _ _ => .nil
theorem we_callD {dvs : List V} {dds : List Dt} (hd : DfV K dvs dds) (h : WA K t δ G fun ds G1 => F (ds ++ dds) G1 Φ) : WE K (tCall (spD K F) dvs E t) δ G Φ := fun P σ H rr s Q q =>
  h P σ H rr s _ fun vs ds G1 H1 s1 r1 v1 h1 => ⟨P, ds ++ dds, G1, Φ, Paired.append v1 (hd _ _), r1, h1, fun v d G' H' s2 => q v d G' H' (s1.trans s2)⟩
theorem we_call (h : WA K t δ G fun ds G1 => F ds G1 Φ) : WE K (tCall (spD K F) [] E t) δ G Φ := we_callD dfv_nil (h.mono fun ds G1 k => by rw [List.append_nil]; exact k)
end

/-! ### own classes -/
/-- the field f of the class at C stands at place i -/
structure Fld (K : PySem.W.Frag) (C : Addr) (ns : List Str) (f : Str) (i : Nat) : Prop where
  cl : Cls K C
  no : NoAttr K C f
  nd : ns.Nodup
  at_ : ns[i]? = some f
theorem zip_lookup : ∀ {ns : List Str} {vs : List V} {i : Nat} {f : Str} {v : V}, ns.Nodup → ns[i]? = some f → vs[i]? = some v → (ns.zip vs).lookup f = some v
  | [], _, _, _, _, _, h, _ => by simp at h
  | _ :: _, [], _, _, _, _, _, h => by simp at h
  | n :: ns, w :: vs, 0, f, v, _, h1, h2 => by
    simp at h1 h2
    subst h1; subst h2
    simp [List.lookup]
  | n :: ns, w :: vs, i + 1, f, v, nd, h1, h2 => by
    have h1 : ns[i]? = some f := by simpa using h1
    have h2 : vs[i]? = some v := by simpa using h2
    obtain ⟨n1, n2⟩ := List.nodup_cons.mp nd
    have hf : (f == n) = false := beq_eq_false_iff_ne.mpr fun e => n1 (by rw [← e]; exact List.mem_of_getElem? h1)
    show List.lookup f ((n, w) :: ns.zip vs) = some v
    simp only [List.lookup, hf]
    exact zip_lookup n2 h1 h2
theorem zip_none : ∀ {ns : List Str} {vs : List V} {f : Str}, f ∉ ns → (ns.zip vs).lookup f = none
  | [], _, _, _ => rfl
  | _ :: _, [], _, _ => rfl
  | n :: ns, w :: vs, f, h => by
    have hf : (f == n) = false := beq_eq_false_iff_ne.mpr fun e => h (by rw [e]; exact List.mem_cons_self)
    show List.lookup f ((n, w) :: ns.zip vs) = none
    simp only [List.lookup, hf]
    exact zip_none fun m => h (List.mem_cons_of_mem _ m)
theorem putF_zip : ∀ {ns : List Str} {vs : List V} {i : Nat} {f : Str} {v : V}, ns.Nodup → ns[i]? = some f → ns.length = vs.length → putF f v (ns.zip vs) = ns.zip (vs.set i v)
  | [], _, _, _, _, _, h, _ => by simp at h
  | _ :: _, [], _, _, _, _, _, h => by simp at h
  | n :: ns, w :: vs, 0, f, v, _, h1, _ => by
    simp at h1
    subst h1
    show (if n = n then (n, v) :: ns.zip vs else _) = (n, v) :: ns.zip vs
    rw [if_pos rfl]
  | n :: ns, w :: vs, i + 1, f, v, nd, h1, h2 => by
    have h1 : ns[i]? = some f := by simpa using h1
    have h2 : ns.length = vs.length := by simpa using h2
    obtain ⟨n1, n2⟩ := List.nodup_cons.mp nd
    have hf : ¬ n = f := fun e => n1 (by rw [e]; exact List.mem_of_getElem? h1)
    show (if n = f then _ else (n, w) :: putF f v (ns.zip vs)) = (n, w) :: ns.zip (vs.set i v)
    rw [if_neg hf, putF_zip n2 h1 h2]
theorem putF_new : ∀ {ns : List Str} {vs : List V} {f : Str} {v : V}, f ∉ ns → ns.length = vs.length → putF f v (ns.zip vs) = (ns ++ [f]).zip (vs ++ [v])
  | [], [], _, _, _, _ => rfl
  | [], _ :: _, _, _, _, h => by simp at h
  | _ :: _, [], _, _, _, h => by simp at h
  | n :: ns, w :: vs, f, v, hn, h2 => by
    have h2 : ns.length = vs.length := by simpa using h2
    have hf : ¬ n = f := fun e => hn (by rw [e]; exact List.mem_cons_self)
    show (if n = f then _ else (n, w) :: putF f v (ns.zip vs)) = (n, w) :: (ns ++ [f]).zip (vs ++ [v])
    rw [if_neg hf, putF_new (fun m => hn (List.mem_cons_of_mem _ m)) h2]
/-- a field read by its place -/
def tFldF (C : Addr) (ns : List Str) (i : Nat) (te : TE) : TE := fun σ H Q => te σ H fun x H1 => ∃ a dx vs v, x = .ref a ∧ H1 a = some (.ins C dx (ns.zip vs)) ∧ vs[i]? = some v ∧ Q v H1
/-- a field stored that is there -/
def sFldF (C : Addr) (ns : List Str) (i : Nat) (ta tv : TE) : TS := fun D σ H => tv σ H fun y H1 => ta σ H1 fun x H2 => ∃ a dx vs, x = .ref a ∧ H2 a = some (.ins C dx (ns.zip vs)) ∧ ns.length = vs.length ∧
  D.nx σ (upd H2 a (.ins C dx (ns.zip (vs.set i y))))
/-- a field that is new -/
def sFldN (C : Addr) (ns : List Str) (f : Str) (ta tv : TE) : TS := fun D σ H => tv σ H fun y H1 => ta σ H1 fun x H2 => ∃ a dx vs, x = .ref a ∧ H2 a = some (.ins C dx (ns.zip vs)) ∧ ns.length = vs.length ∧
  D.nx σ (upd H2 a (.ins C dx ((ns ++ [f]).zip (vs ++ [y]))))
theorem zip_short {ns : List Str} (h : ns.length < 1000) (vs : List V) : (ns.zip vs).length < 1000 := by rw [List.length_zip]; omega
section
variable {X : Cx} {e o value : Expr} {f m : Str} {pos pos' apos : Pos} {te ta tv : TE} {C : Addr} {ns : List Str} {i : Nat}
theorem pe_fldF (F : Fld X.K C ns f i) (he : PE X e te) (hb : attributeBase e f X.env (eval e X.env) = eval e X.env := by rfl) : PE X (.Attribute e f pos) (tFldF C ns i te) where
  run pins s σ H Q I h := attr_of hb <| thn (he.run pins s σ H _ I h) fun ov st ⟨vx, Hx, Ix, rel, ad, dd, vals, w, e1, e2, e3, fin⟩ => by
    subst e1
    cases rel
    exact getattr_ok Ix e2 F.cl F.no (zip_lookup F.nd F.at_ e3) fun z st' Iz rz => ⟨w, Hx, Iz, rz, fin⟩
theorem ps_fldF (F : Fld X.K C ns f i) (hn : ns.length < 1000) (ha : PE X o ta) (hv : PE X value tv) (hs : swapsWith value (some (.Attribute o f pos')) pos.line X.env = pure false := by rfl) :
    PS X (.Assign [.Attribute o f pos'] value pos) (sFldF C ns i ta tv) where
  run pins s σ H D I h := plainObj_wpAny_Assign_Attribute (hs := hs) <| thn (hv.run pins s σ H _ I h) fun nv st ⟨vy, Hy, Iy, rely, h2⟩ => thn (ha.run pins st σ Hy _ Iy h2) fun ov st2 ⟨vx, Hx, Ix, rel, ad, dd, vals, e1, e2, e3, fin⟩ => by
    subst e1
    cases rel
    exact setattr_ok Ix e2 F.cl F.no (zip_short hn vals) rely fun st3 Iz => ⟨σ, _, Iz, by rw [putF_zip F.nd F.at_ e3]; exact fin⟩
theorem ps_fldN (cl : Cls X.K C) (no : NoAttr X.K C f) (hf : f ∉ ns) (hn : ns.length < 1000) (ha : PE X o ta) (hv : PE X value tv) (hs : swapsWith value (some (.Attribute o f pos')) pos.line X.env = pure false := by rfl) :
    PS X (.Assign [.Attribute o f pos'] value pos) (sFldN C ns f ta tv) where
  run pins s σ H D I h := plainObj_wpAny_Assign_Attribute (hs := hs) <| thn (hv.run pins s σ H _ I h) fun nv st ⟨vy, Hy, Iy, rely, h2⟩ => thn (ha.run pins st σ Hy _ Iy h2) fun ov st2 ⟨vx, Hx, Ix, rel, ad, dd, vals, e1, e2, e3, fin⟩ => by
    subst e1
    cases rel
    exact setattr_ok Ix e2 cl no (zip_short hn vals) rely fun st3 Iz => ⟨σ, _, Iz, by rw [putF_new hf e3]; exact fin⟩
end
section
variable {K : PySem.W.Frag} {δ : De} {G : GH} {Φ : Dt → GH → Prop} {ta tb te tv td ty : TE} {t : TA} {d : Dt} {i : Nat} {F : FT} {E : XK} {C : Addr} {ns : List Str} {f m : Str}
theorem Paired.get {α β : Type} {F : α → β → Prop} : ∀ {xs : List α} {ys : List β} {i : Nat} {y : β}, Paired F xs ys → ys[i]? = some y → ∃ x, xs[i]? = some x ∧ F x y
  | _, _, _, _, .nil, e => by simp at e
  | _, _, 0, _, .cons r _, e => by simp at e; subst e; exact ⟨_, rfl, r⟩
  | _, _, i + 1, x, .cons _ t, e => by
    obtain ⟨u, h1, h2⟩ := Paired.get (i := i) t (by simpa using e)
    exact ⟨u, by simpa using h1, h2⟩
theorem Paired.set {α β : Type} {F : α → β → Prop} {x : α} {y : β} (r : F x y) : ∀ {xs : List α} {ys : List β} (i : Nat), Paired F xs ys → Paired F (xs.set i x) (ys.set i y)
  | _, _, _, .nil => .nil
  | _, _, 0, .cons _ t => .cons r t
  | _, _, i + 1, .cons q t => .cons q (Paired.set r i t)
theorem we_fld (h : WE K te δ G fun x G1 => ∃ a ds d, x = .obj a ∧ G1 a = some (.ins C ns ds) ∧ ds[i]? = some d ∧ Φ d G1) : WE K (tFldF C ns i te) δ G Φ := fun P σ H rr s Q q =>
  h P σ H rr s _ fun x dx G1 H1 s1 r1 v1 ⟨a, ds, d, e, g, l, k⟩ => by
    subst e
    obtain ⟨dx, vs, q1, _, w⟩ := r1.ob a _ g
    obtain ⟨v, h1, h2⟩ := Paired.get w l
    exact ⟨a, dx, vs, v, v1, q1, h1, q v d G1 H1 s1 r1 h2 k⟩
section
variable {P : Addr → Prop} {H : Hp} {a : Addr} {o : GO}
theorem put_ins (r : R K P G H) (g : G a = some o) {ns' : List Str} {vs' : List V} {ds' : List Dt} {dx : Addr} (l : ns'.length = vs'.length) (w : Paired (VR K (Bk P G) H) vs' ds') :
    Stab G H (updG G a (.ins C ns' ds')) (upd H a (.ins C dx (ns'.zip vs'))) ∧ R K P (updG G a (.ins C ns' ds')) (upd H a (.ins C dx (ns'.zip vs'))) := by
  have st : Stab G H (updG G a (.ins C ns' ds')) (upd H a (.ins C dx (ns'.zip vs'))) := .write r g
  exact ⟨st, r.write g ⟨dx, vs', upd_same, l, st.vrs w⟩⟩
theorem put_lst (r : R K P G H) (g : G a = some o) {vs' : List V} {ds' : List PyData} (w : DqAll K (Bk P G) H vs' ds') :
    Stab G H (updG G a (.lst ds')) (upd H a (.lst vs')) ∧ R K P (updG G a (.lst ds')) (upd H a (.lst vs')) := by
  have st : Stab G H (updG G a (.lst ds')) (upd H a (.lst vs')) := .write r g
  exact ⟨st, r.write g ⟨vs', upd_same, st.dqA w⟩⟩
theorem put_nums (r : R K P G H) (g : G a = some o) (ns' : List Int) :
    Stab G H (updG G a .nums) (upd H a (.lst (ns'.map V.int))) ∧ R K P (updG G a .nums) (upd H a (.lst (ns'.map V.int))) :=
  ⟨.write r g, r.write g ⟨ns', upd_same⟩⟩
theorem put_dic (r : R K P G H) (g : G a = some o) {vs' : List (Key × V)} {ds' : List (Key × Dt)} (w : Paired (fun p q => p.1 = q.1 ∧ VR K (Bk P G) H p.2 q.2) vs' ds') :
    Stab G H (updG G a (.dic ds')) (upd H a (.dK vs')) ∧ R K P (updG G a (.dic ds')) (upd H a (.dK vs')) := by
  have st : Stab G H (updG G a (.dic ds')) (upd H a (.dK vs')) := .write r g
  exact ⟨st, r.write g ⟨vs', upd_same, Paired.map w fun _ _ z => ⟨z.1, st.vr z.2⟩⟩⟩
end
theorem ws_fldF {E : DE} (h : WE K tv δ G fun y G1 => WE K ta δ G1 fun x G2 => ∃ a ds, x = .obj a ∧ G2 a = some (.ins C ns ds) ∧ E.nx δ (updG G2 a (.ins C ns (ds.set i y)))) : WS K (sFldF C ns i ta tv) δ G E := fun P σ H rr s D e =>
  h P σ H rr s _ fun y dy G1 H1 s1 r1 v1 h1 => h1 P σ H1 r1 (s1.sr s) _ fun x dx G2 H2 s2 r2 v2 ⟨a, ds, e1, g, k⟩ => by
    subst e1
    obtain ⟨dx, vs, q1, l, w⟩ := r2.ob a _ g
    obtain ⟨s3, r3⟩ := put_ins (C := C) (dx := dx) r2 g (show ns.length = (vs.set i y).length by rw [List.length_set]; exact l) (Paired.set (s2.vr v1) i w)
    exact ⟨a, dx, vs, v2, q1, l, e.nx _ _ _ _ ((s1.trans s2).trans s3) r3 (((s1.trans s2).trans s3).sr s) k⟩
theorem ws_fldN {E : DE} (h : WE K tv δ G fun y G1 => WE K ta δ G1 fun x G2 => ∃ a ds, x = .obj a ∧ G2 a = some (.ins C ns ds) ∧ E.nx δ (updG G2 a (.ins C (ns ++ [f]) (ds ++ [y])))) : WS K (sFldN C ns f ta tv) δ G E := fun P σ H rr s D e =>
  h P σ H rr s _ fun y dy G1 H1 s1 r1 v1 h1 => h1 P σ H1 r1 (s1.sr s) _ fun x dx G2 H2 s2 r2 v2 ⟨a, ds, e1, g, k⟩ => by
    subst e1
    obtain ⟨dx, vs, q1, l, w⟩ := r2.ob a _ g
    obtain ⟨s3, r3⟩ := put_ins (C := C) (dx := dx) r2 g (show (ns ++ [f]).length = (vs ++ [y]).length by rw [List.length_append, List.length_append, l]; rfl) (Paired.append w (.cons (s2.vr v1) .nil))
    exact ⟨a, dx, vs, v2, q1, l, e.nx _ _ _ _ ((s1.trans s2).trans s3) r3 (((s1.trans s2).trans s3).sr s) k⟩
theorem we_meth {C : Addr} {m : Str} {dvs : List V} {dds : List Dt} {E : XK} (hd : DfV K dvs dds) (h : WE K te δ G fun x G1 => ∃ a ns ds, x = .obj a ∧ G1 a = some (.ins C ns ds) ∧ m ∉ ns ∧ WA K t δ G1 fun es G2 => F (.obj a :: (es ++ dds)) G2 Φ) :
    WE K (tMeth C m (spD K F) dvs E te t) δ G Φ := fun P σ H rr s Q q =>
  h P σ H rr s _ fun x dx G1 H1 s1 r1 v1 ⟨a, ns, ds, e1, g, hm, k⟩ => by
    subst e1
    obtain ⟨dx, vs, q1, l, w⟩ := r1.ob a _ g
    exact ⟨a, dx, _, v1, q1, zip_none hm, k P σ H1 r1 (s1.sr s) _ fun us es G2 H2 s2 r2 v2 k2 => ⟨P, .obj a :: (es ++ dds), G2, Φ, .cons (s2.vr v1) (Paired.append v2 (hd _ _)), r2, k2, fun v d G' H' s3 => q v d G' H' ((s1.trans s2).trans s3)⟩⟩
theorem we_meth' {C : Addr} {m : Str} {E : XK} (h : WE K te δ G fun x G1 => ∃ a ns ds, x = .obj a ∧ G1 a = some (.ins C ns ds) ∧ m ∉ ns ∧ WA K t δ G1 fun es G2 => F (.obj a :: es) G2 Φ) :
    WE K (tMeth C m (spD K F) [] E te t) δ G Φ := we_meth dfv_nil (h.mono fun x G1 ⟨a, ns, ds, e, g, hm, k⟩ => ⟨a, ns, ds, e, g, hm, k.mono fun es G2 z => by rw [List.append_nil]; exact z⟩)
theorem we_prop {C : Addr} {E : XK} (h : WE K te δ G fun x G1 => ∃ a ns ds, x = .obj a ∧ G1 a = some (.ins C ns ds) ∧ F [.obj a] G1 Φ) : WE K (tProp C (spD K F) [] E te) δ G Φ := fun P σ H rr s Q q =>
  h P σ H rr s _ fun x dx G1 H1 s1 r1 v1 ⟨a, ns, ds, e1, g, k⟩ => by
    subst e1
    obtain ⟨dx, vs, q1, l, w⟩ := r1.ob a _ g
    exact ⟨a, dx, _, v1, q1, P, [.obj a], G1, Φ, .cons (show VR K _ _ _ (.obj a) from rfl) .nil, r1, k, fun v d G' H' s3 => q v d G' H' (s1.trans s3)⟩
theorem made {P : Addr → Prop} {H : Hp} {x dx : Addr} (r : R K P G H) (hx : H x = none) (hd : H dx = none) (ne : dx ≠ x) :
    Stab G H (updG G x (.ins C [] [])) (upd (upd H dx (.own x)) x (.ins C dx [])) ∧ R K P (updG G x (.ins C [] [])) (upd (upd H dx (.own x)) x (.ins C dx [])) := by
  have s1 : Stab G H G (upd H dx (.own x)) := .new r hd
  have r1 : R K P G (upd H dx (.own x)) := r.new hd
  have h2 : upd H dx (.own x) x = none := by rw [upd_ne (Ne.symm ne)]; exact hx
  have s2 : Stab G (upd H dx (.own x)) (updG G x (.ins C [] [])) (upd (upd H dx (.own x)) x (.ins C dx [])) := .newG r1 h2
  exact ⟨s1.trans s2, r1.newG h2 ⟨dx, [], upd_same, rfl, .nil⟩⟩
theorem we_make {dvs : List V} {dds : List Dt} {E : XK} (hd : DfV K dvs dds) (h : WA K t δ G fun es G1 => ∀ x, G1 x = none → F (.obj x :: (es ++ dds)) (updG G1 x (.ins C [] [])) fun r G2 => r = .dat .none ∧ Φ (.obj x) G2) :
    WE K (tMake C (spD K F) dvs E t) δ G Φ := fun P σ H rr s Q q =>
  h P σ H rr s _ fun us es G1 H1 s1 r1 v1 k x dx hx hdx ne => by
    obtain ⟨s2, r2⟩ := made (C := C) r1 hx hdx ne
    refine ⟨P, .obj x :: (es ++ dds), _, _, .cons (show VR K _ _ _ (.obj x) from rfl) (Paired.append (s2.vrs v1) (hd _ _)), r2, k x (r1.freshG hx), fun v d G' H' s3 r3 v3 ⟨e, k2⟩ => ?_⟩
    subst e
    cases v3
    exact ⟨rfl, q _ (.obj x) G' H' ((s1.trans s2).trans s3) r3 rfl k2⟩
/-- keyword values set in order: gV on values, gD on what is known -/
def GoD (K : PySem.W.Frag) (gV : List V → List V → List V) (gD : List Dt → List Dt → List Dt) : Prop :=
  ∀ B H vs zs ds es, Paired (VR K B H) vs ds → Paired (VR K B H) zs es → Paired (VR K B H) (gV vs zs) (gD ds es)
theorem we_makeK {n m : Nat} {gV : List V → List V → List V} {gD : List Dt → List Dt → List Dt} {tk : TA} {E : XK} (hg : GoD K gV gD)
    (h : WA K t δ G fun es G1 => WA K tk δ G1 fun zs G2 => es.length = n ∧ zs.length = m ∧ ∀ x, G2 x = none → F (gD (.obj x :: es) zs) (updG G2 x (.ins C [] [])) fun r G3 => r = .dat .none ∧ Φ (.obj x) G3) :
    WE K (tMakeK C n m (spD K F) gV E t tk) δ G Φ := fun P σ H rr s Q q =>
  h P σ H rr s _ fun us es G1 H1 s1 r1 v1 h1 => h1 P σ H1 r1 (s1.sr s) _ fun ws zs G2 H2 s2 r2 v2 ⟨l1, l2, k⟩ => by
    have e1 : us.length = es.length := Paired.length v1
    have e2 : ws.length = zs.length := Paired.length v2
    refine ⟨by rw [e1, l1], by rw [e2, l2], fun x dx hx hdx ne => ?_⟩
    obtain ⟨s3, r3⟩ := made (C := C) r2 hx hdx ne
    refine ⟨P, gD (.obj x :: es) zs, _, _, hg _ _ _ _ _ _ (.cons (show VR K _ _ _ (.obj x) from rfl) (s3.vrs (s2.vrs v1))) (s3.vrs v2), r3, k x (r2.freshG hx), fun v d G' H' s4 r4 v4 ⟨e, k2⟩ => ?_⟩
    subst e
    cases v4
    exact ⟨rfl, q _ (.obj x) G' H' (((s1.trans s2).trans s3).trans s4) r4 rfl k2⟩
/-! ### isinstance -/
def tyN : PyData → String
  | .none => "NoneType"
  | .bool _ => "bool"
  | .int _ => "int"
  | .str _ => "str"
  | .list _ => "list"
  | .tuple _ => "tuple"
  | .dict _ => "dict"
def tyLike (a b : String) : Bool := a == b || (a == "bool" && b == "int")
theorem kit_all : ∀ a ∈ ["NoneType", "bool", "int", "str", "list", "tuple"], ∀ b ∈ ["int", "bool", "str", "tuple", "list"], kitB a b = some (tyLike a b) := by decide +kernel
theorem ty_ok {B : Addr → Prop} {H : Hp} {v : V} {d : PyData} (h : Dq K B H v d) : TyX K H v (.type (tyN d)) ∧ tyN d ∈ ["NoneType", "bool", "int", "str", "list", "tuple"] := by
  cases h with
  | non => exact ⟨.base .non, by simp [tyN]⟩
  | bl b => exact ⟨.base (.bl b), by simp [tyN]⟩
  | int i => exact ⟨.base (.int i), by simp [tyN]⟩
  | str x => exact ⟨.base (.str x), by simp [tyN]⟩
  | lst n q w =>
    refine ⟨?_, by simp [tyN]⟩
    rcases q with q | ⟨o, q⟩
    · exact .base (.lst q)
    · exact .base (.frz q)
  | tup q w =>
    refine ⟨?_, by simp [tyN]⟩
    rcases q with (q | ⟨o, q⟩) | ⟨o, its, n, q, c, _⟩
    · exact .base (.tup q)
    · exact .fTuple q
    · exact .kTuple q c
theorem we_isi {T : String} (hT : T ∈ ["int", "bool", "str", "tuple", "list"]) (h : WE K te δ G fun x G1 => ∃ d, x = .dat d ∧ Φ (.dat (.bool (tyLike (tyN d) T))) G1) : WE K (tIsi K T te) δ G Φ := fun P σ H rr s Q q =>
  h P σ H rr s _ fun x dx G1 H1 s1 r1 v1 ⟨d, e, k⟩ => by
    subst e
    obtain ⟨t1, t2⟩ := ty_ok v1
    exact ⟨x, .ty T, .type (tyN d), .type T, _, rfl, .ty T, t1, kit_all _ t2 T hT, q _ _ G1 H1 s1 r1 (.bl _) k⟩
/-! ### dicts -/
def keyD : PyData → Option Key
  | .int i => some (.inl i)
  | .str x => some (.inr x)
  | _ => none
theorem key_ok {B : Addr → Prop} {H : Hp} {v : V} {d : PyData} {k : Key} (h : Dq K B H v d) (e : keyD d = some k) : v = kV k := by
  cases h <;> first
    | (cases e; rfl)
    | cases e
def lookD (kvs : List (Key × Dt)) (k : Key) : Option Dt := (kvs.find? fun kv => decide (kv.1 = k)).map (·.2)
def putD (kvs : List (Key × Dt)) (k : Key) (v : Dt) : List (Key × Dt) :=
  if (kvs.any fun kv => decide (kv.1 = k)) = true then kvs.map (fun kv => if kv.1 = k then (kv.1, v) else kv) else kvs ++ [(k, v)]
theorem look_ok {B : Addr → Prop} {H : Hp} {kv : List (Key × V)} {kd : List (Key × Dt)} (w : Paired (fun p q => p.1 = q.1 ∧ VR K B H p.2 q.2) kv kd) (k : Key) :
    (lookD kd k = none → valV kv k = none) ∧ ∀ d, lookD kd k = some d → ∃ v, valV kv k = some v ∧ VR K B H v d := by
  induction w with
  | nil => exact ⟨fun _ => rfl, fun d e => by cases e⟩
  | @cons p q ps qs r t ih =>
    obtain ⟨e1, e2⟩ := r
    by_cases hk : q.1 = k
    · have hp : p.1 = k := e1.trans hk
      have l : lookD (q :: qs) k = some q.2 := by simp [lookD, List.find?_cons, hk]
      rw [l, valV_pos hp]
      exact ⟨fun e => by (cases e), fun d e => by cases e; exact ⟨_, rfl, e2⟩⟩
    · have hp : ¬ p.1 = k := fun e => hk (e1.symm.trans e)
      have l : lookD (q :: qs) k = lookD qs k := by simp [lookD, List.find?_cons, hk]
      rw [l, valV_neg hp]
      exact ih
theorem any_ok {B : Addr → Prop} {H : Hp} {kv : List (Key × V)} {kd : List (Key × Dt)} (w : Paired (fun p q => p.1 = q.1 ∧ VR K B H p.2 q.2) kv kd) (k : Key) :
    (kv.any fun z => decide (z.1 = k)) = kd.any fun z => decide (z.1 = k) := by
  induction w with
  | nil => rfl
  | cons r t ih => rw [List.any_cons, List.any_cons, ih, r.1]
theorem put_ok {B : Addr → Prop} {H : Hp} {kv : List (Key × V)} {kd : List (Key × Dt)} (w : Paired (fun p q => p.1 = q.1 ∧ VR K B H p.2 q.2) kv kd) (k : Key) {v : V} {d : Dt} (r : VR K B H v d) :
    Paired (fun p q => p.1 = q.1 ∧ VR K B H p.2 q.2) (putK kv k v) (putD kd k d) := by
  unfold putK putD
  rw [any_ok w k]
  by_cases h : (kd.any fun z => decide (z.1 = k)) = true
  · rw [if_pos h, if_pos h]
    clear h
    induction w with
    | nil => exact .nil
    | @cons p q ps qs r1 t ih =>
      refine .cons ?_ ih
      obtain ⟨e1, e2⟩ := r1
      by_cases hk : q.1 = k
      · have hp : p.1 = k := e1.trans hk
        simp only [hk, hp, if_true]
        exact ⟨trivial, r⟩
      · have hp : ¬ p.1 = k := fun e => hk (e1.symm.trans e)
        simp only [hk, hp, if_false]
        exact ⟨e1, e2⟩
  · rw [if_neg h, if_neg h]
    exact Paired.append w (.cons ⟨rfl, r⟩ .nil)
theorem we_dget (h : WE K td δ G fun x G1 => WE K ty δ G1 fun y G2 => ∃ a kvs d k v, x = .obj a ∧ G2 a = some (.dic kvs) ∧ y = .dat d ∧ keyD d = some k ∧ lookD kvs k = some v ∧ Φ v G2) : WE K (tDGet td ty) δ G Φ := fun P σ H rr s Q q =>
  h P σ H rr s _ fun x dx G1 H1 s1 r1 v1 h1 => h1 P σ H1 r1 (s1.sr s) _ fun y dy G2 H2 s2 r2 v2 ⟨a, kvs, d, k, v, e1, g, e2, hk, hl, h2⟩ => by
    subst e1; subst e2
    obtain ⟨kv, q1, w⟩ := r2.ob a _ g
    obtain ⟨u, z1, z2⟩ := (look_ok w k).2 v hl
    cases key_ok v2 hk
    exact ⟨a, u, v1, by rw [← z1]; exact DGet.k q1, q u v G2 H2 (s1.trans s2) r2 z2 h2⟩
theorem look_some {B : Addr → Prop} {H : Hp} {kv : List (Key × V)} {kd : List (Key × Dt)} (w : Paired (fun p q => p.1 = q.1 ∧ VR K B H p.2 q.2) kv kd) (k : Key) : (valV kv k).isSome = (lookD kd k).isSome := by
  cases e : lookD kd k with
  | none => rw [(look_ok w k).1 e]; rfl
  | some d =>
    obtain ⟨v, h, _⟩ := (look_ok w k).2 d e
    rw [h]; rfl
theorem we_din (h : WE K ty δ G fun y G1 => WE K td δ G1 fun x G2 => ∃ a kvs d k, x = .obj a ∧ G2 a = some (.dic kvs) ∧ y = .dat d ∧ keyD d = some k ∧ Φ (.dat (.bool (lookD kvs k).isSome)) G2) : WE K (tDIn ty td) δ G Φ := fun P σ H rr s Q q =>
  h P σ H rr s _ fun y dy G1 H1 s1 r1 v1 h1 => h1 P σ H1 r1 (s1.sr s) _ fun x dx G2 H2 s2 r2 v2 ⟨a, kvs, d, k, e1, g, e2, hk, h2⟩ => by
    subst e1; subst e2
    obtain ⟨kv, q1, w⟩ := r2.ob a _ g
    have v3 := s2.vr v1
    cases key_ok v3 hk
    exact ⟨a, _, v2, DGet.k q1, by rw [look_some w k]; exact q _ _ G2 H2 (s1.trans s2) r2 (.bl _) h2⟩
theorem we_dnotin (h : WE K ty δ G fun y G1 => WE K td δ G1 fun x G2 => ∃ a kvs d k, x = .obj a ∧ G2 a = some (.dic kvs) ∧ y = .dat d ∧ keyD d = some k ∧ Φ (.dat (.bool (!(lookD kvs k).isSome))) G2) : WE K (tDNotIn ty td) δ G Φ := fun P σ H rr s Q q =>
  h P σ H rr s _ fun y dy G1 H1 s1 r1 v1 h1 => h1 P σ H1 r1 (s1.sr s) _ fun x dx G2 H2 s2 r2 v2 ⟨a, kvs, d, k, e1, g, e2, hk, h2⟩ => by
    subst e1; subst e2
    obtain ⟨kv, q1, w⟩ := r2.ob a _ g
    have v3 := s2.vr v1
    cases key_ok v3 hk
    exact ⟨a, _, v2, DGet.k q1, by rw [look_some w k]; exact q _ _ G2 H2 (s1.trans s2) r2 (.bl _) h2⟩
theorem ws_dput {E : DE} (h : WE K tv δ G fun z G1 => WE K td δ G1 fun x G2 => WE K ty δ G2 fun y G3 => ∃ a kvs d k, x = .obj a ∧ G3 a = some (.dic kvs) ∧ y = .dat d ∧ keyD d = some k ∧ kvs.length < 1000000 ∧ E.nx δ (updG G3 a (.dic (putD kvs k z)))) : WS K (sDPut td ty tv) δ G E := fun P σ H rr s D e =>
  h P σ H rr s _ fun z dz G1 H1 s1 r1 v1 h1 => h1 P σ H1 r1 (s1.sr s) _ fun x dx G2 H2 s2 r2 v2 h2 => h2 P σ H2 r2 ((s1.trans s2).sr s) _ fun y dy G3 H3 s3 r3 v3 ⟨a, kvs, d, k, e1, g, e2, hk, hl, h3⟩ => by
    subst e1; subst e2
    obtain ⟨kv, q1, w⟩ := r3.ob a _ g
    cases key_ok v3 hk
    obtain ⟨s4, r4⟩ := put_dic r3 g (put_ok w k ((s2.trans s3).vr v1))
    have el : kv.length = kvs.length := Paired.length w
    exact ⟨a, _, v2, DPut.k q1 (Nat.lt_of_lt_of_le (by rw [el]; exact hl) (line6 (Nat.le_refl _))), e.nx _ _ _ _ (((s1.trans s2).trans s3).trans s4) r4 ((((s1.trans s2).trans s3).trans s4).sr s) h3⟩
/-! ### methods of lists -/
theorem lst_tyV {a : Addr} {H : Hp} {xs : List V} (h : H a = some (.lst xs)) : tyV K "list" (.ref a) H := .inl ⟨rfl, xs, .inl (.inl h)⟩
theorem OR.tyL {B : Addr → Prop} {H : Hp} {a : Addr} {o : GO} (h : OR K B H a o) (e : (∃ xs, o = .lst xs) ∨ o = .nums) : tyV K "list" (.ref a) H := by
  rcases e with ⟨xs, e⟩ | e
  · subst e; obtain ⟨vs, q, _⟩ := h; exact lst_tyV q
  · subst e; obtain ⟨vs, q⟩ := h; exact lst_tyV q
theorem we_append (h : WE K td δ G fun x G1 => ∃ a, x = .obj a ∧ (∃ ys, G1 a = some (.lst ys)) ∧ WA K t δ G1 fun es G2 => ∃ d xs, es = [.dat d] ∧ G2 a = some (.lst xs) ∧ xs.length < 1000000 ∧ Φ (.dat .none) (updG G2 a (.lst (xs ++ [d])))) :
    WE K (tBM K "list" rAppend td t) δ G Φ := fun P σ H rr s Q q =>
  h P σ H rr s _ fun x dx G1 H1 s1 r1 v1 ⟨a, e1, ⟨ys, gy⟩, h1⟩ => by
    subst e1
    cases v1
    refine ⟨(r1.ob _ _ gy).tyL (.inl ⟨_, rfl⟩), h1 P σ H1 r1 (s1.sr s) _ fun vs es G2 H2 s2 r2 v2 ⟨d, xs, e2, g, l, k⟩ => ?_⟩
    subst e2
    cases v2 with
    | cons v2 t2 =>
      cases t2
      obtain ⟨ws, q1, w⟩ := r2.ob a _ g
      obtain ⟨s3, r3⟩ := put_lst r2 g (w.append (.cons v2 .nil))
      exact ⟨a, ws, _, rfl, rfl, q1, Nat.lt_of_lt_of_le (by rw [w.length]; exact l) (line6 (Nat.le_refl _)), q _ _ _ _ ((s1.trans s2).trans s3) r3 .non k⟩
theorem we_extend (h : WE K td δ G fun x G1 => ∃ a, x = .obj a ∧ (∃ ys, G1 a = some (.lst ys)) ∧ WA K t δ G1 fun es G2 => ∃ y ys xs, es = [y] ∧ LsOf G2 y ys ∧ G2 a = some (.lst xs) ∧ xs.length + ys.length ≤ 1000000 ∧ Φ (.dat .none) (updG G2 a (.lst (xs ++ ys)))) :
    WE K (tBM K "list" rExtR td t) δ G Φ := fun P σ H rr s Q q =>
  h P σ H rr s _ fun x dx G1 H1 s1 r1 v1 ⟨a, e1, ⟨ys, gy⟩, h1⟩ => by
    subst e1
    cases v1
    refine ⟨(r1.ob _ _ gy).tyL (.inl ⟨_, rfl⟩), h1 P σ H1 r1 (s1.sr s) _ fun vs es G2 H2 s2 r2 v2 ⟨y, ys, xs, e2, ly, g, l, k⟩ => ?_⟩
    subst e2
    cases v2 with
    | cons v2 t2 =>
      cases t2
      obtain ⟨ws, q1, w⟩ := r2.ob a _ g
      obtain ⟨b, us, rfl, q2, w2⟩ := ly.at_ r2 v2
      obtain ⟨s3, r3⟩ := put_lst r2 g (w.append w2)
      exact ⟨a, b, ws, us, rfl, rfl, q1, q2, line6 (by rw [w.length, w2.length]; exact l), q _ _ _ _ ((s1.trans s2).trans s3) r3 .non k⟩
end
end DL
/-! (Dl5) -/
namespace DL
open PySem PySem.Spec PyProof.Rows L2

section
variable {K : PySem.W.Frag} {δ : De} {G : GH} {Φ : Dt → GH → Prop} {ta tb te tv td ty : TE} {tt : TT} {t : TA} {d : Dt} {i : Nat} {E : DE} {t1 t2 t3 : TS} {g : TG}
/-! ### statements -/
theorem ws_next (h : E.nx δ G) : WS K tNext δ G E := fun P σ H rr s D e => e.nx _ _ _ _ .refl rr s h
theorem ws_brk (h : E.bk δ G) : WS K tBreak δ G E := fun P σ H rr s D e => e.bk _ _ _ _ .refl rr s h
theorem ws_cont (h : E.ct δ G) : WS K tCont δ G E := fun P σ H rr s D e => e.ct _ _ _ _ .refl rr s h
theorem ws_seq (h : WS K t1 δ G { E with nx := fun δ' G' => WS K t2 δ' G' E }) : WS K (tSeq t1 t2) δ G E := fun P σ H rr s D e =>
  h P σ H rr s _ ⟨fun σ' δ' G' H' s1 r1 z k => k P σ' H' r1 z D (e.later s1), e.rt, e.bk, e.ct⟩
theorem ws_drop (h : WE K te δ G fun _ G' => E.nx δ G') : WS K (tDrop te) δ G E := fun P σ H rr s D e =>
  h P σ H rr s _ fun v d G' H' s1 r1 v1 k => e.nx _ _ _ _ s1 r1 (s1.sr s) k
theorem ws_ret (h : WE K te δ G E.rt) : WS K (tRet te) δ G E := fun P σ H rr s D e =>
  h P σ H rr s _ fun v d G' H' s1 r1 v1 k => e.rt _ _ _ _ s1 r1 v1 k
theorem ws_retN (h : E.rt (.dat .none) G) : WS K tRetN δ G E := fun P σ H rr s D e => e.rt _ _ _ _ .refl rr .non h
theorem ws_if (h : WT K tt δ G fun b G' => (b = true → WS K t1 δ G' E) ∧ (b = false → WS K t2 δ G' E)) : WS K (tIfS tt t1 t2) δ G E := fun P σ H rr s D e =>
  h P σ H rr s _ fun b G' H' s1 r1 k => by
    cases b with
    | true => exact k.1 rfl P σ H' r1 (s1.sr s) D (e.later s1)
    | false => exact k.2 rfl P σ H' r1 (s1.sr s) D (e.later s1)
theorem ws_asgG {ts : List Nat} (h : WE K te δ G fun x G1 => WG K g ts x δ G1 E.nx) : WS K (tAsg te g) δ G E := fun P σ H rr s D e =>
  h P σ H rr s _ fun v d G1 H1 s1 r1 v1 k => k P σ H1 v r1 (s1.sr s) v1 _ fun σ' δ' G' H' s2 r2 z _ k2 => e.nx _ _ _ _ (s1.trans s2) r2 z k2
theorem ws_asg (h : WE K te δ G fun x G1 => E.nx (δ.set i (some x)) G1) : WS K (tAsg te (gName i)) δ G E := fun P σ H rr s D e =>
  h P σ H rr s _ fun v d G1 H1 s1 r1 v1 k => e.nx _ _ _ _ s1 r1 ((s1.sr s).set v1 i) k
/-! ### targets -/
theorem agr_set {σ : L2.St} {v : V} : Agr [i] σ (σ.set i (some v)) := ⟨List.length_set, fun j h => List.getElem?_set_ne (fun e => h (by rw [e]; exact List.mem_singleton.mpr rfl))⟩
theorem Agr.trans {ts ts' : List Nat} {a b c : L2.St} (h : Agr ts a b) (k : Agr ts' b c) : Agr (ts ++ ts') a c :=
  ⟨k.1.trans h.1, fun j n => (k.2 j fun m => n (List.mem_append_right _ m)).trans (h.2 j fun m => n (List.mem_append_left _ m))⟩
theorem wg_name {Ψ : De → GH → Prop} (h : Ψ (δ.set i (some d)) G) : WG K (gName i) [i] d δ G Ψ := fun P σ H v rr s v1 Q q =>
  q _ _ _ _ .refl rr (s.set v1 i) agr_set h
theorem wgs_nil {Ψ : De → GH → Prop} (h : Ψ δ G) : WGs K gNil [] [] δ G Ψ := fun P σ H vs rr s v1 Q q => by
  cases v1
  exact ⟨rfl, q _ _ _ _ .refl rr s ⟨rfl, fun _ _ => rfl⟩ h⟩
theorem wgs_cons {Ψ : De → GH → Prop} {gs : TGs} {ts ts' : List Nat} {x : PyData} {xs : List PyData} (h : WG K g ts (.dat x) δ G fun δ' G' => WGs K gs ts' xs δ' G' Ψ) : WGs K (gCons g gs) (ts ++ ts') (x :: xs) δ G Ψ := fun P σ H vs rr s v1 Q q => by
  cases v1 with
  | cons v2 v3 =>
    exact ⟨_, _, rfl, h P σ H _ rr s v2 _ fun σ' δ' G' H' s2 r2 z a k => k P σ' H' _ r2 z (s2.dqA v3) Q fun σ2 δ2 G2 H2 s3 r3 z3 a3 k3 => q _ _ _ _ (s2.trans s3) r3 z3 (a.trans a3) k3⟩
theorem wg_tup {Ψ : De → GH → Prop} {gs : TGs} {ts : List Nat} {n : Nat} {xs : List PyData} (l : xs.length = n) (h : WGs K gs ts xs δ G Ψ) : WG K (gTup K n gs) ts (.dat (.tuple xs)) δ G Ψ := fun P σ H v rr s v1 Q q => by
  cases v1 with
  | tup q1 w => exact ⟨_, _, rfl, q1, by rw [w.length]; exact l, h P σ H _ rr s w Q q⟩
theorem ixN_natD {n j : Nat} (hj : j < n) : ixN n (j : Int) = some j := by
  unfold ixN
  rw [if_pos (by omega), if_pos (by omega)]
  simp
/-- a tracked list's item is stored -/
theorem ws_setL {to ti : TE} (h : WE K te δ G fun x G1 => WE K to δ G1 fun o G2 => WE K ti δ G2 fun z G3 => ∃ d a xs j, x = .dat d ∧ o = .obj a ∧ G3 a = some (.lst xs) ∧ z = .dat (.int ((j : Nat) : Int)) ∧ j < xs.length ∧ E.nx δ (updG G3 a (.lst (xs.set j d)))) :
    WS K (tAsg te (gSub to ti rSetL)) δ G E := fun P σ H rr s D e =>
  h P σ H rr s _ fun v dv G1 H1 s1 r1 v1 h1 => h1 P σ H1 r1 (s1.sr s) _ fun o dob G2 H2 s2 r2 v2 h2 => h2 P σ H2 r2 ((s1.trans s2).sr s) _ fun z dz G3 H3 s3 r3 v3 ⟨d, a, xs, j, e1, e2, g, e3, l, k⟩ => by
    subst e1; subst e2; subst e3
    cases v3
    have v4 := s3.vr v2
    cases v4
    obtain ⟨ws, q1, w⟩ := r3.ob a _ g
    obtain ⟨s4, r4⟩ := put_lst r3 g (w.set j ((s2.trans s3).vr v1))
    exact ⟨a, ws, (j : Int), j, rfl, rfl, q1, by rw [w.length]; exact ixN_natD l, e.nx _ _ _ _ (((s1.trans s2).trans s3).trans s4) r4 ((((s1.trans s2).trans s3).trans s4).sr s) k⟩
/-! ### what is walked -/
theorem Wk.list {P : Addr → Prop} {G : GH} {H : Hp} {a : Addr} {vs : List V} {ds : List PyData} (n : ¬ Bk P G a) (q : Rd H a (.lst vs)) (w : DqAll K (Bk P G) H vs ds) : Wk K P G H (Itl K a) ds where
  go P1 G1 H1 i x hp s1 r1 e := by
    obtain ⟨v, h1, h2⟩ := w.get e
    have q1 : SqL K H1 a vs := .inl (s1.rd (nbk n) q)
    refine ⟨⟨vs, v, q1, h1⟩, fun v' H' ⟨e1, e2⟩ => ?_⟩
    subst e1
    have e3 := e2 vs q1
    rw [h1] at e3
    cases e3
    exact ⟨.refl, r1, s1.dqP hp h2⟩
  stop G1 H1 s1 := ⟨vs, .inl (s1.rd (nbk n) q), by rw [w.length]; exact Nat.le_refl _⟩
theorem Wk.tup {P : Addr → Prop} {G : GH} {H : Hp} {a : Addr} {vs : List V} {ds : List PyData} (q : SqT K H a vs) (w : DqAll K (Bk P G) H vs ds) : Wk K P G H (Itt K a) ds where
  go P1 G1 H1 i x hp s1 r1 e := by
    obtain ⟨v, h1, h2⟩ := w.get e
    have q1 : SqT K H1 a vs := s1.sqT q
    refine ⟨⟨vs, v, q1, h1⟩, fun v' H' ⟨e1, e2⟩ => ?_⟩
    subst e1
    have e3 := e2 vs q1
    rw [h1] at e3
    cases e3
    exact ⟨.refl, r1, s1.dqP hp h2⟩
  stop G1 H1 s1 := ⟨vs, s1.sqT q, by rw [w.length]; exact Nat.le_refl _⟩
/-- the ints lo, lo + 1, .. -/
def upD (lo : Int) (n : Nat) : List PyData := (List.range n).map fun k => PyData.int (lo + (k : Nat))
theorem upD_get {lo : Int} {n k : Nat} {x : PyData} : (upD lo n)[k]? = some x ↔ k < n ∧ x = .int (lo + (k : Nat)) := by
  unfold upD
  rw [List.getElem?_map]
  by_cases h : k < n
  · rw [List.getElem?_range h]
    simp only [Option.map_some, Option.some.injEq]
    exact ⟨fun e => ⟨h, e.symm⟩, fun e => e.2.symm⟩
  · rw [List.getElem?_eq_none (by simpa using h)]
    simp only [Option.map_none]
    exact ⟨fun e => (nomatch e), fun e => (h e.1).elim⟩
theorem upD_length {lo : Int} {n : Nat} : (upD lo n).length = n := by unfold upD; simp
theorem Wk.rng {P : Addr → Prop} {G : GH} {H : Hp} {lo : Int} {n : Nat} : Wk K P G H (Itr lo n) (upD lo n) where
  go P1 G1 H1 i x hp s1 r1 e := by
    obtain ⟨h1, h2⟩ := upD_get.mp e
    refine ⟨h1, fun v' H' ⟨e1, e2⟩ => ?_⟩
    subst e1; subst e2; subst h2
    exact ⟨.refl, r1, .int _⟩
  stop G1 H1 s1 := by rw [upD_length]; exact Nat.le_refl _
/-- numbered items -/
def numD (xs : List PyData) : List PyData := (List.range xs.length).map fun k => PyData.tuple [.int (k : Nat), xs.getD k .none]
theorem numD_get {xs : List PyData} {k : Nat} {x : PyData} : (numD xs)[k]? = some x ↔ ∃ y, xs[k]? = some y ∧ x = .tuple [.int (k : Nat), y] := by
  unfold numD
  rw [List.getElem?_map]
  by_cases h : k < xs.length
  · rw [List.getElem?_range h]
    simp only [Option.map_some, Option.some.injEq]
    have e : xs[k]? = some (xs.getD k .none) := by rw [List.getD_eq_getElem?_getD, List.getElem?_eq_getElem h]; rfl
    exact ⟨fun z => ⟨_, e, z.symm⟩, fun ⟨y, e1, e2⟩ => by rw [e] at e1; cases e1; exact e2.symm⟩
  · rw [List.getElem?_eq_none (by simpa using h)]
    simp only [Option.map_none]
    exact ⟨fun e => by (cases e), fun ⟨y, e1, _⟩ => by rw [List.getElem?_eq_none (by omega)] at e1; cases e1⟩
theorem numD_length {xs : List PyData} : (numD xs).length = xs.length := by unfold numD; simp
/-- a new pair -/
theorem new_pair {P : Addr → Prop} {G : GH} {H : Hp} {T : Addr} {x y : V} {dx dy : PyData} (r : R K P G H) (hT : H T = none) (hx : Dq K (Bk P G) H x dx) (hy : Dq K (Bk P G) H y dy) :
    Stab G H G (upd H T (.tup [x, y])) ∧ R K P G (upd H T (.tup [x, y])) ∧ Dq K (Bk P G) (upd H T (.tup [x, y])) (.ref T) (.tuple [dx, dy]) := by
  have s : Stab G H G (upd H T (.tup [x, y])) := .new r hT
  exact ⟨s, r.new hT, .tup (SqT.of upd_same) (.cons (s.dq hx) (.cons (s.dq hy) .nil))⟩
theorem Wk.enum {P : Addr → Prop} {G : GH} {H : Hp} {a : Addr} {vs : List V} {ds : List PyData} (n : ¬ Bk P G a) (q : Rd H a (.lst vs)) (w : DqAll K (Bk P G) H vs ds) : Wk K P G H (Ite K a) (numD ds) where
  go P1 G1 H1 i x hp s1 r1 e := by
    obtain ⟨y, ey, ex⟩ := numD_get.mp e
    subst ex
    obtain ⟨v, h1, h2⟩ := w.get ey
    have q1 : SqL K H1 a vs := .inl (s1.rd (nbk n) q)
    refine ⟨⟨vs, v, q1, h1⟩, fun v' H' ⟨T, z, e1, hT, e2, e3⟩ => ?_⟩
    subst e1; subst e2
    have e4 := e3 vs q1
    rw [h1] at e4
    cases e4
    exact new_pair r1 hT (.int _) (s1.dqP hp h2)
  stop G1 H1 s1 := ⟨vs, .inl (s1.rd (nbk n) q), by rw [numD_length, w.length]; exact Nat.le_refl _⟩
theorem Wk.str {P : Addr → Prop} {G : GH} {H : Hp} {z : Str} : Wk K P G H (Its z) (z.cps.toList.map fun c => PyData.str ⟨#[c]⟩) where
  go P1 G1 H1 i x hp s1 r1 e := by
    rw [List.getElem?_map] at e
    have hi : i < z.cps.size := by
      by_cases h : i < z.cps.size
      · exact h
      · rw [List.getElem?_eq_none (by simpa using h)] at e; cases e
    refine ⟨hi, fun v' H' ⟨e1, c, e2, e3⟩ => ?_⟩
    subst e1; subst e3
    rw [Array.getElem?_toList, e2] at e
    cases e
    exact ⟨.refl, r1, .str _⟩
  stop G1 H1 s1 := by simp [Its]
def zipD (xs ys : List PyData) : List PyData := (xs.zip ys).map fun p => PyData.tuple [p.1, p.2]
theorem Wk.zip {P : Addr → Prop} {G : GH} {H : Hp} {a b : Addr} {vs ws : List V} {ds es : List PyData} (n : ¬ Bk P G a) (q : Rd H a (.lst vs)) (w : DqAll K (Bk P G) H vs ds) (n2 : ¬ Bk P G b) (q2 : Rd H b (.lst ws)) (w2 : DqAll K (Bk P G) H ws es) :
    Wk K P G H (Itz K a b) (zipD ds es) where
  go P1 G1 H1 i x hp s1 r1 e := by
    unfold zipD at e
    rw [List.getElem?_map] at e
    cases h : (ds.zip es)[i]? with
    | none => rw [h] at e; cases e
    | some p =>
      rw [h] at e
      cases e
      obtain ⟨h1, h2⟩ := List.getElem?_zip_eq_some.mp h
      obtain ⟨v, e1, e2⟩ := w.get h1
      obtain ⟨u, e3, e4⟩ := w2.get h2
      have q1 : SqL K H1 a vs := .inl (s1.rd (nbk n) q)
      have q3 : SqL K H1 b ws := .inl (s1.rd (nbk n2) q2)
      refine ⟨⟨vs, ws, v, u, q1, q3, e1, e3⟩, fun v' H' ⟨T, x, y, z1, hT, z2, z3, z4⟩ => ?_⟩
      subst z1; subst z2
      have z5 := z3 vs q1
      have z6 := z4 ws q3
      rw [e1] at z5; rw [e3] at z6
      cases z5; cases z6
      exact new_pair r1 hT (s1.dqP hp e2) (s1.dqP hp e4)
  stop G1 H1 s1 := ⟨vs, ws, .inl (s1.rd (nbk n) q), .inl (s1.rd (nbk n2) q2), by
    unfold zipD
    rw [List.length_map, List.length_zip, w.length, w2.length]
    omega⟩
theorem wi_list {tl : TE} {Ψ : List PyData → GH → Prop} (h : WE K tl δ G fun x G1 => ∃ xs, x = .dat (.list xs) ∧ Ψ xs G1) : WI K (iList K tl) δ G Ψ := fun P σ H rr s Q q =>
  h P σ H rr s _ fun v d G1 H1 s1 r1 v1 ⟨xs, e, k⟩ => by
    subst e
    cases v1 with
    | lst n q1 w => exact ⟨_, rfl, ⟨_, .inl q1⟩, q _ xs G1 H1 s1 r1 (.list n q1 w) k⟩
theorem wi_tup {tl : TE} {Ψ : List PyData → GH → Prop} (h : WE K tl δ G fun x G1 => ∃ xs, x = .dat (.tuple xs) ∧ Ψ xs G1) : WI K (iTup K tl) δ G Ψ := fun P σ H rr s Q q =>
  h P σ H rr s _ fun v d G1 H1 s1 r1 v1 ⟨xs, e, k⟩ => by
    subst e
    cases v1 with
    | tup q1 w => exact ⟨_, rfl, ⟨_, q1⟩, q _ xs G1 H1 s1 r1 (.tup q1 w) k⟩
theorem wi_rng1 {Ψ : List PyData → GH → Prop} (h : WA K t δ G fun ds G1 => ∃ j : Int, ds = [.dat (.int j)] ∧ -(2 ^ 62) ≤ j ∧ j < 2 ^ 62 ∧ Ψ (upD 0 j.toNat) G1) : WI K (iRng1 t) δ G Ψ := fun P σ H rr s Q q =>
  h P σ H rr s _ fun vs ds G1 H1 s1 r1 v1 ⟨j, e, b1, b2, k⟩ => by
    subst e
    cases v1 with
    | cons v1 v2 =>
      cases v2; cases v1
      exact ⟨j, rfl, b1, b2, q _ _ G1 H1 s1 r1 .rng k⟩
theorem wi_rng2 {Ψ : List PyData → GH → Prop} (h : WA K t δ G fun ds G1 => ∃ i j : Int, ds = [.dat (.int i), .dat (.int j)] ∧ (-(2 ^ 62) ≤ i ∧ i < 2 ^ 62 ∧ -(2 ^ 62) ≤ j ∧ j < 2 ^ 62) ∧ Ψ (upD i (j - i).toNat) G1) : WI K (iRng2 t) δ G Ψ := fun P σ H rr s Q q =>
  h P σ H rr s _ fun vs ds G1 H1 s1 r1 v1 ⟨i, j, e, b1, k⟩ => by
    subst e
    cases v1 with
    | cons v1 v2 =>
      cases v2 with
      | cons v2 v3 =>
        cases v3; cases v2; cases v1
        exact ⟨i, j, rfl, b1, q _ _ G1 H1 s1 r1 .rng k⟩
theorem wi_enum {Ψ : List PyData → GH → Prop} (h : WA K t δ G fun ds G1 => ∃ xs, ds = [.dat (.list xs)] ∧ Ψ (numD xs) G1) : WI K (iEnum K t) δ G Ψ := fun P σ H rr s Q q =>
  h P σ H rr s _ fun vs ds G1 H1 s1 r1 v1 ⟨xs, e, k⟩ => by
    subst e
    cases v1 with
    | cons v1 v2 =>
      cases v2
      cases v1 with
      | lst n q1 w => exact ⟨_, _, rfl, .inl q1, q _ _ G1 H1 s1 r1 (.enum n q1 w) k⟩
theorem wi_zip {Ψ : List PyData → GH → Prop} (h : WA K t δ G fun ds G1 => ∃ xs ys, ds = [.dat (.list xs), .dat (.list ys)] ∧ Ψ (zipD xs ys) G1) : WI K (iZip K t) δ G Ψ := fun P σ H rr s Q q =>
  h P σ H rr s _ fun vs ds G1 H1 s1 r1 v1 ⟨xs, ys, e, k⟩ => by
    subst e
    cases v1 with
    | cons v1 v2 =>
      cases v2 with
      | cons v2 v3 =>
        cases v3
        cases v1 with
        | lst n q1 w =>
          cases v2 with
          | lst n2 q2 w2 => exact ⟨_, _, _, _, rfl, .inl q1, .inl q2, q _ _ G1 H1 s1 r1 (.zip n q1 w n2 q2 w2) k⟩
theorem wi_str {Ψ : List PyData → GH → Prop} (h : WE K te δ G fun x G1 => ∃ z : Str, x = .dat (.str z) ∧ Ψ (z.cps.toList.map fun c => PyData.str ⟨#[c]⟩) G1) : WI K (iStr te) δ G Ψ := fun P σ H rr s Q q =>
  h P σ H rr s _ fun v d G1 H1 s1 r1 v1 ⟨z, e, k⟩ => by
    subst e
    cases v1
    exact ⟨z, rfl, q _ _ G1 H1 s1 r1 .str k⟩
/-! ### for -/
theorem ws_for {wi : TI} {tb : TS} (h : WI K wi δ G fun xs G1 => ∃ (ts : List Nat) (I : Nat → De → GH → Prop), I 0 δ G1 ∧
      (∀ (i : Nat) (x : PyData) (δ' : De) (G' : GH), xs[i]? = some x → I i δ' G' → WG K g ts (.dat x) δ' G' fun δ2 G2 => WS K tb δ2 G2 { nx := I (i + 1), rt := E.rt, bk := E.nx, ct := I (i + 1) }) ∧
      ∀ (δ' : De) (G' : GH), I xs.length δ' G' → E.nx δ' G') : WS K (tFor wi g tb) δ G E := fun P σ H rr s D e =>
  h P σ H rr s _ fun J xs G1 H1 s1 r1 wk ⟨ts, I, h0, hs, hd⟩ => by
    refine ⟨fun i m σ' H' => m = xs.length - i ∧ i ≤ xs.length ∧ ∃ δ' G', I i δ' G' ∧ R K P G' H' ∧ SR K (Bk P G') H' σ' δ' ∧ Stab G1 H1 G' H', ⟨_, rfl, Nat.zero_le _, δ, G1, h0, r1, s1.sr s, .refl⟩, ?_⟩
    rintro i m σ' H' ⟨rfl, hi, δ', G', hI, r', sr', st'⟩
    by_cases hlt : i < xs.length
    · refine .inr ⟨(wk.go P G' H' i xs[i] (fun _ p => .inl p) st' r' (List.getElem?_eq_getElem hlt)).1, fun σ2 H2 => ∃ δ2 G2, I (i + 1) δ2 G2 ∧ R K P G2 H2 ∧ SR K (Bk P G2) H2 σ2 δ2 ∧ Stab G1 H1 G2 H2, fun σ2 H2 ⟨δ2, G2, a, b, c, f⟩ => ⟨xs.length - (i + 1), by omega, rfl, hlt, δ2, G2, a, b, c, f⟩, fun x H2 y => ?_⟩
      obtain ⟨s2, r2, d2⟩ := (wk.go P G' H' i xs[i] (fun _ p => .inl p) st' r' (List.getElem?_eq_getElem hlt)).2 x H2 y
      refine hs i xs[i] δ' G' (List.getElem?_eq_getElem hlt) hI P σ' H2 x r2 (s2.sr sr') d2 _ fun σ3 δ3 G3 H3 s3 r3 sr3 _ k => ?_
      have st3 := (st'.trans s2).trans s3
      have e3 := e.later (s1.trans st3)
      exact k P σ3 H3 r3 sr3 _ ⟨fun σ4 δ4 G4 H4 s4 r4 z4 k4 => ⟨δ4, G4, k4, r4, z4, st3.trans s4⟩, e3.rt, e3.nx, fun σ4 δ4 G4 H4 s4 r4 z4 k4 => ⟨δ4, G4, k4, r4, z4, st3.trans s4⟩⟩
    · have ei : i = xs.length := by omega
      subst ei
      exact .inl ⟨wk.stop G' H' st', e.nx _ _ _ _ (s1.trans st') r' sr' (hd δ' G' hI)⟩
/-! ### comprehensions -/
def wipeD (δ : De) : List Nat → De
  | [] => δ
  | v :: vs => (wipeD δ vs).set v none
theorem wipe_sr {P : Addr → Prop} {G : GH} {H : Hp} {σ : L2.St} {δ : De} (h : SR K (Bk P G) H σ δ) : ∀ vs : List Nat, SR K (Bk P G) H (wipe σ vs) (wipeD δ vs)
  | [] => h
  | v :: vs => (wipe_sr h vs).unset v
theorem wipe_get {σ : L2.St} : ∀ {vs : List Nat} {j : Nat}, (wipe σ vs)[j]? = if j ∈ vs ∧ j < σ.length then some none else σ[j]?
  | [], j => by simp [wipe]
  | v :: vs, j => by
    unfold wipe
    by_cases hj : v = j
    · subst hj
      by_cases hl : v < σ.length
      · rw [List.getElem?_set_self (by rw [wipe_length]; exact hl), if_pos ⟨List.mem_cons_self, hl⟩]
      · rw [List.getElem?_eq_none (by rw [List.length_set, wipe_length]; omega), if_neg (fun z => hl z.2), List.getElem?_eq_none (by omega)]
    · rw [List.getElem?_set_ne hj, wipe_get]
      have e : (j ∈ v :: vs ∧ j < σ.length) ↔ (j ∈ vs ∧ j < σ.length) := by
        rw [List.mem_cons]
        exact ⟨fun ⟨a, b⟩ => ⟨a.resolve_left fun z => hj z.symm, b⟩, fun ⟨a, b⟩ => ⟨.inr a, b⟩⟩
      by_cases hc : j ∈ vs ∧ j < σ.length
      · rw [if_pos hc, if_pos (e.mpr hc)]
      · rw [if_neg hc, if_neg (fun z => hc (e.mp z))]
theorem wipe_agr {σ σ' : L2.St} {ts vs : List Nat} (a : Agr ts σ σ') (h : ∀ j ∈ ts, j ∈ vs) : wipe σ' vs = wipe σ vs := by
  apply List.ext_getElem?
  intro j
  rw [wipe_get, wipe_get, a.1]
  by_cases hc : j ∈ vs ∧ j < σ.length
  · rw [if_pos hc, if_pos hc]
  · rw [if_neg hc, if_neg hc]
    by_cases hj : j ∈ ts
    · have hl : ¬ j < σ.length := fun z => hc ⟨h j hj, z⟩
      rw [List.getElem?_eq_none (show σ'.length ≤ j by rw [a.1]; omega), List.getElem?_eq_none (show σ.length ≤ j by omega)]
    · exact a.2 j hj
theorem wipe_wipe {σ : L2.St} {vs : List Nat} : wipe (wipe σ vs) vs = wipe σ vs := by
  apply List.ext_getElem?
  intro j
  rw [wipe_get, wipe_get, wipe_length]
  by_cases hc : j ∈ vs ∧ j < σ.length
  · rw [if_pos hc, if_pos hc]
  · rw [if_neg hc, if_neg hc]
/-- one more private object -/
def Pr (P : Addr → Prop) (D : Addr) : Addr → Prop := fun a => P a ∨ a = D
theorem Pr.ok {P : Addr → Prop} {H : Hp} {D : Addr} (hD : H D = none) : ∀ a, Pr P D a → P a ∨ H a = none := fun a p => p.elim .inl fun e => .inr (by rw [e]; exact hD)
theorem OR.vrP {P P' : Addr → Prop} {G G' : GH} {H H' : Hp} {a : Addr} {o : GO} (vr : ∀ v d, VR K (Bk P G) H v d → VR K (Bk P' G') H' v d) (da : ∀ v d, DqAll K (Bk P G) H v d → DqAll K (Bk P' G') H' v d) (ea : H' a = H a) (z : OR K (Bk P G) H a o) : OR K (Bk P' G') H' a o := by
  cases o with
  | lst xs => obtain ⟨vs, q, w⟩ := z; exact ⟨vs, ea.trans q, da _ _ w⟩
  | nums => obtain ⟨vs, q⟩ := z; exact ⟨vs, ea.trans q⟩
  | ins C ns ds => obtain ⟨dx, vs, q, l, w⟩ := z; exact ⟨dx, vs, ea.trans q, l, Paired.map w vr⟩
  | dic kvs => obtain ⟨kv, q, w⟩ := z; exact ⟨kv, ea.trans q, Paired.map w fun _ _ z => ⟨z.1, vr _ _ z.2⟩⟩
theorem R.priv {P : Addr → Prop} {G : GH} {H : Hp} {D : Addr} {o : HO} (r : R K P G H) (hD : H D = none) : R K (Pr P D) G (upd H D o) := by
  have st : Stab G H G (upd H D o) := .new r hD
  refine ⟨fun a u e => ?_, fun a p => ?_⟩
  · obtain ⟨w, q⟩ := r.there e
    exact (r.ob a u e).vrP (fun _ _ => st.vrP (Pr.ok hD)) (fun _ _ => st.dqAP (Pr.ok hD)) (upd_ne (ne_of_none q hD))
  · rcases p with p | p
    · obtain ⟨z1, u, z2⟩ := r.pr a p
      exact ⟨z1, u, (st.keep a u z1 z2).1⟩
    · subst p
      exact ⟨r.freshG hD, _, upd_same⟩
theorem nbk_less {P : Addr → Prop} {G : GH} {D a : Addr} (n : ¬ Bk (Pr P D) G a) : ¬ Bk P G a := fun b => n (b.elim (fun z => .inl (.inl z)) .inr)
theorem Dq.less {P : Addr → Prop} {G : GH} {H : Hp} {D : Addr} {v : V} {d : PyData} (h : Dq K (Bk (Pr P D) G) H v d) : Dq K (Bk P G) H v d := h.map (fun _ _ z => z) fun a xs n q => ⟨nbk_less n, q⟩
theorem DqAll.less {P : Addr → Prop} {G : GH} {H : Hp} {D : Addr} {v : List V} {d : List PyData} (h : DqAll K (Bk (Pr P D) G) H v d) : DqAll K (Bk P G) H v d := h.map (fun _ _ z => z) fun a xs n q => ⟨nbk_less n, q⟩
theorem VR.less {P : Addr → Prop} {G : GH} {H : Hp} {D : Addr} {v : V} {d : Dt} (h : VR K (Bk (Pr P D) G) H v d) : VR K (Bk P G) H v d := by
  cases d with
  | dat d => exact Dq.less h
  | obj a => exact h
theorem R.less {P : Addr → Prop} {G : GH} {H : Hp} {D : Addr} (r : R K (Pr P D) G H) : R K P G H :=
  ⟨fun a u e => (r.ob a u e).vrP (fun _ _ => VR.less) (fun _ _ => DqAll.less) rfl, fun a p => r.pr a (.inl p)⟩
/-- the private object D is written -/
theorem priv_write {P : Addr → Prop} {G : GH} {H : Hp} {D : Addr} {xs ys : List V} (r : R K (Pr P D) G H) (hD : H D = some (.lst xs)) :
    R K (Pr P D) G (upd H D (.lst ys)) ∧ (∀ v d, Dq K (Bk (Pr P D) G) H v d → Dq K (Bk (Pr P D) G) (upd H D (.lst ys)) v d) ∧ (∀ v d, DqAll K (Bk (Pr P D) G) H v d → DqAll K (Bk (Pr P D) G) (upd H D (.lst ys)) v d) := by
  have ht : ∀ a zs, SqT K H a zs → SqT K (upd H D (.lst ys)) a zs := fun a zs q => by
    rcases q with (q | ⟨ob, q⟩) | q
    · exact .inl (.inl (by rw [upd_ne (ne_of q hD (fun z => nomatch z))]; exact q))
    · exact .inl (.inr ⟨ob, by rw [upd_ne (ne_of q hD (fun z => nomatch z))]; exact q⟩)
    · exact .inr q
  have hl : ∀ a zs, ¬ Bk (Pr P D) G a → Rd H a (.lst zs) → ¬ Bk (Pr P D) G a ∧ Rd (upd H D (.lst ys)) a (.lst zs) := fun a zs n q => by
    have ha : a ≠ D := fun e => n (.inl (.inr e))
    refine ⟨n, ?_⟩
    rcases q with q | ⟨ob, q⟩
    · exact .inl (by rw [upd_ne ha]; exact q)
    · exact .inr ⟨ob, by rw [upd_ne ha]; exact q⟩
  have dq : ∀ v d, Dq K (Bk (Pr P D) G) H v d → Dq K (Bk (Pr P D) G) (upd H D (.lst ys)) v d := fun v d h => h.map ht hl
  have da : ∀ v d, DqAll K (Bk (Pr P D) G) H v d → DqAll K (Bk (Pr P D) G) (upd H D (.lst ys)) v d := fun v d h => h.map ht hl
  have vr : ∀ v d, VR K (Bk (Pr P D) G) H v d → VR K (Bk (Pr P D) G) (upd H D (.lst ys)) v d := fun v d h => by
    cases d with
    | dat d => exact dq v d h
    | obj a => exact h
  refine ⟨⟨fun a u e => ?_, fun a p => ⟨(r.pr a p).1, ?_⟩⟩, dq, da⟩
  · have ha : a ≠ D := fun z => by
      subst z
      rw [(r.pr a (.inr rfl)).1] at e; cases e
    exact (r.ob a u e).vrP vr da (upd_ne ha)
  · by_cases ha : a = D
    · subst ha; exact ⟨_, upd_same⟩
    · rw [upd_ne ha]; exact (r.pr a p).2
/-- what stood ahead of the private object stands behind its change -/
theorem Stab.privW {G G' : GH} {H H' : Hp} {D : Addr} {o : HO} (s : Stab G H G' H') (hD : H D = none) : Stab G H G' (upd H' D o) := by
  refine ⟨fun a xs q => ?_, fun a u n q => ⟨?_, (s.keep a u n q).2⟩⟩
  · have ha : a ≠ D := fun z => by
      subst z
      rcases q with q | ⟨ob, q⟩
      · rw [hD] at q; cases q
      · rw [hD] at q; cases q
    rcases s.tup a xs q with z | ⟨ob, z⟩
    · exact .inl (by rw [upd_ne ha]; exact z)
    · exact .inr ⟨ob, by rw [upd_ne ha]; exact z⟩
  · rw [upd_ne (ne_of_none q hD)]; exact (s.keep a u n q).1
theorem we_lc {wi : TI} {vs : List Nat} (h : WI K wi δ G fun xs G1 => ∃ (ts : List Nat) (I : Nat → List PyData → GH → Prop), xs.length ≤ 1000000 ∧ (∀ j ∈ ts, j ∈ vs) ∧ I 0 [] G1 ∧
      (∀ (i : Nat) (x : PyData) (acc : List PyData) (G' : GH), xs[i]? = some x → acc.length ≤ i → I i acc G' → WG K g ts (.dat x) (wipeD δ vs) G' fun δ2 G2 => WT K tt δ2 G2 fun b G3 =>
        (b = true → WE K te δ2 G3 fun y G4 => ∃ d, y = .dat d ∧ I (i + 1) (acc ++ [d]) G4) ∧ (b = false → I (i + 1) acc G3)) ∧
      ∀ (acc : List PyData) (G' : GH), acc.length ≤ xs.length → I xs.length acc G' → Φ (.dat (.list acc)) G') : WE K (tLc wi g tt te vs) δ G Φ := fun P σ H rr s Q q =>
  h P σ H rr s _ fun J xs G1 H1 s1 r1 wk ⟨ts, I, hz, hts, h0, hs, hd⟩ D hD => by
    have sr1 := wipe_sr (s1.sr s) vs
    refine ⟨fun i m H' => m = xs.length - i ∧ i ≤ xs.length ∧ ∃ acc av G', I i acc G' ∧ acc.length ≤ i ∧ R K (Pr P D) G' H' ∧ H' D = some (.lst av) ∧ DqAll K (Bk (Pr P D) G') H' av acc ∧ Stab G1 H1 G' H',
      ⟨_, rfl, Nat.zero_le _, [], [], G1, h0, Nat.le_refl _, r1.priv hD, upd_same, .nil, .new r1 hD⟩, ?_⟩
    rintro i m H' ⟨rfl, hi, acc, av, G', hI, hl, r', hD', wa, st'⟩
    by_cases hlt : i < xs.length
    · have gd : G' D = none := (r'.pr D (.inr rfl)).1
      have wg := wk.go (Pr P D) G' H' i xs[i] (Pr.ok hD) st' r' (List.getElem?_eq_getElem hlt)
      refine .inr ⟨wg.1, fun H2 => ∃ acc av G2, I (i + 1) acc G2 ∧ acc.length ≤ i + 1 ∧ R K (Pr P D) G2 H2 ∧ H2 D = some (.lst av) ∧ DqAll K (Bk (Pr P D) G2) H2 av acc ∧ Stab G1 H1 G2 H2,
        fun H2 ⟨acc, av, G2, a, b, c, d, e, f⟩ => ⟨xs.length - (i + 1), by omega, rfl, hlt, acc, av, G2, a, b, c, d, e, f⟩, fun x H2 y => ?_⟩
      obtain ⟨s2, r2, d2⟩ := wg.2 x H2 y
      have srT : SR K (Bk (Pr P D) G') H2 (wipe σ vs) (wipeD δ vs) := ⟨sr1.1, fun j dj e => by
        obtain ⟨v, e1, z⟩ := sr1.2 j dj e
        exact ⟨v, e1, (st'.trans s2).vrP (Pr.ok hD) z⟩⟩
      refine hs i xs[i] acc G' (List.getElem?_eq_getElem hlt) hl hI (Pr P D) _ H2 x r2 srT d2 _ fun σ3 δ3 G3 H3 s3 r3 sr3 ag k => ?_
      refine ⟨by rw [wipe_agr ag hts, wipe_wipe], k (Pr P D) σ3 H3 r3 sr3 _ fun b G4 H4 s4 r4 k4 => ?_⟩
      have st4 := ((st'.trans s2).trans s3).trans s4
      have keepD := (s2.trans s3).trans s4
      have hD4 := keepD.keep D _ gd hD'
      have wa4 := keepD.dqA wa
      cases b with
      | false => exact ⟨acc, av, G4, k4.2 rfl, Nat.le_succ_of_le hl, r4, hD4.1, wa4, st4⟩
      | true =>
        refine k4.1 rfl (Pr P D) σ3 H4 r4 (s4.sr sr3) _ fun v dv G5 H5 s5 r5 v5 ⟨d, ed, k5⟩ => ?_
        subst ed
        have hD5 := s5.keep D _ hD4.2 hD4.1
        have wa5 := s5.dqA wa4
        obtain ⟨r6, dq6, da6⟩ := priv_write (ys := av ++ [v]) r5 hD5.1
        have l5 := wa5.length
        refine ⟨av, hD5.1, Nat.lt_of_lt_of_le (show av.length < 1000000 by omega) (line6 (Nat.le_refl _)), acc ++ [d], av ++ [v], G5, k5, by rw [List.length_append]; simp; omega, r6, upd_same, (da6 _ _ wa5).append (.cons (dq6 _ _ v5) .nil), (st4.trans s5).privW hD⟩
    · have ei : i = xs.length := by omega
      subst ei
      refine .inl ⟨wk.stop G' H' st', q _ _ G' H' (s1.trans st') r'.less ?_ (hd acc G' hl hI)⟩
      have gd : G' D = none := (r'.pr D (.inr rfl)).1
      refine .lst (fun b => ?_) (.inl hD') wa.less
      rcases b with b | ⟨o, e⟩
      · exact r1.freshP hD b
      · rw [gd] at e; cases e
end
end DL
/-! (Dl6) -/
namespace DL
open PySem PySem.Spec PyProof.Rows L2

/-! ### a def with its promise, ready to be called -/
structure OkD (P : Program) (w : World) (K : PySem.W.Frag) (mg : Str → Option Value) (base : Heap) (k : Nat) (f : Addr) (ps : List Str) (dvs : List V) (F : FT) : Prop where
  ex : ∃ (fd : FuncData) (ds : List Value), PySem.W.keepIn K (.ref f) = true ∧ Binds K fd ps ds ∧ Vals dvs ds ∧ FnOk P w K mg base CX0 k f fd ps (spD K F)
section
variable {P : Program} {w : World} {K : PySem.W.Frag} {mg : Str → Option Value} {base : Heap} {k j : Nat} {f : Addr} {ps : List Str} {dvs : List V} {F F' : FT} {x qual : Str} {params : Arguments} {body : List Stmt} {scope : Scope} {kws : List (Str × V)} {fd : FuncData}
theorem OkD.mono (O : OkD P w K mg base j f ps dvs F) (h : j ≤ k) : OkD P w K mg base k f ps dvs F := by
  obtain ⟨fd, ds, a, b, c, d⟩ := O.ex
  exact ⟨fd, ds, a, b, c, d.mono h⟩
/-- no defaults -/
theorem okN (D : FunD K x qual params body scope [] kws f fd) (O : FnOk P w K mg base CX0 k f fd ps (spD K F))
    (h : ∀ (kV doc pm : Value) (an : Option Addr) (cdv ct : Value) (us : List Value), us.length = ps.length → bindArgs (PySem.W.fnOf x qual params body scope .none kV doc pm an cdv ct) ⟨us, []⟩ = pure (ps.zip us)) : OkD P w K mg base k f ps [] F :=
  ⟨fd, [], D.kp, D.bindsN h, .nil, O⟩
/-- defaults behind the first j -/
theorem okJ (D : FunD K x qual params body scope dvs kws f fd) (O : FnOk P w K mg base CX0 k f fd ps (spD K F)) (n j : Nat) (hd : dvs ≠ []) (hn : n + (dvs.length - j) = ps.length)
    (h : ∀ (T : Addr) (kV doc pm : Value) (an : Option Addr) (cdv ct : Value) (us its : List Value), us.length = n → its.length = dvs.length →
      ∃ q, bindArgs (PySem.W.fnOf x qual params body scope (.ref T) kV doc pm an cdv ct) ⟨us, []⟩ = seqItems? (.ref T) >>= q ∧ q (some its.toArray) = pure (ps.zip (us ++ its.drop j))) : OkD P w K mg base k f ps (dvs.drop j) F := by
  obtain ⟨ds, h1, h2⟩ := D.binds1 n j hd hn h
  exact ⟨fd, ds, D.kp, h2, h1, O⟩
end
section
variable {X : Cx} {k : Nat} {f C : Addr} {ps : List Str} {dvs : List V} {F : FT} {x m : Str} {p pos apos : Pos} {e o : Expr} {es : List Expr} {t : TA} {ta te : TE}
theorem pe_cl (O : OkD X.prog X.w X.K X.mg X.base k f ps dvs F) (hr : Room k X.A) (hm : X.mg x = some (.ref f)) (ha : PA X (e :: es) t) (hg : Gl X x := by rfl) (hdb : (x == ("__debug__" : Str)) = false := by decide)
    (he : starEach (e :: es) X.env = (false, eval e X.env) :: starEach es X.env := by rfl) (hpl : (backTo pos (starEach es X.env)).any (·.1) = false := by rfl) : PE X (.Call (.Name x p) (e :: es) [] pos) (tCall (spD X.K F) dvs E0 t) := by
  obtain ⟨fd, ds, a, b, c, d⟩ := O.ex
  exact pe_call d hr hg hm a b c pass0 ha hdb he hpl
theorem pe_cl0 (O : OkD X.prog X.w X.K X.mg X.base k f ps dvs F) (hr : Room k X.A) (hm : X.mg x = some (.ref f)) (hg : Gl X x := by rfl) (hdb : (x == ("__debug__" : Str)) = false := by decide) : PE X (.Call (.Name x p) [] [] pos) (tCall (spD X.K F) dvs E0 tNil) := by
  obtain ⟨fd, ds, a, b, c, d⟩ := O.ex
  exact pe_call0 d hr hg hm a b c pass0 hdb
theorem pe_me {pl : Sem Bool} (c : Cls X.K C) (hm : Meth X.K C m f) (O : OkD X.prog X.w X.K X.mg X.base k f ps dvs F) (hr : Room k X.A) (he : PE X o te) (ha : PA X (e :: es) t)
    (hst : starEach (e :: es) X.env = (false, eval e X.env) :: starEach es X.env := by rfl) (hpl : (backTo pos (starEach es X.env)).any (·.1) = false := by rfl)
    (ht : eval (.Call (.Attribute o m apos) (e :: es) [] pos) X.env = (do
      let ov ← eval o X.env
      standAt apos.atName
      let (f, first) ← holding [ov] (getMethod ov m pl)
      callWith pos f first (backTo pos (starEach (e :: es) X.env)) (backToKw pos (keywordEach [] X.env))) := by rfl) : PE X (.Call (.Attribute o m apos) (e :: es) [] pos) (tMeth C m (spD X.K F) dvs E0 te t) := by
  obtain ⟨fd, ds, a, b, g, d⟩ := O.ex
  exact pe_meth he c hm d hr b g pass0 ha hst hpl ht
theorem pe_me0 {pl : Sem Bool} (c : Cls X.K C) (hm : Meth X.K C m f) (O : OkD X.prog X.w X.K X.mg X.base k f ps dvs F) (hr : Room k X.A) (he : PE X o te)
    (ht : eval (.Call (.Attribute o m apos) [] [] pos) X.env = (do
      let ov ← eval o X.env
      standAt apos.atName
      let (f, first) ← holding [ov] (getMethod ov m pl)
      callWith pos f first (backTo pos (starEach [] X.env)) (backToKw pos (keywordEach [] X.env))) := by rfl) : PE X (.Call (.Attribute o m apos) [] [] pos) (tMeth C m (spD X.K F) dvs E0 te tNil) := by
  obtain ⟨fd, ds, a, b, g, d⟩ := O.ex
  exact pe_meth0 he c hm d hr b g pass0 ht
theorem pe_pr {g : Addr} (c : Cls X.K C) (hp : PropOf X.K C m p' g) (O : OkD X.prog X.w X.K X.mg X.base k g ps dvs F) (hr : Room (k + 1) X.A) (he : PE X o te) (hab : attributeBase o m X.env (eval o X.env) = eval o X.env := by rfl) :
    PE X (.Attribute o m pos) (tProp C (spD X.K F) dvs E0 te) := by
  obtain ⟨fd, ds, a, b, g, d⟩ := O.ex
  exact pe_prop he c hp d hr b g pass0 hab
theorem pe_mk (M : Mk X.K C f) (O : OkD X.prog X.w X.K X.mg X.base k f ps dvs F) (hr : Room (k + 1) X.A) (hm : X.mg x = some (.ref C)) (ha : PA X (e :: es) t) (hg : Gl X x := by rfl) (hdb : (x == ("__debug__" : Str)) = false := by decide)
    (he : starEach (e :: es) X.env = (false, eval e X.env) :: starEach es X.env := by rfl) (hpl : (backTo pos (starEach es X.env)).any (·.1) = false := by rfl) : PE X (.Call (.Name x p) (e :: es) [] pos) (tMake C (spD X.K F) dvs E0 t) := by
  obtain ⟨fd, ds, a, b, g, d⟩ := O.ex
  exact pe_make M d hr hg hm b g pass0 ha hdb he hpl
/-! ### names of the module -/
theorem pe_gI {i : Int} (hm : ∃ t, X.mg x = some (.int i t)) (hg : Gl X x := by rfl) (hd : (x == ("__debug__" : Str)) = false := by decide) : PE X (.Name x pos) (tC (.int i)) := by
  obtain ⟨t, hm⟩ := hm
  exact pe_glob hg hm ⟨t, rfl⟩ hd
theorem pe_gS {z : Str} (hm : ∃ t, X.mg x = some (.str z t)) (hg : Gl X x := by rfl) (hd : (x == ("__debug__" : Str)) = false := by decide) : PE X (.Name x pos) (tC (.str z)) := by
  obtain ⟨t, hm⟩ := hm
  exact pe_glob hg hm ⟨t, rfl⟩ hd
theorem pe_gR {a : Addr} (hm : X.mg x = some (.ref a)) (hg : Gl X x := by rfl) (hd : (x == ("__debug__" : Str)) = false := by decide) : PE X (.Name x pos) (tC (.ref a)) := pe_glob hg hm rfl hd
/-! ### what is never come to -/
def tNoE : TE := fun _ _ _ => False
theorem pe_never : PE X e tNoE := ⟨fun _ _ _ _ _ _ h => h.elim⟩
def tNoA : TA := fun _ _ _ => False
theorem pa_never : PA X es tNoA := ⟨fun _ _ _ _ _ _ _ h => h.elim⟩
end
section
variable {K : PySem.W.Frag} {δ : De} {G : GH} {Φ : Dt → GH → Prop} {ta tb te tv : TE} {tt tu : TT} {t : TA} {d : Dt} {i : Nat} {F : FT} {E : DE}
theorem we_neg (h : WE K ta δ G fun x G1 => ∃ i, x = .dat (.int i) ∧ Φ (.dat (.int (-i))) G1) : WE K (tUn (rU fun i => .int (-i)) ta) δ G Φ := fun P σ H rr s Q q =>
  h P σ H rr s _ fun x dx G1 H1 s1 r1 v1 ⟨i, e, k⟩ => by
    subst e
    cases v1
    exact ⟨i, rfl, q _ _ G1 H1 s1 r1 (.int _) k⟩
/-- a tracked list read as data: from here on it is not written any more -/
theorem we_let {a : Addr} {xs : List PyData} (h : δ[i]? = some (some (.obj a))) (g : G a = some (.lst xs)) (k : Φ (.dat (.list xs)) (dropG G a)) : WE K (tVar i) δ G Φ := fun P σ H r s Q q => by
  obtain ⟨v, e, z⟩ := s.2 i _ h
  cases z
  obtain ⟨vs, q1, w⟩ := r.ob a _ g
  have st : Stab G H (dropG G a) H := .drop
  refine ⟨.ref a, e, q _ _ (dropG G a) H st r.drop (.lst (fun b => ?_) (.inl q1) (st.dqA w)) k⟩
  rcases b with b | ⟨o, b⟩
  · rw [(r.pr a b).1] at g; cases g
  · rw [dropG_same] at b; cases b
end
end DL
/-! (Dl7) -/
namespace DL
open PySem PySem.Spec PyProof.Rows L2
/-! ### the readings of operands, opened -/
section
variable {i j : Int} {x y : Str} {b c : Bool} {xs ys : List PyData} {G : GH} {a : Addr} {Ψ : Bool → Prop} {Φ : Dt → GH → Prop} {Θ : Nat → Prop} {Ω : Int → Prop} {d : PyData}
theorem dEq_ii (h : Ψ (decide (i = j))) : dEq (.dat (.int i)) (.dat (.int j)) Ψ := h
theorem dEq_ss (h : Ψ (decide (x = y))) : dEq (.dat (.str x)) (.dat (.str y)) Ψ := h
theorem dEq_bb (h : Ψ (decide (b = c))) : dEq (.dat (.bool b)) (.dat (.bool c)) Ψ := h
theorem dEq_nn (h : Ψ true) : dEq (.dat .none) (.dat .none) Ψ := h
theorem dEq_ni (h : Ψ false) : dEq (.dat .none) (.dat (.int j)) Ψ := h
theorem dEq_in (h : Ψ false) : dEq (.dat (.int i)) (.dat .none) Ψ := h
theorem dAdd_ii (h : Φ (.dat (.int (i + j))) G) : dAdd (.dat (.int i)) (.dat (.int j)) G Φ := h
theorem dAdd_ss (l : x.length + y.length ≤ 16777216) (h : Φ (.dat (.str (x ++ y))) G) : dAdd (.dat (.str x)) (.dat (.str y)) G Φ := ⟨by rw [sizeLine_eq]; exact l, h⟩
theorem dAdd_tt (l : xs.length + ys.length ≤ 1000000) (h : Φ (.dat (.tuple (xs ++ ys))) G) : dAdd (.dat (.tuple xs)) (.dat (.tuple ys)) G Φ := ⟨line6 l, h⟩
theorem dAdd_ll (l : xs.length + ys.length ≤ 1000000) (h : Φ (.dat (.list (xs ++ ys))) G) : dAdd (.dat (.list xs)) (.dat (.list ys)) G Φ := ⟨line6 l, h⟩
theorem dAdd_ol (g : G a = some (.lst xs)) (l : xs.length + ys.length ≤ 1000000) (h : Φ (.dat (.list (xs ++ ys))) G) : dAdd (.obj a) (.dat (.list ys)) G Φ := ⟨xs, g, line6 l, h⟩
theorem dIx_l (e : atI xs i = some d) (h : Φ (.dat d) G) : dIx (.dat (.list xs)) (.dat (.int i)) G Φ := ⟨d, e, h⟩
theorem dIx_t (e : atI xs i = some d) (h : Φ (.dat d) G) : dIx (.dat (.tuple xs)) (.dat (.int i)) G Φ := ⟨d, e, h⟩
theorem dIx_o (g : G a = some (.lst xs)) (e : atI xs i = some d) (h : Φ (.dat d) G) : dIx (.obj a) (.dat (.int i)) G Φ := ⟨xs, g, d, e, h⟩
theorem dIx_s {c : Nat} (l : x.length ≤ 16777216) (e : atI x.cps.toList i = some c) (h : Φ (.dat (.str ⟨#[c]⟩)) G) : dIx (.dat (.str x)) (.dat (.int i)) G Φ := ⟨by rw [sizeLine_eq]; exact l, c, e, h⟩
theorem dLen_l (h : Θ xs.length) : dLen (.dat (.list xs)) G Θ := h
theorem dLen_t (h : Θ xs.length) : dLen (.dat (.tuple xs)) G Θ := h
theorem dLen_s (l : x.length ≤ 16777216) (h : Θ x.length) : dLen (.dat (.str x)) G Θ := ⟨by rw [sizeLine_eq]; exact l, h⟩
theorem dLen_o (g : G a = some (.lst xs)) (h : Θ xs.length) : dLen (.obj a) G Θ := .inl ⟨xs, g, h⟩
theorem dInt_i (h : Ω i) : dInt (.dat (.int i)) Ω := h
theorem dInt_b (h : Ω (if b then 1 else 0)) : dInt (.dat (.bool b)) Ω := h
end
/-- the item at a place from the front -/
theorem atI_nat {α : Type} {xs : List α} {k : Nat} {x : α} (h : xs[k]? = some x) : atI xs (k : Int) = some x := by
  have hk : k < xs.length := by
    by_cases l : k < xs.length
    · exact l
    · rw [List.getElem?_eq_none (by omega)] at h; cases h
  unfold atI
  rw [ixN_natD hk]
  exact h
theorem atI_int {α : Type} {xs : List α} {i : Int} {k : Nat} {x : α} (e : i = (k : Int)) (h : xs[k]? = some x) : atI xs i = some x := by subst e; exact atI_nat h
theorem cxK {CX : CXT} {P : Program} {w : World} {K : PySem.W.Frag} {mg : Str → Option Value} {base : Heap} {N : List Str} {qual : Str} {scope : Scope} {f : Addr} {cd : Value} {A : Around} {outer : List Env} {s : Shared} {H : Hp} {E : XK} :
    (cxOf CX P w K mg base N qual scope f cd A outer s H E).nox.K = K := rfl
theorem blkK {X : Cx} {s : Shared} {H : Hp} {scope : Scope} {cenv : Env} {fp : List Addr} : (X.blk s H scope cenv fp).K = X.K := rfl
theorem take_at {α : Type} {xs : List α} {i : Nat} {x : α} (h : xs[i]? = some x) : xs.take (i + 1) = xs.take i ++ [x] := by
  rw [List.take_add_one, h]; rfl
end DL
/-! (Dl8) -/
namespace DL
open PySem PySem.Spec PyProof.Rows L2
/-! ### enumerate(tuple) -/
set_option maxHeartbeats 4000000 in
theorem meets_enumB1 {v : Value} {o : Obj} {Z : Heap → Prop} (B : Begins v o Z) : Meets (Builtin.«enumerate.__new__» ⟨[.type "enumerate", v], []⟩) (fun _ R s => Z s.heap ∧
      R (.ok (.ret (.ref (s.heap.push o).objs.size))) { s with heap := (s.heap.push o).push { cls := .type "enumerate", data := .fields #[.none, .bool false, .ref s.heap.objs.size, rawInt 0, .none, .none] } }) :=
  .of_wp fun prog w A R s ⟨z1, z2⟩ => by
    obtain ⟨h0, g0, d0, t0, o0⟩ := s
    have hsub := sub_enumerate
    have go : ∀ {A2 : Around} {E2 : Value → Shared → Prop} {Q2 : Value → Shared → Prop}, Q2 (.ref h0.objs.size) ⟨h0.push o, g0, d0, t0, o0⟩ → wpAny (model prog w) A2 (pyIter v) Q2 E2 ⟨h0, g0, d0, t0, o0⟩ := fun y => B.iter prog w _ _ ⟨h0, g0, d0, t0, o0⟩ _ z1 y
    wp_walk using go
    refine wpAny_stack_any fun stk => wpAny_pure ?_
    split
    · rename_i cc _ _ _ _ _
      cases (cc == Value.type "enumerate") <;> (wp_walk using go; exact ⟨_, rfl, z2⟩)
    · wp_walk using go
      exact ⟨_, rfl, z2⟩
theorem enum_beg1 {prog : Program} {w : World} {A : Around} {E : Value → Shared → Prop} {s : Shared} {v : Value} {o : Obj} {Z : Heap → Prop} {Q : Value → Shared → Prop} (B : Begins v o Z) (h1 : Z s.heap)
    (h : ∀ h2, IsEnum h2 (s.heap.objs.size + 1) s.heap.objs.size 0 .none → h2.get? s.heap.objs.size = some o → (∀ b o2, s.heap.get? b = some o2 → h2.get? b = some o2) → Q (.ref (s.heap.objs.size + 1)) { s with heap := h2 }) :
    wpAny (model prog w) A (call (.type "enumerate") [v]) Q E s := by
  refine callType_new F.called_enumerate (by decide) (F.typeCall_enumerate_1 _) (F.newCall_enumerate_1 _) (fun ob => F.args_object_init_2 ob _) F.entry_enumerate_new (meets_enumB1 B) ⟨h1, ?_⟩
  have hz : (s.heap.push o).objs.size = s.heap.objs.size + 1 := Heap.size_push ..
  show _ ∧ _
  rw [hz]
  have he : IsEnum ((s.heap.push o).push { cls := .type "enumerate", data := .fields #[.none, .bool false, .ref s.heap.objs.size, rawInt 0, .none, .none] }) (s.heap.objs.size + 1) s.heap.objs.size 0 .none := by
    have y := Heap.get?_push_size (s.heap.push o) (o := { cls := .type "enumerate", data := .fields #[.none, .bool false, .ref s.heap.objs.size, rawInt 0, .none, .none] }) rfl
    rw [hz] at y
    exact y
  exact ⟨⟨_, he, rfl⟩, h _ he (Heap.get?_push_of_some _ (Heap.get?_push_size _ B.free)) fun b o2 y => Heap.get?_push_of_some _ (Heap.get?_push_of_some _ y)⟩
/-- the tuple at a, each item in a new pair -/
def IteT (K : PySem.W.Frag) (a : Addr) : It :=
  ⟨fun i H => ∃ (xs : List V) (x : V), SqT K H a xs ∧ xs[i]? = some x, fun i H v H' => ∃ T x, v = .ref T ∧ H T = none ∧ H' = upd H T (.tup [.int (i : Nat), x]) ∧ ∀ xs, SqT K H a xs → xs[i]? = some x, fun i H => ∃ xs : List V, SqT K H a xs ∧ xs.length = i⟩
theorem turn_enumT {P : Program} {w : World} {K : PySem.W.Frag} {elts : List Expr} {kk : Nat} {tpos : Pos} (a e it : Addr) :
    Turn P w K (.Tuple elts kk tpos) (IteT K a) [e, it] e (fun i h => (∃ old, IsEnum h e it ((i : Nat) : Int) old) ∧ h.IsTupleIter it a i ∧ e ≠ it) where
  mem := List.mem_cons_self
  obj := fun i h st b hb => by
    obtain ⟨⟨old, he⟩, hi, _⟩ := st
    obtain ⟨o, ho, hc, hd⟩ := hi
    rcases List.mem_cons.mp hb with z | z
    · subst z; exact ⟨_, he, fun v q => nomatch q⟩
    · rw [List.mem_singleton.mp z]; exact ⟨o, ho, fun v q => by rw [hd] at q; cases q⟩
  keep := fun i h h' st k => by
    obtain ⟨⟨old, he⟩, hi, hne⟩ := st
    exact ⟨⟨old, k e (by simp) _ he⟩, hi.at fun o q => k it (by simp) o q, hne⟩
  item := by
    intro X hP hw hK hc i pins s σ H E I hf st hg
    subst hP hw hK
    obtain ⟨⟨old, he⟩, hit, hne⟩ := st
    obtain ⟨xs, x, hq, hx⟩ := hg
    obtain ⟨its, rv, p, hz⟩ := I.tuple hq
    obtain ⟨u, hu, ru⟩ := rv.get hx
    have pt : s.heap.IsTuple a its.toArray := p
    have hel : e < s.heap.objs.size := Heap.lt_size he
    have hil : it < s.heap.objs.size := by obtain ⟨_, q, _⟩ := hit; exact Heap.lt_size q
    have hea : e ≠ a := fun z => by
      subst z
      obtain ⟨o, e1, e2, _⟩ := pt
      rw [show s.heap.get? e = _ from he] at e1
      cases e1
      exact absurd (Value.type.inj e2) (by decide)
    have hia : a ≠ it := fun z => by
      subst z
      obtain ⟨o, e1, e2, _⟩ := pt
      obtain ⟨o2, e3, e4, _⟩ := hit
      rw [e1] at e3
      cases e3
      rw [e2] at e4
      exact absurd (Value.type.inj e4) (by decide)
    have hi : i < its.toArray.size := by
      have := (List.getElem?_eq_some_iff.mp hu).1
      simpa using this
    refine wpAny_pyNext_enum_itemC (Draws.tuple (show X.A.in1.handled = none from I.ok.hd hc) it a hia its.toArray) he ⟨hit, pt⟩ hi hne (by simp [hne, hea]) fun y h' tk hy ho hit' hT hsz hk => ?_
    have hyu : y = u := by
      have h1 : its[i]? = some y := by simpa using hy
      rw [hu] at h1
      exact (Option.some.inj h1).symm
    subst hyu
    refine ⟨_, rfl, wpAny_letOwnedTupleGo_enum (s := { s with heap := h', toks := tk + 1 }) ho fun h'' he' sb => ?_⟩
    have hT2 : h''.get? s.heap.objs.size = some { cls := .type "tuple", data := .seq #[.int i tk, y] } := (sb.2 _ (Nat.ne_of_gt hel)).trans hT
    have new : ObjOk X.prog X.w (upd H s.heap.objs.size (.tup [.int (i : Nat), x])) h'' s.heap.objs.size (.tup [.int (i : Nat), x]) :=
      ⟨by show 2 ≤ sizeLine; decide, [.int i tk, y], .cons ⟨_, rfl⟩ (.cons ru .nil), ⟨_, hT2, rfl, _, rfl⟩⟩
    have I1 : Inv X pins σ (upd H s.heap.objs.size (.tup [.int (i : Nat), x])) { s with heap := h'', toks := tk + 1 } :=
      I.turnedNew (ch := [e, it]) (fun b ob hb q => (sb.2 b (fun z => hb (by simp [z]))).trans (hk b ob (fun z => hb (by simp [z])) (fun z => hb (by simp [z])) q)) hf (Nat.le_refl _) new
    refine ⟨.ref s.heap.objs.size, _, I1, rfl, ⟨_, x, rfl, I.hok.fresh (Nat.le_refl _), rfl, fun ys hy => by rw [I.tuple_inj hy hq]; exact hx⟩, ⟨⟨y, ?_⟩, hit'.1.at fun o q => (sb.2 it (Ne.symm hne)).trans q, hne⟩, fun b hb => ?_⟩
    · have e1 : ((i + 1 : Nat) : Int) = (i : Int) + 1 := by omega
      rw [e1]; exact he'
    · have hb' : b < s.heap.objs.size := by
        rcases List.mem_cons.mp hb with z | z
        · rw [z]; exact hel
        · rw [List.mem_singleton.mp z]; exact hil
      rw [upd_ne (Nat.ne_of_lt hb')]
      exact (hf b hb).1
  done := by
    intro X hP hw hK hc i pins s σ H E I hf st hg
    subst hP hw hK
    obtain ⟨⟨old, he⟩, hit, hne⟩ := st
    obtain ⟨xs, hq, hx⟩ := hg
    obtain ⟨its, rv, p, hz⟩ := I.tuple hq
    obtain ⟨f0, f1, f2, f3, f4, f5⟩ := hf it (by simp)
    have hl := rv.length
    have pt : s.heap.IsTuple a its.toArray := p
    have hia : a ≠ it := fun z => by
      subst z
      obtain ⟨o, e1, e2, _⟩ := pt
      obtain ⟨o2, e3, e4, _⟩ := hit
      rw [e1] at e3
      cases e3
      rw [e2] at e4
      exact absurd (Value.type.inj e4) (by decide)
    have ei : i = its.toArray.size := by simp; omega
    subst ei
    exact wpAny_pyNext_enum_endD (Draws.tuple (show X.A.in1.handled = none from I.ok.hd hc) it a hia its.toArray) he ⟨hit, pt⟩ fun h' eb => ⟨rfl, I.turned (t' := s.toks) (fun b o hb q => eb b o hb q) f0 f1 f3 f4 f5⟩
  self := fun A i s Q E st h => let ⟨⟨_, he⟩, _⟩ := st; wpAny_pyIter_enum he h
def iEnumT (K : PySem.W.Frag) (ta : TA) : TI := fun σ H R => ta σ H fun vs H1 => ∃ a xs, vs = [.ref a] ∧ SqT K H1 a xs ∧ R (IteT K a) H1
theorem pi_enumT {X : Cx} {e : Expr} {ta : TA} {p pos tpos : Pos} {elts : List Expr} {kk : Nat} (hg : Gl X "enumerate") (hm : X.mg "enumerate" = none) (ha : PA X [e] ta) (hs : starEach [e] X.env = [(false, eval e X.env)] := by rfl) :
    PI X (.Tuple elts kk tpos) (.Call (.Name "enumerate" p) [e] [] pos) (iEnumT X.K ta) := by
  refine ⟨fun pins s σ H R I h => ?_⟩
  refine Call_ (ld_blt I hg hm boot_enumerate (PyProof.Rows.callWith_type1 (thn (ha.run pos pins s σ H _ I h) fun us s1 ⟨vs, H1, I1, r1, q1⟩ => ?_) hs rfl))
  obtain ⟨a, xs, ex, hq, q⟩ := q1
  subst ex
  cases r1 with
  | cons r rr =>
    cases rr; cases r
    obtain ⟨its, rv, p', hz⟩ := I1.tuple hq
    refine enum_beg1 (begins_tuple a its.toArray) (show s1.heap.IsTuple a its.toArray from p') fun h' he hit hk => wpAny_pyIter_enum he ?_
    have I2 : Inv X pins σ H1 { s1 with heap := h' } := I1.kept (t' := s1.toks) hk
    refine ⟨s1.heap.objs.size + 1, [s1.heap.objs.size + 1, s1.heap.objs.size], _, _, H1, rfl, I2, turn_enumT a (s1.heap.objs.size + 1) s1.heap.objs.size, ⟨⟨.none, he⟩, ⟨_, hit, rfl, rfl⟩, Nat.succ_ne_self _⟩, fun b hb => ?_, q⟩
    have hle : s1.heap.objs.size ≤ b := by
      rcases List.mem_cons.mp hb with z | z
      · rw [z]; exact Nat.le_add_right _ _
      · rw [List.mem_singleton.mp z]; exact Nat.le_refl _
    exact I1.fpOk hle (I1.hok.fresh hle)
section
variable {K : PySem.W.Frag} {δ : De} {G : GH} {t : TA}
theorem Wk.enumT {P : Addr → Prop} {G : GH} {H : Hp} {a : Addr} {vs : List V} {ds : List PyData} (q : SqT K H a vs) (w : DqAll K (Bk P G) H vs ds) : Wk K P G H (IteT K a) (numD ds) where
  go P1 G1 H1 i x hp s1 r1 e := by
    obtain ⟨y, ey, ex⟩ := numD_get.mp e
    subst ex
    obtain ⟨v, h1, h2⟩ := w.get ey
    have q1 : SqT K H1 a vs := s1.sqT q
    refine ⟨⟨vs, v, q1, h1⟩, fun v' H' ⟨T, z, e1, hT, e2, e3⟩ => ?_⟩
    subst e1; subst e2
    have e4 := e3 vs q1
    rw [h1] at e4
    cases e4
    exact new_pair r1 hT (.int _) (s1.dqP hp h2)
  stop G1 H1 s1 := ⟨vs, s1.sqT q, by rw [numD_length, w.length]⟩
theorem wi_enumT {Ψ : List PyData → GH → Prop} (h : WA K t δ G fun ds G1 => ∃ xs, ds = [.dat (.tuple xs)] ∧ Ψ (numD xs) G1) : WI K (iEnumT K t) δ G Ψ := fun P σ H rr s Q q =>
  h P σ H rr s _ fun vs ds G1 H1 s1 r1 v1 ⟨xs, e, k⟩ => by
    subst e
    cases v1 with
    | cons v1 v2 =>
      cases v2
      cases v1 with
      | tup q1 w => exact ⟨_, _, rfl, q1, q _ _ G1 H1 s1 r1 (.enumT q1 w) k⟩
end
end DL
/-! (Dl9) -/
namespace DL
open PySem PySem.Spec PyProof.Rows L2
/-! ### len(set(distinct texts)) -/
section
variable {pr : Program} {wo : World} {A : Around}
/-- the first i texts are in -/
def inS (zs : List Str) (i : Nat) : Str → Bool := fun q => (zs.take i).any (· == q)
theorem inS_no {zs : List Str} (nd : zs.Nodup) {i : Nat} (h : i < zs.length) : inS zs i zs[i] = false := by
  unfold inS
  rw [List.any_eq_false]
  intro y hy e
  have ey : y = zs[i] := eq_of_beq e
  subst ey
  obtain ⟨j, hj, ej⟩ := List.mem_iff_getElem.mp hy
  rw [List.getElem_take] at ej
  rw [List.length_take] at hj
  exact (List.pairwise_iff_getElem.mp nd) j i (by omega) h (by omega) ej
theorem inS_next {zs : List Str} {i : Nat} (h : i < zs.length) (q : Str) : (inS zs i q || decide (q = zs[i])) = inS zs (i + 1) q := by
  unfold inS
  rw [take_at (List.getElem?_eq_getElem h), List.any_append, List.any_cons, List.any_nil, Bool.or_false]
  congr 1
  by_cases e : q = zs[i]
  · rw [decide_eq_true e, e]; exact (beq_self_eq_true _).symm
  · rw [decide_eq_false e]; exact (beq_eq_false_iff_ne.mpr fun z => e z.symm).symm
theorem put_all {B I : Addr} {fp ch : List Addr} {Y : Array GenState → Array GenState → Prop} {R : Result → Shared → Prop} {Wh : Nat → Value → Prop} {At : Nat → Shared → Prop} {zs : List Str} (nd : zs.Nodup) (hz : zs.length < 1000)
    (W : WalksS pr wo A.in1 I fp ch Y zs.length Wh At) (out : B ∉ fp) (txt : ∀ i v, Wh i v → ∃ t, v = .str (zs.getD i Str.empty) t) :
    ∀ (left i : Nat) (s : Shared), i + left = zs.length → At i s → s.heap.SetOf (strKind pr wo) B (inS zs i) i →
      (∀ z, Moved (B :: ch) Y s z → z.heap.SetOf (strKind pr wo) B (inS zs zs.length) zs.length → R (.ok (.ret .none)) z) → codeAny (model pr wo) A (.builtin "set.update.loop" ⟨[.ref B, .ref I], []⟩) R s := by
  have outw : B ∉ ch := fun z => out (W.sub _ z)
  have wider : ∀ b ∈ ch, b ∈ B :: ch := fun b z => List.mem_cons_of_mem _ z
  have far : ∀ {h h2 : Heap} {f : Str → Bool} {n : Nat}, h.SetOf (strKind pr wo) B f n → (∀ o, h.get? B = some o → h2.get? B = some o) → h2.SetOf (strKind pr wo) B f n := fun ⟨o, es, ep, t, ho, more⟩ k => ⟨o, es, ep, t, k o ho, more⟩
  intro left
  induction left with
  | zero =>
    intro i s e at_ set_ fin
    have ei : i = zs.length := by omega
    subst ei
    refine codeAny_builtin F.entry_set_update_loop ?_
    (rw [Around.under_plainId F.plain_set_update_loop _])
    refine wpAny_bind (W.done s _ _ at_ fun z mv => ?_)
    exact wpAny_pure (fin z (mv.mono wider) (far set_ fun o y => mv.heap B _ outw y))
  | succ left ih =>
    intro i s e at_ set_ fin
    have hi : i < zs.length := by omega
    refine codeAny_builtin F.entry_set_update_loop ?_
    (rw [Around.under_plainId F.plain_set_update_loop _])
    refine wpAny_bind (W.item i s _ _ hi at_ fun v z wv at2 mv => ?_)
    obtain ⟨t, ev⟩ := txt i v wv
    have eg : zs.getD i Str.empty = zs[i] := by rw [List.getD_eq_getElem?_getD, List.getElem?_eq_getElem hi]; rfl
    rw [eg] at ev
    subst ev
    have set2 := far set_ fun o y => mv.heap B _ outw y
    refine wpAny_bind (wpAny_holding ?_)
    unfold setAdd
    refine wpAny_holding (wpAny_bind ((strKind pr wo).pyHash (k := zs[i]) (strKind_is _ _ _ _) ?_))
    refine wpAny_setAddHashed_of (knd := strKind pr wo) (s := { z with toks := z.toks + 1 }) (strKind_is _ _ _ _) rfl set2 (by unfold scanBound; omega) fun h2 sb set3 => ?_
    have set4 : h2.SetOf (strKind pr wo) B (inS zs (i + 1)) (i + 1) := SetOf_congr set3 (fun q => (inS_next hi q)) (by rw [inS_no nd hi]; rfl)
    refine wpAny_pure ⟨plainId_quiet F.plain_set_update_loop _, ih (i + 1) _ (by omega) (W.frame _ z _ _ at2 (Nat.le_succ _) fun b hb o y => ?_) set4 fun z2 mv2 set5 => ?_⟩
    · (rw [sb.2 b fun q : b = B => out (by rw [← q]; exact hb)]); exact y
    · refine fin z2 (Moved.trans W.gtrans ((mv.mono wider).then_heap (Nat.le_succ _) fun b o hb y => ?_) mv2) set5
      (rw [sb.2 b fun q : b = B => hb (by rw [q]; exact List.mem_cons_self)]); exact y
/-- the empty set just made -/
abbrev eSet (led : Bool) : Obj := { cls := .type "set", dict := none, data := .set #[] 0 (.fresh 0 0 led) }
variable {E : Value → Shared → Prop} {s : Shared}
/-- set.__init__ fills the new set from what a walk gives -/
theorem set_init {led : Bool} {l : Addr} {items : Array Value} {zs : List Str} (nd : zs.Nodup) (hz : zs.length < 1000) (hh : A.handled = none) (hl : s.heap.IsList l items) (hi : StrsAre items.toList zs) :
    wpAny (model pr wo) A.in1.in1 (Builtin.«set.__init__» ⟨[.ref s.heap.objs.size, .ref l], []⟩) (fun fin s2 => ∃ v, fin = .done (.ret v) ∧ v = .none ∧ ∃ h2 tk, s2 = { s with heap := h2, toks := tk } ∧ h2.SetOf (strKind pr wo) s.heap.objs.size (inS zs zs.length) zs.length ∧
      ∀ b o, b < s.heap.objs.size → s.heap.get? b = some o → h2.get? b = some o) E { s with heap := s.heap.push (eSet led) } := by
  obtain ⟨o, ho, hc, n, hd⟩ := hl
  obtain ⟨oc, od, dt, sl⟩ := o
  simp only at hc hd
  subst hc; subst hd
  have g0 : (s.heap.push (eSet led)).get? s.heap.objs.size = some (eSet led) := Heap.get?_push_size _ rfl
  have g1 : (s.heap.push (eSet led)).get? l = some { cls := .type "list", dict := od, data := .seq items n, slots := sl } := Heap.get?_push_of_some _ ho
  have L : (s.heap.push (eSet led)).IsList l items := ⟨_, g1, rfl, n, rfl⟩
  have u1 := F.sub_list_set
  have u2 := F.sub_list_frozenset
  have u3 : (Value.type "list" == Value.type "dict") = false := by decide
  unfold Builtin.«set.__init__» noKeywords Builtin.Frozenset.updateFrom
  generalize hpi : pyIter = it
  wp_walk
  subst hpi
  refine wpAny_pyIter_list L (wpAny_bind (wpAny_runValue ?_))
  have lt1 : l < s.heap.objs.size := Heap.lt_size ho
  have sz1 : (s.heap.push (eSet led)).objs.size = s.heap.objs.size + 1 := Heap.size_push ..
  have ne1 : l ≠ (s.heap.push (eSet led)).objs.size := by rw [sz1]; exact Nat.ne_of_lt (Nat.lt_succ_of_lt lt1)
  have out1 : s.heap.objs.size ∉ [(s.heap.push (eSet led)).objs.size, l] := by
    rw [sz1]
    intro z
    rcases List.mem_cons.mp z with z | z
    · exact Nat.ne_of_lt (Nat.lt_succ_self _) z
    · exact Nat.ne_of_gt lt1 (List.mem_singleton.mp z)
  have len1 : items.size = zs.length := by rw [← StrsAre.len_eq hi, Array.length_toList]
  have wk := (Walks.list (prog := pr) (w := wo) (A := A.in1.in1.in1) hh (s.heap.push (eSet led)).objs.size l ne1 items).toS
  rw [len1] at wk
  refine put_all nd hz wk out1 (fun i v hv => SS.strs_at hi i v (by rw [Array.getElem?_toList]; exact hv)) zs.length 0 _ (Nat.zero_add _) ⟨⟨_, Heap.get?_push_size _ rfl, rfl, rfl⟩, L.push _⟩ ?_ fun z mv sz => ?_
  · exact SetOf_congr ((setObjOf_fresh (knd := strKind pr wo) led).setOf (Heap.get?_push_of_some _ g0) (by unfold scanBound; omega)) (fun _ => rfl) rfl
  · obtain ⟨h2, g2, d2, t2, o2⟩ := z
    obtain rfl : g2 = s.gens := mv.gens
    obtain rfl : d2 = s.drawn := mv.drawn
    obtain rfl : o2 = s.os := mv.os
    refine wpAny_pure (wpAny_pure ⟨_, rfl, rfl, h2, t2, rfl, sz, fun b ob lb eb => ?_⟩)
    refine mv.heap b ob ?_ (Heap.get?_push_of_some _ (Heap.get?_push_of_some _ eb))
    rw [sz1]
    intro z
    rcases List.mem_cons.mp z with z | z
    · exact Nat.ne_of_lt lb z
    · exact Nat.ne_of_lt (Nat.lt_succ_of_lt lb) (List.mem_singleton.mp z)
set_option maxHeartbeats 4000000 in
theorem call_setS {l : Addr} {items : Array Value} {zs : List Str} {Q : Value → Shared → Prop} (nd : zs.Nodup) (hz : zs.length < 1000) (hh : A.handled = none) (hl : s.heap.IsList l items) (hi : StrsAre items.toList zs)
    (h : ∀ (h2 : Heap) (tk : Nat), h2.SetOf (strKind pr wo) s.heap.objs.size (inS zs zs.length) zs.length → (∀ b o, b < s.heap.objs.size → s.heap.get? b = some o → h2.get? b = some o) → Q (.ref s.heap.objs.size) { s with heap := h2, toks := tk }) :
    wpAny (model pr wo) A (call (.type "set") [.ref l]) Q E s := by
  obtain ⟨c0, t0, hmro⟩ := F.called_set.mro
  have y1 := F.called_set.made
  have y2 := F.called_set.sub
  refine wpAny_call (codeAny_of_tree (wpAny_pure ⟨Code.quiet_builtin _ (by decide +kernel), codeAny_builtin F.entry_type_call ?_⟩))
  (rw [Around.under_plain (weight_type_call_type "set" [.ref l] []) rfl])
  have y3 := F.called_set.notType
  have y4 := F.called_set.canCreate
  have y5 := F.typeCall_set_1 (.ref l)
  repeat (any_goals first | assumption | wp_step)
  refine codeAny_mono (code_set_new_1 (.ref l) (E := E) (Q₁ := fun ob z => ∃ led : Bool, ob = .ref s.heap.objs.size ∧ z = { s with heap := s.heap.push (eSet led) }) fun led => ⟨led, rfl, rfl⟩) fun r z hrz => ?_
  rcases r with e | fl
  · exact hrz
  cases fl with
  | ret ob =>
    obtain ⟨led, rfl, rfl⟩ := hrz
    have g0 : (s.heap.push (eSet led)).get? s.heap.objs.size = some (eSet led) := Heap.get?_push_size _ rfl
    have ty0 : Shared.TypeIs { s with heap := s.heap.push (eSet led) } (.ref s.heap.objs.size) "set" := ⟨_, g0, rfl⟩
    have y6 := F.called_set.init.lookup
    have y7 := F.called_set.init.bind (.ref s.heap.objs.size)
    repeat (any_goals first | assumption | wp_step)
    refine codeAny_mono (codeAny_call_builtin (R := wants (fun v z => v = .none ∧ ∃ h2 tk, z = { s with heap := h2, toks := tk } ∧ h2.SetOf (strKind pr wo) s.heap.objs.size (inS zs zs.length) zs.length ∧
      ∀ b o, b < s.heap.objs.size → s.heap.get? b = some o → h2.get? b = some o) E) F.called_set.init.plain F.entry_set_init (check_set_init_1 ty0 ?_)) fun r2 z2 hr2 => ?_
    · refine wpAny_mono (set_init nd hz hh hl hi) (fun fin z hq => ?_) (fun e z hq => hq)
      obtain ⟨v, rfl, rfl, more⟩ := hq
      exact ⟨rfl, more⟩
    · rcases r2 with e | fl2
      · exact hr2
      cases fl2 with
      | ret v =>
        obtain ⟨rfl, h2, tk, rfl, q1, q2⟩ := hr2
        repeat (any_goals first | assumption | wp_step)
        exact h _ _ q1 q2
      | _ => exact hr2.elim
  | _ => exact hrz.elim
end
def tLenSetT (K : PySem.W.Frag) (ta : TE) : TE := fun σ H Q => ta σ H fun x H1 => ∃ l, ∃ zs : List Str, x = .ref l ∧ SqL K H1 l (zs.map V.str) ∧ zs.Nodup ∧ zs.length < 1000 ∧ Q (.int zs.length) H1
theorem pe_lenSetT {X : Cx} {a : Expr} {ta : TE} {p p2 q pos : Pos} (hc : X.calm = true) (hg : Gl X "len") (hm : X.mg "len" = none) (hg2 : Gl X "set") (hm2 : X.mg "set" = none) (ha : PE X a ta)
    (na : starEach [a] X.env = (false, eval a X.env) :: starEach [] X.env := by rfl) : PE X (.Call (.Name "len" p) [.Call (.Name "set" p2) [a] [] q] [] pos) (tLenSetT X.K ta) := ⟨fun pins s σ H Q I h => by
  refine Call_ (ld_blt I hg hm boot_len (callWith_builtin1 (args_cons ?_ rfl) rfl rfl))
  refine Call_ (ld_blt I hg2 hm2 boot_set (callWith_type1 (args_cons (thn (ha.run pins s σ H _ I h) fun v s1 ⟨x, H1, I1, r1, q1⟩ => args_nil ?_) na) na rfl))
  obtain ⟨l, zs, rfl, hq, nd, hz, q1⟩ := q1
  cases r1
  obtain ⟨its, r, pl, _⟩ := I1.list hq
  refine call_setS nd hz (I1.ok.hd hc) pl.isList (by simpa using strsAre_of r) fun h2 tk z1 z2 => args_nil ?_
  obtain ⟨o, es, ep, t, ho, hex, hd, _, _, _, hf, hn⟩ := z1
  have I2 : Inv X pins σ H1 { s1 with heap := h2, toks := tk } := I1.kept fun b o e => z2 b o (Heap.lt_size e) e
  exact call_len_set ho hex hd hf (by rw [hn] <;> omega) ⟨.int zs.length, H1, I2.tok _, ⟨_, by rw [hn]⟩, q1⟩⟩
section
variable {K : PySem.W.Frag} {δ : De} {G : GH} {Φ : Dt → GH → Prop} {ta te : TE}
theorem we_lenSet (h : WE K ta δ G fun x G1 => ∃ zs : List Str, LsOf G1 x (zs.map PyData.str) ∧ zs.Nodup ∧ zs.length < 1000 ∧ Φ (.dat (.int zs.length)) G1) : WE K (tLenSetT K ta) δ G Φ := fun P σ H rr s Q q =>
  h P σ H rr s _ fun x dx G1 H1 s1 r1 v1 ⟨zs, l, nd, hz, k⟩ => by
    obtain ⟨a, ws, rfl, q1, w⟩ := l.at_ r1 v1
    have e := w.strs
    subst e
    exact ⟨a, zs, rfl, .inl q1, nd, hz, q _ _ G1 H1 s1 r1 (.int _) k⟩
end
end DL
/-! (Dl10) -/
namespace DL
open PySem PySem.Spec PyProof.Rows L2
/-! ### list(reversed(list)) -/
section
variable {pr : Program} {wo : World} {A : Around} {E : Value → Shared → Prop} {s : Shared}
theorem fill_rev {R : Result → Shared → Prop} {B it l : Addr} {items : Array Value} (hh : A.handled = none) (q1 : s.heap.IsRevIter it l ((items.size : Int) - 1)) (q2 : s.heap.IsList l items) (ne : l ≠ it) (hn : items.size ≤ sizeLine) (out : B ∉ [it, l])
    (q3 : s.heap.get? B = some { cls := .type "list", data := .seq #[] })
    (fin : ∀ (h2 : Heap) (tk : Nat) (acc : Array Value) (c : Nat), (∀ b o, b ∉ [B, it] → s.heap.get? b = some o → h2.get? b = some o) → h2.get? B = some { cls := .type "list", dict := none, data := .seq acc c, slots := #[] } →
      ItemsOf (fun i v => items[items.size - 1 - i]? = some v) acc items.size → R (.ok (.ret .none)) { s with heap := h2, toks := tk }) :
    wpAny (model pr wo) A.in1 (Builtin.«list.__init__» ⟨[.ref B, .ref it], []⟩)
      (fun e z => match e with | .done f => R (.ok f) z | .again c => c.quiet = true ∧ codeAny (model pr wo) A c R z) (fun e z => R (.error e) z) s := by
  have wk := (Walks.listRev (prog := pr) (w := wo) (A := A.in1) hh it l ne items).toS
  have bi : B ≠ it := fun e => out (by simp [e])
  unfold Builtin.«list.__init__»
  (show wpAny _ A.in1 (do let old ← Builtin.List.listItems (.ref B); Builtin.List.listUpdate (.ref B) (fun _ => #[]); letGo old.toList.reverse; Builtin.List.listExtendWith (.ref B) (.ref it) .none) _ _ s)
  refine wpAny_bind ?_
  unfold Builtin.List.listItems
  refine wpAny_bind (wpAny_seqItems q3 rfl (wpAny_pure (wpAny_bind (wpAny_updateSeq q3 rfl (wpAny_bind (wpAny_letGo ?_))))))
  have q4 := Heap.get?_update_self (Obj.mapSeq (fun _ => (#[] : Array Value))) q3 rfl
  have far : ∀ b o, b ≠ B → s.heap.get? b = some o → (s.heap.update B (Obj.mapSeq (fun _ => (#[] : Array Value)))).get? b = some o := fun b o hb e => (Heap.get?_update_other _ _ (Ne.symm hb)).trans e
  have q5 : (s.heap.update B (Obj.mapSeq (fun _ => (#[] : Array Value)))).IsRevIter it l ((items.size : Int) - 1) := q1.at fun o e => far it o (Ne.symm bi) e
  have q6 : (s.heap.update B (Obj.mapSeq (fun _ => (#[] : Array Value)))).IsList l items := q2.at fun o e => far l o (fun z => out (by simp [z])) e
  have ty : ({ s with heap := s.heap.update B (Obj.mapSeq (fun _ => (#[] : Array Value))) } : Shared).TypeIs (.ref it) "list_reverseiterator" := Heap.IsRevIter.typeIs (s := { s with heap := s.heap.update B (Obj.mapSeq (fun _ => (#[] : Array Value))) }) q5
  have nsame : Builtin.List.listSameRef (.ref B) (.ref it) = false := by simp [Builtin.List.listSameRef, bi]
  unfold Builtin.List.listExtendWith
  refine wpAny_bind (wpAny_typeOf ty ?_)
  (rw [if_neg (by rw [nsame]; decide)])
  refine wpAny_bind (wpAny_pyIter_revIter (s := { s with heap := s.heap.update B (Obj.mapSeq (fun _ => (#[] : Array Value))) }) q5 (wpAny_bind (wpAny_holding ?_)))
  unfold Builtin.List.listLengthHint
  refine wpAny_bind (wpAny_specialOf ty RT.nolen_lri ?_)
  (show wpAny _ A.in1 (specialOf (Value.ref it) (Str.ofString "__length_hint__") >>= _) _ _ _)
  refine wpAny_bind (wpAny_specialOf ty RT.hint_lri ?_)
  generalize eid : ("list_reverseiterator.__length_hint__" : String) = idx
  wp_delta
  (rw [show splitId idx = some ("list_reverseiterator", "__length_hint__") from by subst eid; decide +kernel])
  subst eid
  refine wpAny_bind (wpAny_isInstance (b := true) ty (by rw [isSubtype_type]; kernel_rfl) (wpAny_pure ?_))
  (rw [if_neg (by decide)])
  have e0 : (items.size : Int) - 1 - ((0 : Nat) : Int) = (items.size : Int) - 1 := by omega
  refine wpAny_pure ⟨plainId_quiet F.plain_extend_loop _, codeAny_extend_loopS wk hn B out _ items.size 0 _ _ _ rfl (Nat.zero_le _) ⟨Nat.zero_le _, by rw [e0]; exact q5, q6⟩ q4 (ItemsOf.nil _) fun z acc c mv hb hacc => ?_⟩
  (rw [Moved.eq_with mv])
  exact fin z.heap z.toks acc c (fun b o hbb e => mv.heap b o hbb (far b o (fun y => hbb (by simp [y])) e)) hb hacc
theorem call_listRev {it l : Addr} {items : Array Value} {Q : Value → Shared → Prop} (hh : A.handled = none) (q1 : s.heap.IsRevIter it l ((items.size : Int) - 1)) (q2 : s.heap.IsList l items) (ne : l ≠ it) (hn : items.size ≤ sizeLine)
    (fin : ∀ (h2 : Heap) (tk : Nat) (acc : Array Value) (c : Nat), (∀ b o, b ≠ it → s.heap.get? b = some o → h2.get? b = some o) → h2.get? s.heap.objs.size = some { cls := .type "list", dict := none, data := .seq acc c, slots := #[] } →
      ItemsOf (fun i v => items[items.size - 1 - i]? = some v) acc items.size → Q (.ref s.heap.objs.size) { s with heap := h2, toks := tk }) :
    wpAny (model pr wo) A (call (.type "list") [.ref it]) Q E s := by
  obtain ⟨oi, hoi, _⟩ := id q1
  obtain ⟨ol, hol, _⟩ := id q2
  have out : s.heap.objs.size ∉ [it, l] := fun z => by
    rcases List.mem_cons.mp z with z | z
    · exact Nat.ne_of_gt (Heap.lt_size hoi) z
    · exact Nat.ne_of_gt (Heap.lt_size hol) (List.mem_singleton.mp z)
  have k0 : ∀ b o, s.heap.get? b = some o → (s.heap.push { cls := .type "list", data := .seq #[] }).get? b = some o := fun b o e => Heap.get?_push_of_some _ e
  refine callType_codes (Q₁ := fun ob z => ob = .ref s.heap.objs.size ∧ z = { s with heap := s.heap.push { cls := .type "list", data := .seq #[] } }) F.called_list (F.typeCall_list_1 _) F.entry_list_init (code_list_new _ ⟨rfl, rfl⟩) fun ob z hz => ?_
  obtain ⟨rfl, rfl⟩ := hz
  have g0 : (s.heap.push { cls := .type "list", data := .seq #[] }).get? s.heap.objs.size = some { cls := .type "list", data := .seq #[] } := Heap.get?_push_size _ rfl
  refine ⟨⟨_, g0, rfl⟩, F.args_list_init_2 _ _, fill_rev (A := A.in1) (s := { s with heap := s.heap.push { cls := .type "list", data := .seq #[] } }) hh (q1.at fun o e => k0 _ o e) (q2.at fun o e => k0 _ o e) ne hn out g0 fun h2 tk acc c k1 k2 k3 => ?_⟩
  refine ⟨rfl, fin h2 tk acc c (fun b o hb e => k1 b o (fun z => ?_) (k0 b o e)) k2 k3⟩
  rcases List.mem_cons.mp z with z | z
  · exact Nat.ne_of_lt (Heap.lt_size e) z
  · exact hb (List.mem_singleton.mp z)
end
def tListRev (K : PySem.W.Frag) (te : TE) : TE := fun σ H Q => te σ H fun v H1 => ∃ (a : Addr) (xs : List V), v = .ref a ∧ SqL K H1 a xs ∧ ∀ q, H1 q = none → Q (.ref q) (upd H1 q (.lst xs.reverse))
theorem pe_listRev {X : Cx} {e : Expr} {te : TE} {p p2 pos pos2 : Pos} (hc : X.calm = true) (hg : Gl X "list") (hm : X.mg "list" = none) (hg2 : Gl X "reversed") (hm2 : X.mg "reversed" = none) (he : PE X e te)
    (hs : starEach [e] X.env = (false, eval e X.env) :: starEach [] X.env := by rfl)
    (hs2 : starEach [.Call (.Name "reversed" p2) [e] [] pos2] X.env = (false, eval (.Call (.Name "reversed" p2) [e] [] pos2) X.env) :: starEach [] X.env := by rfl) :
    PE X (.Call (.Name "list" p) [.Call (.Name "reversed" p2) [e] [] pos2] [] pos) (tListRev X.K te) := ⟨fun pins s σ H Q I h => by
  refine Call_ (ld_blt I hg hm boot_list (callWith_type1 (args_cons (Call_ (ld_blt I hg2 hm2 boot_reversed (callWith_type1 (args_cons (thn (he.run pins s σ H _ I h) fun u s1 ⟨v, H1, I1, r1, q1⟩ => args_nil ?_) hs) hs rfl))) hs2) hs2 rfl))
  obtain ⟨a, xs, ev, hq, q⟩ := q1
  subst ev
  cases r1
  obtain ⟨its, rv, p', hz⟩ := I1.list hq
  refine call_reversed_list p'.isList (args_nil ?_)
  have lt1 : a < s1.heap.objs.size := by
    obtain ⟨o, ho, _⟩ := p'.isList
    exact Heap.lt_size ho
  have k0 : ∀ b o, s1.heap.get? b = some o → (s1.heap.push (revObj a ((its.toArray.size : Int) - 1))).get? b = some o := fun b o e => Heap.get?_push_of_some _ e
  have I2 : Inv X pins σ H1 { s1 with heap := s1.heap.push (revObj a ((its.toArray.size : Int) - 1)) } := I1.kept (t' := s1.toks) k0
  have hn : its.toArray.size ≤ sizeLine := by rw [List.size_toArray, ← rv.length]; exact hz
  refine call_listRev (s := { s1 with heap := s1.heap.push (revObj a ((its.toArray.size : Int) - 1)) }) (I1.ok.hd hc) ⟨_, Heap.get?_push_size _ rfl, rfl, rfl⟩ (p'.isList.push _) (Nat.ne_of_lt lt1) hn fun h2 tk acc c k1 k2 k3 => ?_
  have hT : s1.heap.objs.size ≤ (s1.heap.push (revObj a ((its.toArray.size : Int) - 1))).objs.size := by rw [Heap.size_push]; exact Nat.le_succ _
  have fr : H1 (s1.heap.push (revObj a ((its.toArray.size : Int) - 1))).objs.size = none := I1.hok.fresh hT
  refine ⟨.ref _, upd H1 (s1.heap.push (revObj a ((its.toArray.size : Int) - 1))).objs.size (.lst xs.reverse), I1.turnedNew (ch := [s1.heap.objs.size]) (fun b o hb e => k1 b o (fun z => hb (by simp [z])) (k0 b o e)) (fun b hb => ?_) hT ⟨by rw [List.length_reverse]; exact hz, acc.toList, c, RT.vals_rev rv k3, by rw [Array.toArray_toList]; exact k2⟩, rfl, q _ fr⟩
  rw [List.mem_singleton.mp hb]
  exact I1.fpOk (Nat.le_refl _) (I1.hok.fresh (Nat.le_refl _))⟩
section
variable {K : PySem.W.Frag} {δ : De} {G : GH} {Φ : Dt → GH → Prop} {te : TE}
/-- the draws turned round: a new list of ints -/
theorem we_listRevN (h : WE K te δ G fun x G1 => ∃ a, x = .obj a ∧ G1 a = some .nums ∧ ∀ p, G1 p = none → Φ (.obj p) (updG G1 p .nums)) : WE K (tListRev K te) δ G Φ := fun P σ H rr s Q q =>
  h P σ H rr s _ fun v d G1 H1 s1 r1 v1 ⟨a, e, g, k⟩ => by
    subst e
    cases v1
    obtain ⟨ns, q1⟩ := r1.ob a _ g
    refine ⟨a, ns.map V.int, rfl, .inl (.inl q1), fun p hp => ?_⟩
    rw [← List.map_reverse]
    have s2 : Stab G1 H1 (updG G1 p .nums) (upd H1 p (.lst (ns.reverse.map V.int))) := .newG r1 hp
    exact q _ (.obj p) _ _ (s1.trans s2) (r1.newG hp ⟨ns.reverse, upd_same⟩) rfl (k p (r1.freshG hp))
end
end DL
/-! (Dl11) -/
namespace DL
open PySem PySem.Spec PyProof.Rows L2
section
variable {K : PySem.W.Frag} {δ : De} {G : GH} {Φ : Dt → GH → Prop} {te td : TE} {E : DE} {ts : TS}
theorem we_listRevL (h : WE K te δ G fun x G1 => ∃ (a : Addr) (ns : List Int), x = .obj a ∧ G1 a = some (.lst (ns.map PyData.int)) ∧ ∀ p, G1 p = none → Φ (.obj p) (updG G1 p .nums)) : WE K (tListRev K te) δ G Φ := fun P σ H rr s Q q =>
  h P σ H rr s _ fun v d G1 H1 s1 r1 v1 ⟨a, ns, e, g, k⟩ => by
    subst e
    cases v1
    obtain ⟨vs, q1, w⟩ := r1.ob a _ g
    have e := w.nums
    subst e
    refine ⟨a, ns.map V.int, rfl, .inl (.inl q1), fun p hp => ?_⟩
    rw [← List.map_reverse]
    have s2 : Stab G1 H1 (updG G1 p .nums) (upd H1 p (.lst (ns.reverse.map V.int))) := .newG r1 hp
    exact q _ (.obj p) _ _ (s1.trans s2) (r1.newG hp ⟨ns.reverse, upd_same⟩) rfl (k p (r1.freshG hp))
theorem dqa_nums {B : Addr → Prop} {H : Hp} : ∀ ns : List Int, DqAll K B H (ns.map V.int) (ns.map PyData.int)
  | [] => .nil
  | n :: ns => .cons (.int n) (dqa_nums ns)
/-- the same heap, an object told otherwise -/
theorem Stab.tell {H : Hp} {a : Addr} {o o' : GO} (g : G a = some o) : Stab G H (updG G a o') H := ⟨fun _ _ h => h, fun b u n h => ⟨h, by
  have : b ≠ a := fun z => by subst z; rw [n] at g; cases g
  rw [updG_ne this]; exact n⟩⟩
theorem R.tell {P : Addr → Prop} {H : Hp} {a : Addr} {o o' : GO} (r : R K P G H) (g : G a = some o) (new : OR K (Bk P (updG G a o')) H a o') : R K P (updG G a o') H := by
  refine ⟨fun b w e => ?_, fun b p => ?_⟩
  · by_cases hb : b = a
    · subst hb; rw [updG_same] at e; cases e; exact new
    · rw [updG_ne hb] at e
      exact (Stab.tell (H := H) g).or (r.ob b w e) rfl
  · have hb : b ≠ a := fun z => by subst z; rw [(r.pr b p).1] at g; cases g
    rw [updG_ne hb]; exact r.pr b p
theorem ws_openN {a : Addr} (g : G a = some .nums) (h : ∀ ns : List Int, WS K ts δ (updG G a (.lst (ns.map PyData.int))) E) : WS K ts δ G E := fun P σ H r s D e => by
  obtain ⟨ns, q⟩ := r.ob a _ g
  have st : Stab G H (updG G a (.lst (ns.map PyData.int))) H := .tell g
  exact h ns P σ H (r.tell g ⟨_, q, dqa_nums ns⟩) (st.sr s) D (e.later st)
theorem ws_closeN {a : Addr} (h : WS K ts δ G { nx := fun δ' G' => ∃ ns : List Int, G' a = some (.lst (ns.map PyData.int)) ∧ E.nx δ' (updG G' a .nums), rt := fun d G' => ∃ ns : List Int, G' a = some (.lst (ns.map PyData.int)) ∧ E.rt d (updG G' a .nums) }) : WS K ts δ G E := fun P σ H r s D e => by
  have key : ∀ (G' : GH) (H' : Hp) (ns : List Int), R K P G' H' → G' a = some (.lst (ns.map PyData.int)) → Stab G' H' (updG G' a .nums) H' ∧ R K P (updG G' a .nums) H' := fun G' H' ns r' g => by
    obtain ⟨vs, q, w⟩ := r'.ob a _ g
    have e := w.nums
    subst e
    exact ⟨.tell g, r'.tell g ⟨ns, q⟩⟩
  exact h P σ H r s D ⟨fun σ' δ' G' H' s1 r1 z ⟨ns, g, k⟩ => by
      obtain ⟨s2, r2⟩ := key G' H' ns r1 g
      exact e.nx _ _ _ _ (s1.trans s2) r2 (s2.sr z) k,
    fun v d G' H' s1 r1 z ⟨ns, g, k⟩ => by
      obtain ⟨s2, r2⟩ := key G' H' ns r1 g
      exact e.rt _ _ _ _ (s1.trans s2) r2 (s2.vr z) k, fun _ _ _ _ _ _ _ k => k.elim, fun _ _ _ _ _ _ _ k => k.elim⟩
theorem we_popL (h : WE K td δ G fun x G1 => ∃ a ys y, x = .obj a ∧ G1 a = some (.lst (ys ++ [y])) ∧ Φ (.dat y) (updG G1 a (.lst ys))) : WE K (tBM0 K "list" rPop td) δ G Φ := fun P σ H rr s Q q =>
  h P σ H rr s _ fun x dx G1 H1 s1 r1 v1 ⟨a, ys, y, e1, g, k⟩ => by
    subst e1
    cases v1
    obtain ⟨ws, q1, w⟩ := r1.ob a _ g
    have l : ws.length = ys.length + 1 := by rw [w.length]; simp
    obtain ⟨v, h1, h2⟩ := w.get (i := ys.length) (d := y) (by simp)
    have w2 : DqAll K (Bk P G1) H1 ws.dropLast ys := by
      have := w.take ys.length
      rw [List.take_left] at this
      rw [List.dropLast_eq_take, l]
      exact this
    obtain ⟨s2, r2⟩ := put_lst r1 g w2
    exact ⟨lst_tyV q1, a, ws, v, rfl, rfl, q1, by rw [l]; exact h1, q v (.dat y) _ _ (s1.trans s2) r2 (s2.dq h2) k⟩
/-- two clauses, no tests, the inner over range(n) -/
theorem we_lc2 {wi : TI} {t : TA} {g g1 : TG} {vs vs1 : List Nat} (h : WI K wi δ G fun xs G1 => ∃ (ts : List Nat) (I : Nat → List PyData → GH → Prop), (∀ j ∈ ts, j ∈ vs) ∧ I 0 [] G1 ∧
      (∀ (i : Nat) (x : PyData) (acc : List PyData) (G' : GH), xs[i]? = some x → I i acc G' → WG K g ts (.dat x) (wipeD δ vs) G' fun δ2 G2 => WA K t δ2 G2 fun ds G3 => ∃ (n : Nat) (ts1 : List Nat) (J : Nat → List PyData → GH → Prop), ds = [.dat (.int (n : Nat))] ∧ n < 1000000 ∧ (∀ j ∈ ts1, j ∈ vs1) ∧ J 0 acc G3 ∧
        (∀ (j : Nat) (acc : List PyData) (G' : GH), j < n → J j acc G' → WG K g1 ts1 (.dat (.int (j : Nat))) (wipeD δ2 vs1) G' fun δ3 G4 => WE K te δ3 G4 fun z G5 => ∃ d, z = .dat d ∧ acc.length < 1000000 ∧ J (j + 1) (acc ++ [d]) G5) ∧
        ∀ (acc : List PyData) (G' : GH), J n acc G' → I (i + 1) acc G') ∧
      ∀ (acc : List PyData) (G' : GH), I xs.length acc G' → Φ (.dat (.list acc)) G') : WE K (tLc2 wi g tYes (iRng1 t) g1 tYes te vs vs1) δ G Φ := fun P σ H rr s Q q =>
  h P σ H rr s _ fun J xs G1 H1 s1 r1 wk ⟨ts, I, hts, h0, hs, hd⟩ D hD => by
    have sr1 := wipe_sr (s1.sr s) vs
    refine ⟨fun i m H' => m = xs.length - i ∧ i ≤ xs.length ∧ ∃ acc av G', I i acc G' ∧ R K (Pr P D) G' H' ∧ H' D = some (.lst av) ∧ DqAll K (Bk (Pr P D) G') H' av acc ∧ Stab G1 H1 G' H',
      ⟨_, rfl, Nat.zero_le _, [], [], G1, h0, r1.priv hD, upd_same, .nil, .new r1 hD⟩, ?_⟩
    rintro i m H' ⟨rfl, hi, acc, av, G', hI, r', hD', wa, st'⟩
    by_cases hlt : i < xs.length
    · have gd : G' D = none := (r'.pr D (.inr rfl)).1
      have wg := wk.go (Pr P D) G' H' i xs[i] (Pr.ok hD) st' r' (List.getElem?_eq_getElem hlt)
      refine .inr ⟨wg.1, fun H2 => ∃ acc av G2, I (i + 1) acc G2 ∧ R K (Pr P D) G2 H2 ∧ H2 D = some (.lst av) ∧ DqAll K (Bk (Pr P D) G2) H2 av acc ∧ Stab G1 H1 G2 H2,
        fun H2 ⟨acc, av, G2, a, b, c, d, e⟩ => ⟨xs.length - (i + 1), by omega, rfl, hlt, acc, av, G2, a, b, c, d, e⟩, fun x H2 y => ?_⟩
      obtain ⟨s2, r2, d2⟩ := wg.2 x H2 y
      have srP : ∀ G5 H5, Stab G1 H1 G5 H5 → SR K (Bk (Pr P D) G5) H5 (wipe σ vs) (wipeD δ vs) := fun G5 H5 s5 => ⟨sr1.1, fun j dj e => by
        obtain ⟨v, e1, z⟩ := sr1.2 j dj e
        exact ⟨v, e1, s5.vrP (Pr.ok hD) z⟩⟩
      refine hs i xs[i] acc G' (List.getElem?_eq_getElem hlt) hI (Pr P D) _ H2 x r2 (srP _ _ (st'.trans s2)) d2 _ fun σ3 δ3 G3 H3 s3 r3 sr3 ag k => ?_
      refine ⟨by rw [wipe_agr ag hts, wipe_wipe], ?_⟩
      simp only [tYes, if_true]
      refine k (Pr P D) σ3 H3 r3 sr3 _ fun us ds G4 H4 s4 r4 v4 ⟨n, ts1, Jv, e4, hn, hts1, j0, js, jd⟩ => ?_
      subst e4
      cases v4 with
      | cons v4 v5 =>
        cases v5; cases v4
        have st4 := ((st'.trans s2).trans s3).trans s4
        have keepD := (s2.trans s3).trans s4
        have hD4 := keepD.keep D _ gd hD'
        have wa4 := keepD.dqA wa
        refine ⟨(n : Nat), rfl, by omega, by omega, ?_⟩
        have en : ((n : Nat) : Int).toNat = n := Int.toNat_natCast n
        rw [en]
        refine ⟨fun j k H' => k = n - j ∧ j ≤ n ∧ ∃ acc av G', Jv j acc G' ∧ R K (Pr P D) G' H' ∧ H' D = some (.lst av) ∧ DqAll K (Bk (Pr P D) G') H' av acc ∧ Stab G1 H1 G' H' ∧ SR K (Bk (Pr P D) G') H' σ3 δ3,
          ⟨_, rfl, Nat.zero_le _, acc, av, G4, j0, r4, hD4.1, wa4, st4, s4.sr sr3⟩, ?_⟩
        rintro j k H5 ⟨rfl, hj, acc, av, G5, hJ, r5, hD5, wa5, st5, sr5⟩
        by_cases hjn : j < n
        · have gd5 : G5 D = none := (r5.pr D (.inr rfl)).1
          refine .inr ⟨hjn, fun H' => ∃ acc av G', Jv (j + 1) acc G' ∧ R K (Pr P D) G' H' ∧ H' D = some (.lst av) ∧ DqAll K (Bk (Pr P D) G') H' av acc ∧ Stab G1 H1 G' H' ∧ SR K (Bk (Pr P D) G') H' σ3 δ3,
            fun H' ⟨acc, av, G', a, b, c, d, e, f⟩ => ⟨n - (j + 1), by omega, rfl, hjn, acc, av, G', a, b, c, d, e, f⟩, fun x H' ⟨y1, y2⟩ => ?_⟩
          subst y1; subst y2
          have e0 : (0 : Int) + (j : Nat) = (j : Nat) := by omega
          rw [e0]
          refine js j acc G5 hjn hJ (Pr P D) _ H' (.int (j : Nat)) r5 (wipe_sr sr5 vs1) (.int _) _ fun σ6 δ6 G6 H6 s6 r6 sr6 ag6 k6 => ?_
          refine ⟨by rw [wipe_agr ag6 hts1, wipe_wipe], ?_⟩
          have hD6 := s6.keep D _ gd5 hD5
          have wa6 := s6.dqA wa5
          refine k6 (Pr P D) σ6 H6 r6 sr6 _ fun v dv G7 H7 s7 r7 v7 ⟨d, ed, hl, k7⟩ => ?_
          subst ed
          have hD7 := s7.keep D _ hD6.2 hD6.1
          have wa7 := s7.dqA wa6
          obtain ⟨r8, dq8, da8⟩ := priv_write (ys := av ++ [v]) r7 hD7.1
          have sr7 := s7.sr (s6.sr sr5)
          refine ⟨av, hD7.1, Nat.lt_of_lt_of_le (show av.length < 1000000 by rw [wa7.length]; exact hl) (line6 (Nat.le_refl _)), acc ++ [d], av ++ [v], G7, k7, r8, upd_same, (da8 _ _ wa7).append (.cons (dq8 _ _ v7) .nil), ((st5.trans s6).trans s7).privW hD, sr7.1, fun q dq e => ?_⟩
          obtain ⟨u, e1, z⟩ := sr7.2 q dq e
          refine ⟨u, e1, ?_⟩
          cases dq with
          | dat dd => exact dq8 _ _ z
          | obj a => exact z
        · have ej : j = n := by omega
          subst ej
          exact .inl ⟨Nat.le_refl _, acc, av, G5, jd acc G5 hJ, r5, hD5, wa5, st5⟩
    · have ei : i = xs.length := by omega
      subst ei
      refine .inl ⟨wk.stop G' H' st', q _ _ G' H' (s1.trans st') r'.less ?_ (hd acc G' hI)⟩
      have gd : G' D = none := (r'.pr D (.inr rfl)).1
      refine .lst (fun b => ?_) (.inl hD') wa.less
      rcases b with b | ⟨o, e⟩
      · exact r1.freshP hD b
      · rw [gd] at e; cases e
end
end DL
/-! (Dl12) -/
namespace DL
open PySem PySem.Spec PyProof.Rows L2
section
variable {K : PySem.W.Frag} {δ : De} {G : GH} {Φ : Dt → GH → Prop} {te td : TE} {E : DE} {tb : TS} {g : TG} {wi : TI} {vs : List Nat} {tt : TT}
/-- [e for x in xs], nothing written -/
theorem we_map (h : WI K wi δ G fun xs G1 => ∃ (ts : List Nat) (ys : List PyData), (∀ j ∈ ts, j ∈ vs) ∧ xs.length ≤ 1000000 ∧ ys.length = xs.length ∧
      (∀ (i : Nat) (x y : PyData), xs[i]? = some x → ys[i]? = some y → WG K g ts (.dat x) (wipeD δ vs) G1 fun δ2 G2 => WE K te δ2 G2 fun z G3 => z = .dat y ∧ G3 = G1) ∧ Φ (.dat (.list ys)) G1) : WE K (tLc wi g tYes te vs) δ G Φ :=
  we_lc fun P σ H r s Q q => h P σ H r s Q fun J xs G1 H1 s1 r1 wk ⟨ts, ys, h1, h2, h3, h4, h5⟩ => q J xs G1 H1 s1 r1 wk
    ⟨ts, fun i acc G' => acc = ys.take i ∧ G' = G1, h2, h1, ⟨rfl, rfl⟩, fun i x acc G' hx hl ⟨e1, e2⟩ => by
      subst e1; subst e2
      have hi : i < ys.length := by rw [h3]; exact (List.getElem?_eq_some_iff.mp hx).1
      have hy : ys[i]? = some ys[i] := List.getElem?_eq_getElem hi
      intro P σ H v r s d Q q
      exact h4 i x ys[i] hx hy P σ H v r s d Q fun σ' δ' G' H' s1 r1 z ag k => q σ' δ' G' H' s1 r1 z ag (wt_yes ⟨fun _ => k.mono fun z G3 ⟨e1, e2⟩ => ⟨_, e1, by rw [take_at hy], e2⟩, fun e => by cases e⟩),
    fun acc G' _ ⟨e1, e2⟩ => by
      subst e1; subst e2
      rw [← h3, List.take_length]
      exact h5⟩
/-- [e for x in xs if t], nothing written -/
theorem we_filt (h : WI K wi δ G fun xs G1 => ∃ (ts : List Nat) (φ : PyData → Option PyData), (∀ j ∈ ts, j ∈ vs) ∧ xs.length ≤ 1000000 ∧
      (∀ (i : Nat) (x : PyData), xs[i]? = some x → WG K g ts (.dat x) (wipeD δ vs) G1 fun δ2 G2 => WT K tt δ2 G2 fun b G3 => (b = true → WE K te δ2 G3 fun z G4 => G4 = G1 ∧ ∃ y, z = .dat y ∧ φ x = some y) ∧ (b = false → φ x = none ∧ G3 = G1)) ∧
      Φ (.dat (.list (xs.filterMap φ))) G1) : WE K (tLc wi g tt te vs) δ G Φ :=
  we_lc fun P σ H r s Q q => h P σ H r s Q fun J xs G1 H1 s1 r1 wk ⟨ts, φ, h1, h2, h4, h5⟩ => q J xs G1 H1 s1 r1 wk
    ⟨ts, fun i acc G' => acc = (xs.take i).filterMap φ ∧ G' = G1, h2, h1, ⟨rfl, rfl⟩, fun i x acc G' hx hl ⟨e1, e2⟩ => by
      subst e1; subst e2
      intro P σ H v r s d Q q
      refine h4 i x hx P σ H v r s d Q fun σ' δ' G' H' s1 r1 z ag k => q σ' δ' G' H' s1 r1 z ag (k.mono fun b G3 ⟨k1, k2⟩ => ⟨fun e => (k1 e).mono fun z G4 ⟨e1, y, e2, e3⟩ => ⟨y, e2, ?_, e1⟩, fun e => ⟨?_, (k2 e).2⟩⟩)
      · rw [take_at hx, List.filterMap_append, List.filterMap_cons, e3]; rfl
      · rw [take_at hx, List.filterMap_append, List.filterMap_cons, (k2 e).1]; simp,
    fun acc G' _ ⟨e1, e2⟩ => by
      subst e1; subst e2
      rw [List.take_length]
      exact h5⟩
end
theorem map_get {α β : Type} {f : α → β} {xs : List α} {i : Nat} {y : β} (h : (xs.map f)[i]? = some y) : ∃ x, xs[i]? = some x ∧ f x = y := by
  rw [List.getElem?_map] at h
  cases e : xs[i]? with
  | none => rw [e] at h; cases h
  | some x => rw [e] at h; exact ⟨x, rfl, Option.some.inj h⟩
end DL
/-! (Dl13) -/
namespace DL
open PySem PySem.Spec PyProof.Rows L2
/-! ### the rules that name K, K given (inside a comprehension's block the context's own K would name the block) -/
section
variable {X : Cx} (K : PySem.W.Frag)
theorem k_ix (hK : X.K = K := by rfl) : IxR X (rIx K) := by subst hK; exact ix_seq
theorem k_slL (hK : X.K = K := by rfl) : SlR X (rSlL K) := by subst hK; exact sl_list
theorem k_slT (hK : X.K = K := by rfl) : SlR X (rSlA K) := by subst hK; exact sl_tupA
theorem k_in (hK : X.K = K := by rfl) : OpR X (compareOp .In) (rIn K false) := by subst hK; exact op_in_seq
theorem k_notin (hK : X.K = K := by rfl) : OpR X (compareOp .NotIn) (rIn K true) := by subst hK; exact op_notIn_seq
theorem k_inD {k : Nat} (hr : Room k X.A) (hK : X.K = K := by rfl) : OpR X (compareOp .In) (rInD K) := by subst hK; exact op_inD (by have := hr.un; omega)
theorem k_notinD {k : Nat} (hr : Room k X.A) (hK : X.K = K := by rfl) : OpR X (compareOp .NotIn) (rNotInD K) := by subst hK; exact op_notInD (by have := hr.un; omega)
theorem k_eqD {k : Nat} (hr : Room k X.A) (hK : X.K = K := by rfl) : OpR X (compareOp .Eq) (rEqD K) := by subst hK; exact op_eqD hr.units
theorem k_neD {k : Nat} (hr : Room k X.A) (hK : X.K = K := by rfl) : OpR X (compareOp .NotEq) (rNeD K) := by subst hK; exact op_neD hr.units
theorem k_add (hK : X.K = K := by rfl) : OpR X (binaryOp .Add) (rAddU K) := by subst hK; exact op_addU
theorem k_len (hK : X.K = K := by rfl) : CallR X (.builtin "len") (rLenU K) := by subst hK; exact call_lenU
theorem k_list (hK : X.K = K := by rfl) : CallR X (.type "list") (rListU K) := by subst hK; exact call_listU
theorem k_tup (hK : X.K = K := by rfl) : CallR X (.type "tuple") (rTupU K) := by subst hK; exact call_tupU
theorem k_all (hc : X.calm = true) (hK : X.K = K := by rfl) : CallR X (.builtin "all") (rAll K) := by subst hK; exact cr_all hc
theorem k_any (hc : X.calm = true) (hK : X.K = K := by rfl) : CallR X (.builtin "any") (rAny K) := by subst hK; exact cr_any hc
theorem k_sum (hc : X.calm = true) (hK : X.K = K := by rfl) : CallR X (.builtin "sum") (rSum K) := by subst hK; exact cr_sum hc
theorem k_index {k : Nat} (hr : Room k X.A) (hK : X.K = K := by rfl) : MtR X "list.index" (rIndexD K) := by subst hK; exact mt_indexD (by have := hr.un; omega)
variable {k : Nat} {f C : Addr} {ps : List Str} {dvs : List V} {F : FT} {x m : Str} {p p2 pos pos2 apos tpos : Pos} {e e2 o : Expr} {es elts : List Expr} {t : TA} {ta te to tl : TE} {T : String} {tg : Expr} {kk : Nat}
theorem k_isi (hg : Gl X "isinstance") (hm : X.mg "isinstance" = none) (hg2 : Gl X x) (hm2 : X.mg x = none) (hv : bootBuiltins x = some (.type T)) (he : PE X e te) (hn : x ≠ "__name__" := by decide) (hd : (x == ("__debug__" : Str)) = false := by decide)
    (h1 : starEach [e, .Name x p2] X.env = (false, eval e X.env) :: starEach [.Name x p2] X.env := by rfl) (h2 : (backTo pos (starEach [.Name x p2] X.env)).any (·.1) = false := by rfl) (h3 : starEach [.Name x p2] X.env = (false, eval (.Name x p2) X.env) :: starEach [] X.env := by rfl)
    (hK : X.K = K := by rfl) : PE X (.Call (.Name "isinstance" p) [e, .Name x p2] [] pos) (tIsi K T te) := by subst hK; exact pe_isi hg hm hg2 hm2 hv he hn hd h1 h2 h3
theorem k_cl (O : OkD X.prog X.w K X.mg X.base k f ps dvs F) (hr : Room k X.A) (hm : X.mg x = some (.ref f)) (ha : PA X (e :: es) t) (hg : Gl X x := by rfl) (hdb : (x == ("__debug__" : Str)) = false := by decide)
    (he : starEach (e :: es) X.env = (false, eval e X.env) :: starEach es X.env := by rfl) (hpl : (backTo pos (starEach es X.env)).any (·.1) = false := by rfl) (hK : X.K = K := by rfl) : PE X (.Call (.Name x p) (e :: es) [] pos) (tCall (spD K F) dvs E0 t) := by
  subst hK; exact pe_cl O hr hm ha hg hdb he hpl
theorem k_me {pl : Sem Bool} (c : Cls K C) (hm : Meth K C m f) (O : OkD X.prog X.w K X.mg X.base k f ps dvs F) (hr : Room k X.A) (he : PE X o te) (ha : PA X (e :: es) t)
    (hst : starEach (e :: es) X.env = (false, eval e X.env) :: starEach es X.env := by rfl) (hpl : (backTo pos (starEach es X.env)).any (·.1) = false := by rfl)
    (ht : eval (.Call (.Attribute o m apos) (e :: es) [] pos) X.env = (do
      let ov ← eval o X.env
      standAt apos.atName
      let (f, first) ← holding [ov] (getMethod ov m pl)
      callWith pos f first (backTo pos (starEach (e :: es) X.env)) (backToKw pos (keywordEach [] X.env))) := by rfl) (hK : X.K = K := by rfl) : PE X (.Call (.Attribute o m apos) (e :: es) [] pos) (tMeth C m (spD K F) dvs E0 te t) := by
  subst hK; exact pe_me c hm O hr he ha hst hpl ht
theorem k_me0 {pl : Sem Bool} (c : Cls K C) (hm : Meth K C m f) (O : OkD X.prog X.w K X.mg X.base k f ps dvs F) (hr : Room k X.A) (he : PE X o te)
    (ht : eval (.Call (.Attribute o m apos) [] [] pos) X.env = (do
      let ov ← eval o X.env
      standAt apos.atName
      let (f, first) ← holding [ov] (getMethod ov m pl)
      callWith pos f first (backTo pos (starEach [] X.env)) (backToKw pos (keywordEach [] X.env))) := by rfl) (hK : X.K = K := by rfl) : PE X (.Call (.Attribute o m apos) [] [] pos) (tMeth C m (spD K F) dvs E0 te tNil) := by
  subst hK; exact pe_me0 c hm O hr he ht
theorem k_pr {g p' : Addr} (c : Cls K C) (hp : PropOf K C m p' g) (O : OkD X.prog X.w K X.mg X.base k g ps dvs F) (hr : Room (k + 1) X.A) (he : PE X o te) (hab : attributeBase o m X.env (eval o X.env) = eval o X.env := by rfl) (hK : X.K = K := by rfl) :
    PE X (.Attribute o m pos) (tProp C (spD K F) dvs E0 te) := by subst hK; exact pe_pr c hp O hr he hab
theorem k_mk (M : Mk K C f) (O : OkD X.prog X.w K X.mg X.base k f ps dvs F) (hr : Room (k + 1) X.A) (hm : X.mg x = some (.ref C)) (ha : PA X (e :: es) t) (hg : Gl X x := by rfl) (hdb : (x == ("__debug__" : Str)) = false := by decide)
    (he : starEach (e :: es) X.env = (false, eval e X.env) :: starEach es X.env := by rfl) (hpl : (backTo pos (starEach es X.env)).any (·.1) = false := by rfl) (hK : X.K = K := by rfl) : PE X (.Call (.Name x p) (e :: es) [] pos) (tMake C (spD K F) dvs E0 t) := by
  subst hK; exact pe_mk M O hr hm ha hg hdb he hpl
theorem k_fld {ns : List Str} {i : Nat} (Z : Fld K C ns m i) (he : PE X e te) (hb : attributeBase e m X.env (eval e X.env) = eval e X.env := by rfl) (hK : X.K = K := by rfl) : PE X (.Attribute e m pos) (tFldF C ns i te) := by
  subst hK; exact pe_fldF Z he hb
theorem k_bm {name : Str} {id : String} {r : V → List V → Hp → VK → Prop} (pa : PlainAttrs T) (slot : Slot T name id) (hty : typeOf (.builtin id) = pure (.type "method_descriptor")) (hm : MtR X id r) (ho : PE X o to) (ha : PA X (e :: es) t)
    (hbase : attributeBase o name X.env (eval o X.env) = eval o X.env := by rfl)
    (hfew : ((backTo pos (starEach (e :: es) X.env)).all (fun x => !x.1) && (backToKw pos (keywordEach [] X.env)).all (fun x => x.1.isSome)
      && decide ((e :: es).length + ([] : List Keyword).length + (if ([] : List Keyword).isEmpty then 0 else 1) < 30)) = true := by rfl)
    (hline : (apos.endLine == pos.line) = true := by rfl) (hs : starEach (e :: es) X.env = (false, eval e X.env) :: starEach es X.env := by rfl) (hplain : (backTo pos (starEach es X.env)).any (·.1) = false := by rfl)
    (hK : X.K = K := by rfl) : PE X (.Call (.Attribute o name apos) (e :: es) [] pos) (tBM K T r to t) := by subst hK; exact pe_bm pa slot hty hm ho ha hbase hfew hline hs hplain
theorem k_bm0 {name : Str} {id : String} {r : V → List V → Hp → VK → Prop} (pa : PlainAttrs T) (slot : Slot T name id) (hty : typeOf (.builtin id) = pure (.type "method_descriptor")) (hm : MtR X id r) (ho : PE X o to)
    (hbase : attributeBase o name X.env (eval o X.env) = eval o X.env := by rfl) (hline : (apos.endLine == pos.line) = true := by rfl) (hK : X.K = K := by rfl) : PE X (.Call (.Attribute o name apos) [] [] pos) (tBM0 K T r to) := by
  subst hK; exact pe_bm0 pa slot hty hm ho hbase hline
theorem k_join (ho : PE X o to) (he : PE X e te) (hs : starEach [e] X.env = [(false, eval e X.env)] := by rfl) (hbase : attributeBase o "join" X.env (eval o X.env) = eval o X.env := by rfl) (hline : (apos.endLine == pos.line) = true := by rfl)
    (hK : X.K = K := by rfl) : PE X (.Call (.Attribute o "join" apos) [e] [] pos) (tM1 (rJoinU K) to te) := by subst hK; exact pe_joinU ho he hs hbase hline
theorem k_lenSet (hc : X.calm = true) (hg : Gl X "len") (hm : X.mg "len" = none) (hg2 : Gl X "set") (hm2 : X.mg "set" = none) (ha : PE X e te) (na : starEach [e] X.env = (false, eval e X.env) :: starEach [] X.env := by rfl) (hK : X.K = K := by rfl) :
    PE X (.Call (.Name "len" p) [.Call (.Name "set" p2) [e] [] pos2] [] pos) (tLenSetT K te) := by subst hK; exact pe_lenSetT hc hg hm hg2 hm2 ha na
theorem k_listRev (hc : X.calm = true) (hg : Gl X "list") (hm : X.mg "list" = none) (hg2 : Gl X "reversed") (hm2 : X.mg "reversed" = none) (he : PE X e te)
    (hs : starEach [e] X.env = (false, eval e X.env) :: starEach [] X.env := by rfl)
    (hs2 : starEach [.Call (.Name "reversed" p2) [e] [] pos2] X.env = (false, eval (.Call (.Name "reversed" p2) [e] [] pos2) X.env) :: starEach [] X.env := by rfl) (hK : X.K = K := by rfl) :
    PE X (.Call (.Name "list" p) [.Call (.Name "reversed" p2) [e] [] pos2] [] pos) (tListRev K te) := by subst hK; exact pe_listRev hc hg hm hg2 hm2 he hs hs2
theorem k_gtup {tgs : TGs} {n : Nat} (hc : X.calm = true) (h : PGs X es tgs) (hn : (assignEach es X.env).length = n := by rfl) (hst : (assignEach es X.env).findIdx? (·.1) = none := by rfl) (hK : X.K = K := by rfl) : PG X (.Tuple es kk pos) (gTup K n tgs) := by
  subst hK; exact pg_tup hc h hn hst
theorem k_ilist (hl : PE X e tl) (hK : X.K = K := by rfl) : PI X tg e (iList K tl) := by subst hK; exact pi_list hl
theorem k_itup (hl : PE X e tl) (hK : X.K = K := by rfl) : PI X tg e (iTup K tl) := by subst hK; exact pi_tup hl
theorem k_enum (hg : Gl X "enumerate") (hm : X.mg "enumerate" = none) (ha : PA X [e] t) (hs : starEach [e] X.env = [(false, eval e X.env)] := by rfl) (hK : X.K = K := by rfl) : PI X (.Tuple elts kk tpos) (.Call (.Name "enumerate" p) [e] [] pos) (iEnum K t) := by
  subst hK; exact pi_enum hg hm ha hs
theorem k_enumT (hg : Gl X "enumerate") (hm : X.mg "enumerate" = none) (ha : PA X [e] t) (hs : starEach [e] X.env = [(false, eval e X.env)] := by rfl) (hK : X.K = K := by rfl) : PI X (.Tuple elts kk tpos) (.Call (.Name "enumerate" p) [e] [] pos) (iEnumT K t) := by
  subst hK; exact pi_enumT hg hm ha hs
end
theorem we_inSg {K : PySem.W.Frag} {δ : De} {G : GH} {Φ : Dt → GH → Prop} {ta tb : TE} (h : WE K ta δ G fun x G1 => WE K tb δ G1 fun y G2 => ∃ c z, x = .dat (.str ⟨#[c]⟩) ∧ y = .dat (.str z) ∧ Φ (.dat (.bool (decide (c ∈ z.cps.toList)))) G2) : WE K (tOp rInSg ta tb) δ G Φ := we_inS h
/-- [e for x in xs], the items told by what they stand for -/
theorem we_mapL {K : PySem.W.Frag} {δ : De} {G : GH} {Φ : Dt → GH → Prop} {te : TE} {g : TG} {wi : TI} {vs : List Nat} (h : WI K wi δ G fun l G1 => ∃ (ts : List Nat) (α : Type) (xs : List α) (f h : α → PyData), l = xs.map f ∧ (∀ j ∈ ts, j ∈ vs) ∧ xs.length ≤ 1000000 ∧
      (∀ a ∈ xs, WG K g ts (.dat (f a)) (wipeD δ vs) G1 fun δ2 G2 => WE K te δ2 G2 fun z G3 => z = .dat (h a) ∧ G3 = G1) ∧ Φ (.dat (.list (xs.map h))) G1) : WE K (tLc wi g tYes te vs) δ G Φ :=
  we_map fun P σ H r s Q q => h P σ H r s Q fun J l G1 H1 s1 r1 wk ⟨ts, α, xs, f, h, e, h1, h2, h3, h4⟩ => q J l G1 H1 s1 r1 wk ⟨ts, xs.map h, h1, by rw [e, List.length_map]; exact h2, by rw [e, List.length_map, List.length_map], fun i x y hx hy => by
    subst e
    obtain ⟨a, ha, rfl⟩ := map_get hx
    obtain ⟨b, hb, rfl⟩ := map_get hy
    rw [ha] at hb
    cases hb
    exact h3 a (List.mem_of_getElem? ha), h4⟩
theorem all_true {α : Type} (xs : List α) : (xs.map fun _ => true).all id = true := by
  rw [List.all_eq_true]
  intro b hb
  obtain ⟨_, _, rfl⟩ := List.mem_map.mp hb
  rfl
theorem any_false {α : Type} (xs : List α) : (xs.map fun _ => false).any id = false := by
  rw [List.any_eq_false]
  intro b hb
  obtain ⟨_, _, rfl⟩ := List.mem_map.mp hb
  exact Bool.false_ne_true
theorem bools_eq {α : Type} (xs : List α) (b : Bool) : (xs.map fun _ => PyData.bool b) = (xs.map fun _ => b).map PyData.bool := by rw [List.map_map]; rfl
end DL
/-! (Ev) -/
namespace DL
open PySem PySem.Spec PyProof.Rows L2

/-! ### promises by the number of values -/
section
abbrev F0 (f : GH → (Dt → GH → Prop) → Prop) : FT := fun ds G Φ => ds = [] ∧ f G Φ
abbrev F1 (f : Dt → GH → (Dt → GH → Prop) → Prop) : FT := fun ds G Φ => ∃ a, ds = [a] ∧ f a G Φ
abbrev F2 (f : Dt → Dt → GH → (Dt → GH → Prop) → Prop) : FT := fun ds G Φ => ∃ a b, ds = [a, b] ∧ f a b G Φ
abbrev F3 (f : Dt → Dt → Dt → GH → (Dt → GH → Prop) → Prop) : FT := fun ds G Φ => ∃ a b c, ds = [a, b, c] ∧ f a b c G Φ
abbrev F4 (f : Dt → Dt → Dt → Dt → GH → (Dt → GH → Prop) → Prop) : FT := fun ds G Φ => ∃ a b c d, ds = [a, b, c, d] ∧ f a b c d G Φ
abbrev F5 (f : Dt → Dt → Dt → Dt → Dt → GH → (Dt → GH → Prop) → Prop) : FT := fun ds G Φ => ∃ a b c d e, ds = [a, b, c, d, e] ∧ f a b c d e G Φ
abbrev F6 (f : Dt → Dt → Dt → Dt → Dt → Dt → GH → (Dt → GH → Prop) → Prop) : FT := fun ds G Φ => ∃ a b c d e g, ds = [a, b, c, d, e, g] ∧ f a b c d e g G Φ
abbrev F7 (f : Dt → Dt → Dt → Dt → Dt → Dt → Dt → GH → (Dt → GH → Prop) → Prop) : FT := fun ds G Φ => ∃ a b c d e g h, ds = [a, b, c, d, e, g, h] ∧ f a b c d e g h G Φ
abbrev F10 (f : Dt → Dt → Dt → Dt → Dt → Dt → Dt → Dt → Dt → Dt → GH → (Dt → GH → Prop) → Prop) : FT := fun ds G Φ => ∃ a b c d e g h i j k, ds = [a, b, c, d, e, g, h, i, j, k] ∧ f a b c d e g h i j k G Φ
theorem room1 {k : Nat} {A : Around} (r : Room k A) : A.units + 1 < cLine := by have := r.un; omega
theorem room65 {k : Nat} {A : Around} (r : Room k A) : A.units + 65 < cLine := by have := r.un; omega
theorem len0 {f} {ds : List Dt} {G : GH} {Φ : Dt → GH → Prop} (h : F0 f ds G Φ) : ds.length = 0 := by rw [h.1]; rfl
theorem len1 {f} {ds : List Dt} {G : GH} {Φ : Dt → GH → Prop} (h : F1 f ds G Φ) : ds.length = 1 := by obtain ⟨_, e, _⟩ := h; rw [e]; rfl
theorem len2 {f} {ds : List Dt} {G : GH} {Φ : Dt → GH → Prop} (h : F2 f ds G Φ) : ds.length = 2 := by obtain ⟨_, _, e, _⟩ := h; rw [e]; rfl
theorem len3 {f} {ds : List Dt} {G : GH} {Φ : Dt → GH → Prop} (h : F3 f ds G Φ) : ds.length = 3 := by obtain ⟨_, _, _, e, _⟩ := h; rw [e]; rfl
theorem len4 {f} {ds : List Dt} {G : GH} {Φ : Dt → GH → Prop} (h : F4 f ds G Φ) : ds.length = 4 := by obtain ⟨_, _, _, _, e, _⟩ := h; rw [e]; rfl
theorem len5 {f} {ds : List Dt} {G : GH} {Φ : Dt → GH → Prop} (h : F5 f ds G Φ) : ds.length = 5 := by obtain ⟨_, _, _, _, _, e, _⟩ := h; rw [e]; rfl
theorem len6 {f} {ds : List Dt} {G : GH} {Φ : Dt → GH → Prop} (h : F6 f ds G Φ) : ds.length = 6 := by obtain ⟨_, _, _, _, _, _, e, _⟩ := h; rw [e]; rfl
theorem len7 {f} {ds : List Dt} {G : GH} {Φ : Dt → GH → Prop} (h : F7 f ds G Φ) : ds.length = 7 := by obtain ⟨_, _, _, _, _, _, _, e, _⟩ := h; rw [e]; rfl
theorem len10 {f} {ds : List Dt} {G : GH} {Φ : Dt → GH → Prop} (h : F10 f ds G Φ) : ds.length = 10 := by obtain ⟨_, _, _, _, _, _, _, _, _, _, e, _⟩ := h; rw [e]; rfl
end

def top (i : Nat) : Stmt := PySem.Challenge.pw_unbent_k68_whole_honest_parties_are_not.main.body.getD i (.Pass ⟨0, 0, 0, 0⟩)
/-- the getter of a property -/
def geA (K : PySem.W.Frag) (C f : Str) : Addr := match PySem.W.recIn K (He.ma K (He.ga K C) f) "property" with
  | some (.ref g :: _) => g
  | _ => 0
/-- the empty tuple that is Game's default for needs -/
def nA (K : PySem.W.Frag) : Addr := match K.lookup (He.ma K (He.ga K "Game") "__init__") with
  | some ⟨_, _, .func fd, _⟩ => (match fd.kwdefaults with
    | .ref D => (match PySem.W.nsIn K D "needs" with
      | some (some (.ref a)) => a
      | _ => 0)
    | _ => 0)
  | _ => 0
/-- what is known of the module's names -/
structure Ev (P : Program) (w : World) (K : PySem.W.Frag) (mg : Str → Option Value) (base : Heap) : Prop where
  g_is_integer : mg "is_integer" = some (.ref (He.ga K "is_integer"))
  g_is_ratio : mg "is_ratio" = some (.ref (He.ga K "is_ratio"))
  g_make : mg "make" = some (.ref (He.ga K "make"))
  g_add : mg "add" = some (.ref (He.ga K "add"))
  g_negate : mg "negate" = some (.ref (He.ga K "negate"))
  g_subtract : mg "subtract" = some (.ref (He.ga K "subtract"))
  g_compare : mg "compare" = some (.ref (He.ga K "compare"))
  g_sign : mg "sign" = some (.ref (He.ga K "sign"))
  g_floor_of : mg "floor_of" = some (.ref (He.ga K "floor_of"))
  g_total : mg "total" = some (.ref (He.ga K "total"))
  g_show_ratio : mg "show_ratio" = some (.ref (He.ga K "show_ratio"))
  g_is_name : mg "is_name" = some (.ref (He.ga K "is_name"))
  g_are_names : mg "are_names" = some (.ref (He.ga K "are_names"))
  g_is_index : mg "is_index" = some (.ref (He.ga K "is_index"))
  g_check_limits : mg "check_limits" = some (.ref (He.ga K "check_limits"))
  g_check_game : mg "check_game" = some (.ref (He.ga K "check_game"))
  g_copied_kinds : mg "copied_kinds" = some (.ref (He.ga K "copied_kinds"))
  g_profiles : mg "profiles" = some (.ref (He.ga K "profiles"))
  g_profile_number : mg "profile_number" = some (.ref (He.ga K "profile_number"))
  g_write_game : mg "write_game" = some (.ref (He.ga K "write_game"))
  g_write_rule : mg "write_rule" = some (.ref (He.ga K "write_rule"))
  g_is_content_within : mg "is_content_within" = some (.ref (He.ga K "is_content_within"))
  g_is_content : mg "is_content" = some (.ref (He.ga K "is_content"))
  g_check_content : mg "check_content" = some (.ref (He.ga K "check_content"))
  g_is_letter : mg "is_letter" = some (.ref (He.ga K "is_letter"))
  g_is_signed : mg "is_signed" = some (.ref (He.ga K "is_signed"))
  g_terms : mg "terms" = some (.ref (He.ga K "terms"))
  g_is_ticket : mg "is_ticket" = some (.ref (He.ga K "is_ticket"))
  g_is_kind : mg "is_kind" = some (.ref (He.ga K "is_kind"))
  g_are_pairs : mg "are_pairs" = some (.ref (He.ga K "are_pairs"))
  g_stands : mg "stands" = some (.ref (He.ga K "stands"))
  g_open_fits : mg "open_fits" = some (.ref (He.ga K "open_fits"))
  g_book_fits : mg "book_fits" = some (.ref (He.ga K "book_fits"))
  g_check_round : mg "check_round" = some (.ref (He.ga K "check_round"))
  g_drawn : mg "drawn" = some (.ref (He.ga K "drawn"))
  g__law_draws : mg "_law_draws" = some (.ref (He.ga K "_law_draws"))
  g__law_take : mg "_law_take" = some (.ref (He.ga K "_law_take"))
  g__law_same : mg "_law_same" = some (.ref (He.ga K "_law_same"))
  g__law_game : mg "_law_game" = some (.ref (He.ga K "_law_game"))
  g__law_profiles : mg "_law_profiles" = some (.ref (He.ga K "_law_profiles"))
  g__law_lot : mg "_law_lot" = some (.ref (He.ga K "_law_lot"))
  g__law_rule : mg "_law_rule" = some (.ref (He.ga K "_law_rule"))
  g__law_reports : mg "_law_reports" = some (.ref (He.ga K "_law_reports"))
  g__law_copied : mg "_law_copied" = some (.ref (He.ga K "_law_copied"))
  g__law_forge : mg "_law_forge" = some (.ref (He.ga K "_law_forge"))
  g__law_act : mg "_law_act" = some (.ref (He.ga K "_law_act"))
  g__law_course : mg "_law_course" = some (.ref (He.ga K "_law_course"))
  g__law_rounds : mg "_law_rounds" = some (.ref (He.ga K "_law_rounds"))
  g__law_drawn : mg "_law_drawn" = some (.ref (He.ga K "_law_drawn"))
  g__law_result_is_right : mg "_law_result_is_right" = some (.ref (He.ga K "_law_result_is_right"))
  g__law_told_early : mg "_law_told_early" = some (.ref (He.ga K "_law_told_early"))
  g_law : mg "law" = some (.ref (He.ga K "law"))
  g_Game : mg "Game" = some (.ref (He.ga K "Game"))
  g_Notary : mg "Notary" = some (.ref (He.ga K "Notary"))
  g_Desk : mg "Desk" = some (.ref (He.ga K "Desk"))
  g_Party : mg "Party" = some (.ref (He.ga K "Party"))
  g_Net : mg "Net" = some (.ref (He.ga K "Net"))
  g_ZERO : mg "ZERO" = some (.ref (He.ga K "ZERO"))
  t_ZERO : ∀ H : Hp, SqT K H (He.ga K "ZERO") [V.int 0, V.int 1]
  g_ONE : mg "ONE" = some (.ref (He.ga K "ONE"))
  t_ONE : ∀ H : Hp, SqT K H (He.ga K "ONE") [V.int 1, V.int 1]
  g_AIMS : mg "AIMS" = some (.ref (He.ga K "AIMS"))
  t_AIMS : ∀ H : Hp, SqT K H (He.ga K "AIMS") [V.str "total", V.str "worst", V.str "paid"]
  g_KINDS : mg "KINDS" = some (.ref (He.ga K "KINDS"))
  t_KINDS : ∀ H : Hp, SqT K H (He.ga K "KINDS") [V.str "call", V.str "commit", V.str "list", V.str "open", V.str "book"]
  i_MOST_AGENTS : ∃ t, mg "MOST_AGENTS" = some (.int 4 t)
  i_MOST_KINDS : ∃ t, mg "MOST_KINDS" = some (.int 4 t)
  i_MOST_OUTCOMES : ∃ t, mg "MOST_OUTCOMES" = some (.int 6 t)
  i_MOST_NEEDS : ∃ t, mg "MOST_NEEDS" = some (.int 12 t)
  i_MOST_PROFILES : ∃ t, mg "MOST_PROFILES" = some (.int 16 t)
  i_LONG : ∃ t, mg "LONG" = some (.int (10 ^ 1000) t)
  i_MOST_NESTING : ∃ t, mg "MOST_NESTING" = some (.int 6 t)
  i_MOST_LETTERS : ∃ t, mg "MOST_LETTERS" = some (.int 400 t)
  s_LETTERS : ∃ t, mg "LETTERS" = some (.str "abcdefghijklmnopqrstuvwxyz" t)
  b_gcd : mg "gcd" = some (.builtin "math.gcd")
  t_needs : ∀ H : Hp, SqT K H (nA K) []
  x_isinstance : mg "isinstance" = none
  x_int : mg "int" = none
  x_bool : mg "bool" = none
  x_str : mg "str" = none
  x_tuple : mg "tuple" = none
  x_list : mg "list" = none
  x_len : mg "len" = none
  x_abs : mg "abs" = none
  x_min : mg "min" = none
  x_all : mg "all" = none
  x_any : mg "any" = none
  x_sum : mg "sum" = none
  x_range : mg "range" = none
  x_enumerate : mg "enumerate" = none
  x_zip : mg "zip" = none
  x_set : mg "set" = none
  x_reversed : mg "reversed" = none
  d_is_integer : ∃ fd : FuncData, FunD K "is_integer" "is_integer" (defArgs (top 20)) (defBody (top 20)) (defScope (top 20)) [] [] (He.ga K "is_integer") fd
  d_is_ratio : ∃ fd : FuncData, FunD K "is_ratio" "is_ratio" (defArgs (top 21)) (defBody (top 21)) (defScope (top 21)) [] [] (He.ga K "is_ratio") fd
  d_make : ∃ fd : FuncData, FunD K "make" "make" (defArgs (top 22)) (defBody (top 22)) (defScope (top 22)) [V.int 1] [] (He.ga K "make") fd
  d_add : ∃ fd : FuncData, FunD K "add" "add" (defArgs (top 23)) (defBody (top 23)) (defScope (top 23)) [] [] (He.ga K "add") fd
  d_negate : ∃ fd : FuncData, FunD K "negate" "negate" (defArgs (top 24)) (defBody (top 24)) (defScope (top 24)) [] [] (He.ga K "negate") fd
  d_subtract : ∃ fd : FuncData, FunD K "subtract" "subtract" (defArgs (top 25)) (defBody (top 25)) (defScope (top 25)) [] [] (He.ga K "subtract") fd
  d_compare : ∃ fd : FuncData, FunD K "compare" "compare" (defArgs (top 26)) (defBody (top 26)) (defScope (top 26)) [] [] (He.ga K "compare") fd
  d_sign : ∃ fd : FuncData, FunD K "sign" "sign" (defArgs (top 27)) (defBody (top 27)) (defScope (top 27)) [] [] (He.ga K "sign") fd
  d_floor_of : ∃ fd : FuncData, FunD K "floor_of" "floor_of" (defArgs (top 28)) (defBody (top 28)) (defScope (top 28)) [] [] (He.ga K "floor_of") fd
  d_total : ∃ fd : FuncData, FunD K "total" "total" (defArgs (top 29)) (defBody (top 29)) (defScope (top 29)) [] [] (He.ga K "total") fd
  d_show_ratio : ∃ fd : FuncData, FunD K "show_ratio" "show_ratio" (defArgs (top 30)) (defBody (top 30)) (defScope (top 30)) [] [] (He.ga K "show_ratio") fd
  d_is_name : ∃ fd : FuncData, FunD K "is_name" "is_name" (defArgs (top 40)) (defBody (top 40)) (defScope (top 40)) [] [] (He.ga K "is_name") fd
  d_are_names : ∃ fd : FuncData, FunD K "are_names" "are_names" (defArgs (top 41)) (defBody (top 41)) (defScope (top 41)) [] [] (He.ga K "are_names") fd
  d_is_index : ∃ fd : FuncData, FunD K "is_index" "is_index" (defArgs (top 42)) (defBody (top 42)) (defScope (top 42)) [] [] (He.ga K "is_index") fd
  d_check_limits : ∃ fd : FuncData, FunD K "check_limits" "check_limits" (defArgs (top 47)) (defBody (top 47)) (defScope (top 47)) [] [] (He.ga K "check_limits") fd
  d_check_game : ∃ fd : FuncData, FunD K "check_game" "check_game" (defArgs (top 48)) (defBody (top 48)) (defScope (top 48)) [] [] (He.ga K "check_game") fd
  d_copied_kinds : ∃ fd : FuncData, FunD K "copied_kinds" "copied_kinds" (defArgs (top 49)) (defBody (top 49)) (defScope (top 49)) [] [] (He.ga K "copied_kinds") fd
  d_Game_init : ∃ fd : FuncData, FunD K "__init__" "Game.__init__" (defArgs (inClass (top 51) 0)) (defBody (inClass (top 51) 0)) (defScope (inClass (top 51) 0)) [] [("aim", V.str "total"), ("payments", V.bl false), ("lots", V.bl false), ("needs", V.ref (nA K))] (He.ma K (He.ga K "Game") "__init__") fd
  d_profiles : ∃ fd : FuncData, FunD K "profiles" "profiles" (defArgs (top 52)) (defBody (top 52)) (defScope (top 52)) [] [] (He.ga K "profiles") fd
  d_profile_number : ∃ fd : FuncData, FunD K "profile_number" "profile_number" (defArgs (top 53)) (defBody (top 53)) (defScope (top 53)) [] [] (He.ga K "profile_number") fd
  d_write_game : ∃ fd : FuncData, FunD K "write_game" "write_game" (defArgs (top 56)) (defBody (top 56)) (defScope (top 56)) [] [] (He.ga K "write_game") fd
  d_write_rule : ∃ fd : FuncData, FunD K "write_rule" "write_rule" (defArgs (top 57)) (defBody (top 57)) (defScope (top 57)) [] [] (He.ga K "write_rule") fd
  d_is_content_within : ∃ fd : FuncData, FunD K "is_content_within" "is_content_within" (defArgs (top 61)) (defBody (top 61)) (defScope (top 61)) [] [] (He.ga K "is_content_within") fd
  d_is_content : ∃ fd : FuncData, FunD K "is_content" "is_content" (defArgs (top 62)) (defBody (top 62)) (defScope (top 62)) [] [] (He.ga K "is_content") fd
  d_check_content : ∃ fd : FuncData, FunD K "check_content" "check_content" (defArgs (top 63)) (defBody (top 63)) (defScope (top 63)) [] [] (He.ga K "check_content") fd
  d_Notary_init : ∃ fd : FuncData, FunD K "__init__" "Notary.__init__" (defArgs (inClass (top 64) 0)) (defBody (inClass (top 64) 0)) (defScope (inClass (top 64) 0)) [] [] (He.ma K (He.ga K "Notary") "__init__") fd
  d_Notary_members : ∃ fd : FuncData, FunD K "members" "Notary.members" (defArgs (inClass (top 64) 1)) (defBody (inClass (top 64) 1)) (defScope (inClass (top 64) 1)) [] [] (geA K "Notary" "members") fd
  d_Notary_known : ∃ fd : FuncData, FunD K "known" "Notary.known" (defArgs (inClass (top 64) 2)) (defBody (inClass (top 64) 2)) (defScope (inClass (top 64) 2)) [] [] (He.ma K (He.ga K "Notary") "known") fd
  d_Notary_number : ∃ fd : FuncData, FunD K "number" "Notary.number" (defArgs (inClass (top 64) 3)) (defBody (inClass (top 64) 3)) (defScope (inClass (top 64) 3)) [] [] (He.ma K (He.ga K "Notary") "number") fd
  d_Notary_is_key : ∃ fd : FuncData, FunD K "is_key" "Notary.is_key" (defArgs (inClass (top 64) 4)) (defBody (inClass (top 64) 4)) (defScope (inClass (top 64) 4)) [] [] (He.ma K (He.ga K "Notary") "is_key") fd
  d_Notary_sign : ∃ fd : FuncData, FunD K "sign" "Notary.sign" (defArgs (inClass (top 64) 5)) (defBody (inClass (top 64) 5)) (defScope (inClass (top 64) 5)) [] [] (He.ma K (He.ga K "Notary") "sign") fd
  d_Notary_is_valid : ∃ fd : FuncData, FunD K "is_valid" "Notary.is_valid" (defArgs (inClass (top 64) 6)) (defBody (inClass (top 64) 6)) (defScope (inClass (top 64) 6)) [] [] (He.ma K (He.ga K "Notary") "is_valid") fd
  d_is_letter : ∃ fd : FuncData, FunD K "is_letter" "is_letter" (defArgs (top 65)) (defBody (top 65)) (defScope (top 65)) [] [] (He.ga K "is_letter") fd
  d_is_signed : ∃ fd : FuncData, FunD K "is_signed" "is_signed" (defArgs (top 66)) (defBody (top 66)) (defScope (top 66)) [] [] (He.ga K "is_signed") fd
  d_terms : ∃ fd : FuncData, FunD K "terms" "terms" (defArgs (top 68)) (defBody (top 68)) (defScope (top 68)) [] [] (He.ga K "terms") fd
  d_is_ticket : ∃ fd : FuncData, FunD K "is_ticket" "is_ticket" (defArgs (top 69)) (defBody (top 69)) (defScope (top 69)) [] [] (He.ga K "is_ticket") fd
  d_is_kind : ∃ fd : FuncData, FunD K "is_kind" "is_kind" (defArgs (top 70)) (defBody (top 70)) (defScope (top 70)) [] [] (He.ga K "is_kind") fd
  d_are_pairs : ∃ fd : FuncData, FunD K "are_pairs" "are_pairs" (defArgs (top 71)) (defBody (top 71)) (defScope (top 71)) [] [] (He.ga K "are_pairs") fd
  d_stands : ∃ fd : FuncData, FunD K "stands" "stands" (defArgs (top 72)) (defBody (top 72)) (defScope (top 72)) [] [] (He.ga K "stands") fd
  d_open_fits : ∃ fd : FuncData, FunD K "open_fits" "open_fits" (defArgs (top 73)) (defBody (top 73)) (defScope (top 73)) [] [] (He.ga K "open_fits") fd
  d_book_fits : ∃ fd : FuncData, FunD K "book_fits" "book_fits" (defArgs (top 74)) (defBody (top 74)) (defScope (top 74)) [] [] (He.ga K "book_fits") fd
  d_check_round : ∃ fd : FuncData, FunD K "check_round" "check_round" (defArgs (top 75)) (defBody (top 75)) (defScope (top 75)) [] [] (He.ga K "check_round") fd
  d_Desk_init : ∃ fd : FuncData, FunD K "__init__" "Desk.__init__" (defArgs (inClass (top 76) 0)) (defBody (inClass (top 76) 0)) (defScope (inClass (top 76) 0)) [] [] (He.ma K (He.ga K "Desk") "__init__") fd
  d_Desk_letter : ∃ fd : FuncData, FunD K "letter" "Desk.letter" (defArgs (inClass (top 76) 1)) (defBody (inClass (top 76) 1)) (defScope (inClass (top 76) 1)) [] [] (He.ma K (He.ga K "Desk") "letter") fd
  d_Desk_begin : ∃ fd : FuncData, FunD K "begin" "Desk.begin" (defArgs (inClass (top 76) 2)) (defBody (inClass (top 76) 2)) (defScope (inClass (top 76) 2)) [] [] (He.ma K (He.ga K "Desk") "begin") fd
  d_Desk_take : ∃ fd : FuncData, FunD K "take" "Desk.take" (defArgs (inClass (top 76) 3)) (defBody (inClass (top 76) 3)) (defScope (inClass (top 76) 3)) [] [] (He.ma K (He.ga K "Desk") "take") fd
  d_Desk_take_commit : ∃ fd : FuncData, FunD K "take_commit" "Desk.take_commit" (defArgs (inClass (top 76) 4)) (defBody (inClass (top 76) 4)) (defScope (inClass (top 76) 4)) [] [] (He.ma K (He.ga K "Desk") "take_commit") fd
  d_Desk_take_open : ∃ fd : FuncData, FunD K "take_open" "Desk.take_open" (defArgs (inClass (top 76) 5)) (defBody (inClass (top 76) 5)) (defScope (inClass (top 76) 5)) [] [] (He.ma K (He.ga K "Desk") "take_open") fd
  d_drawn : ∃ fd : FuncData, FunD K "drawn" "drawn" (defArgs (top 78)) (defBody (top 78)) (defScope (top 78)) [] [] (He.ga K "drawn") fd
  d_Party_init : ∃ fd : FuncData, FunD K "__init__" "Party.__init__" (defArgs (inClass (top 80) 0)) (defBody (inClass (top 80) 0)) (defScope (inClass (top 80) 0)) [] [] (He.ma K (He.ga K "Party") "__init__") fd
  d_Party_result : ∃ fd : FuncData, FunD K "result" "Party.result" (defArgs (inClass (top 80) 1)) (defBody (inClass (top 80) 1)) (defScope (inClass (top 80) 1)) [] [] (geA K "Party" "result") fd
  d_Party_receipts : ∃ fd : FuncData, FunD K "receipts" "Party.receipts" (defArgs (inClass (top 80) 2)) (defBody (inClass (top 80) 2)) (defScope (inClass (top 80) 2)) [] [] (He.ma K (He.ga K "Party") "receipts") fd
  d_Party_keep : ∃ fd : FuncData, FunD K "keep" "Party.keep" (defArgs (inClass (top 80) 3)) (defBody (inClass (top 80) 3)) (defScope (inClass (top 80) 3)) [] [] (He.ma K (He.ga K "Party") "keep") fd
  d_Party_send : ∃ fd : FuncData, FunD K "send" "Party.send" (defArgs (inClass (top 80) 4)) (defBody (inClass (top 80) 4)) (defScope (inClass (top 80) 4)) [] [] (He.ma K (He.ga K "Party") "send") fd
  d_Party_take : ∃ fd : FuncData, FunD K "take" "Party.take" (defArgs (inClass (top 80) 5)) (defBody (inClass (top 80) 5)) (defScope (inClass (top 80) 5)) [] [] (He.ma K (He.ga K "Party") "take") fd
  d_Party_send_commit : ∃ fd : FuncData, FunD K "send_commit" "Party.send_commit" (defArgs (inClass (top 80) 6)) (defBody (inClass (top 80) 6)) (defScope (inClass (top 80) 6)) [] [] (He.ma K (He.ga K "Party") "send_commit") fd
  d_Party_take_list : ∃ fd : FuncData, FunD K "take_list" "Party.take_list" (defArgs (inClass (top 80) 7)) (defBody (inClass (top 80) 7)) (defScope (inClass (top 80) 7)) [] [] (He.ma K (He.ga K "Party") "take_list") fd
  d_Net_init : ∃ fd : FuncData, FunD K "__init__" "Net.__init__" (defArgs (inClass (top 83) 0)) (defBody (inClass (top 83) 0)) (defScope (inClass (top 83) 0)) [] [("round_number", V.int 1)] (He.ma K (He.ga K "Net") "__init__") fd
  d_Net_is_member : ∃ fd : FuncData, FunD K "is_member" "Net.is_member" (defArgs (inClass (top 83) 1)) (defBody (inClass (top 83) 1)) (defScope (inClass (top 83) 1)) [] [] (He.ma K (He.ga K "Net") "is_member") fd
  d_Net_letters : ∃ fd : FuncData, FunD K "letters" "Net.letters" (defArgs (inClass (top 83) 2)) (defBody (inClass (top 83) 2)) (defScope (inClass (top 83) 2)) [] [] (He.ma K (He.ga K "Net") "letters") fd
  d_Net_add : ∃ fd : FuncData, FunD K "add" "Net.add" (defArgs (inClass (top 83) 3)) (defBody (inClass (top 83) 3)) (defScope (inClass (top 83) 3)) [] [] (He.ma K (He.ga K "Net") "add") fd
  d_Net_begin : ∃ fd : FuncData, FunD K "begin" "Net.begin" (defArgs (inClass (top 83) 4)) (defBody (inClass (top 83) 4)) (defScope (inClass (top 83) 4)) [] [] (He.ma K (He.ga K "Net") "begin") fd
  d_Net_deliver : ∃ fd : FuncData, FunD K "deliver" "Net.deliver" (defArgs (inClass (top 83) 5)) (defBody (inClass (top 83) 5)) (defScope (inClass (top 83) 5)) [] [] (He.ma K (He.ga K "Net") "deliver") fd
  d_Net_forge : ∃ fd : FuncData, FunD K "forge" "Net.forge" (defArgs (inClass (top 83) 6)) (defBody (inClass (top 83) 6)) (defScope (inClass (top 83) 6)) [] [] (He.ma K (He.ga K "Net") "forge") fd
  d_Net_result_of : ∃ fd : FuncData, FunD K "result_of" "Net.result_of" (defArgs (inClass (top 83) 7)) (defBody (inClass (top 83) 7)) (defScope (inClass (top 83) 7)) [] [] (He.ma K (He.ga K "Net") "result_of") fd
  d_Net_receipts_of : ∃ fd : FuncData, FunD K "receipts_of" "Net.receipts_of" (defArgs (inClass (top 83) 8)) (defBody (inClass (top 83) 8)) (defScope (inClass (top 83) 8)) [] [] (He.ma K (He.ga K "Net") "receipts_of") fd
  d__law_draws : ∃ fd : FuncData, FunD K "_law_draws" "_law_draws" (defArgs (top 85)) (defBody (top 85)) (defScope (top 85)) [] [] (He.ga K "_law_draws") fd
  d__law_take : ∃ fd : FuncData, FunD K "_law_take" "_law_take" (defArgs (top 86)) (defBody (top 86)) (defScope (top 86)) [] [] (He.ga K "_law_take") fd
  d__law_same : ∃ fd : FuncData, FunD K "_law_same" "_law_same" (defArgs (top 87)) (defBody (top 87)) (defScope (top 87)) [] [] (He.ga K "_law_same") fd
  d__law_game : ∃ fd : FuncData, FunD K "_law_game" "_law_game" (defArgs (top 88)) (defBody (top 88)) (defScope (top 88)) [] [] (He.ga K "_law_game") fd
  d__law_profiles : ∃ fd : FuncData, FunD K "_law_profiles" "_law_profiles" (defArgs (top 89)) (defBody (top 89)) (defScope (top 89)) [] [] (He.ga K "_law_profiles") fd
  d__law_lot : ∃ fd : FuncData, FunD K "_law_lot" "_law_lot" (defArgs (top 90)) (defBody (top 90)) (defScope (top 90)) [] [] (He.ga K "_law_lot") fd
  d__law_rule : ∃ fd : FuncData, FunD K "_law_rule" "_law_rule" (defArgs (top 91)) (defBody (top 91)) (defScope (top 91)) [] [] (He.ga K "_law_rule") fd
  d__law_reports : ∃ fd : FuncData, FunD K "_law_reports" "_law_reports" (defArgs (top 92)) (defBody (top 92)) (defScope (top 92)) [] [] (He.ga K "_law_reports") fd
  d__law_copied : ∃ fd : FuncData, FunD K "_law_copied" "_law_copied" (defArgs (top 93)) (defBody (top 93)) (defScope (top 93)) [] [] (He.ga K "_law_copied") fd
  d__law_forge : ∃ fd : FuncData, FunD K "_law_forge" "_law_forge" (defArgs (top 94)) (defBody (top 94)) (defScope (top 94)) [] [] (He.ga K "_law_forge") fd
  d__law_act : ∃ fd : FuncData, FunD K "_law_act" "_law_act" (defArgs (top 95)) (defBody (top 95)) (defScope (top 95)) [] [] (He.ga K "_law_act") fd
  d__law_course : ∃ fd : FuncData, FunD K "_law_course" "_law_course" (defArgs (top 96)) (defBody (top 96)) (defScope (top 96)) [] [] (He.ga K "_law_course") fd
  d__law_rounds : ∃ fd : FuncData, FunD K "_law_rounds" "_law_rounds" (defArgs (top 97)) (defBody (top 97)) (defScope (top 97)) [] [] (He.ga K "_law_rounds") fd
  d__law_drawn : ∃ fd : FuncData, FunD K "_law_drawn" "_law_drawn" (defArgs (top 98)) (defBody (top 98)) (defScope (top 98)) [] [] (He.ga K "_law_drawn") fd
  d__law_result_is_right : ∃ fd : FuncData, FunD K "_law_result_is_right" "_law_result_is_right" (defArgs (top 99)) (defBody (top 99)) (defScope (top 99)) [] [] (He.ga K "_law_result_is_right") fd
  d__law_told_early : ∃ fd : FuncData, FunD K "_law_told_early" "_law_told_early" (defArgs (top 100)) (defBody (top 100)) (defScope (top 100)) [] [] (He.ga K "_law_told_early") fd
  d_law : ∃ fd : FuncData, FunD K "law" "law" (defArgs (top 101)) (defBody (top 101)) (defScope (top 101)) [] [] (He.ga K "law") fd
  c_Game : Cls K (He.ga K "Game")
  m_Game : Mk K (He.ga K "Game") (He.ma K (He.ga K "Game") "__init__")
  a_Game_agents : NoAttr K (He.ga K "Game") "agents"
  a_Game_outcomes : NoAttr K (He.ga K "Game") "outcomes"
  a_Game_aim : NoAttr K (He.ga K "Game") "aim"
  a_Game_payments : NoAttr K (He.ga K "Game") "payments"
  a_Game_lots : NoAttr K (He.ga K "Game") "lots"
  a_Game_needs : NoAttr K (He.ga K "Game") "needs"
  c_Notary : Cls K (He.ga K "Notary")
  m_Notary : Mk K (He.ga K "Notary") (He.ma K (He.ga K "Notary") "__init__")
  a_Notary_known_keys : NoAttr K (He.ga K "Notary") "known_keys"
  a_Notary_contents : NoAttr K (He.ga K "Notary") "contents"
  a_Notary_signed : NoAttr K (He.ga K "Notary") "signed"
  c_Desk : Cls K (He.ga K "Desk")
  m_Desk : Mk K (He.ga K "Desk") (He.ma K (He.ga K "Desk") "__init__")
  a_Desk_game : NoAttr K (He.ga K "Desk") "game"
  a_Desk_notary : NoAttr K (He.ga K "Desk") "notary"
  a_Desk_key : NoAttr K (He.ga K "Desk") "key"
  a_Desk_round_number : NoAttr K (He.ga K "Desk") "round_number"
  a_Desk_terms_number : NoAttr K (He.ga K "Desk") "terms_number"
  a_Desk_commits : NoAttr K (He.ga K "Desk") "commits"
  a_Desk_opens : NoAttr K (He.ga K "Desk") "opens"
  a_Desk_list_body : NoAttr K (He.ga K "Desk") "list_body"
  a_Desk_book_body : NoAttr K (He.ga K "Desk") "book_body"
  c_Party : Cls K (He.ga K "Party")
  m_Party : Mk K (He.ga K "Party") (He.ma K (He.ga K "Party") "__init__")
  a_Party_game : NoAttr K (He.ga K "Party") "game"
  a_Party_rule : NoAttr K (He.ga K "Party") "rule"
  a_Party_notary : NoAttr K (He.ga K "Party") "notary"
  a_Party_key : NoAttr K (He.ga K "Party") "key"
  a_Party_round_number : NoAttr K (He.ga K "Party") "round_number"
  a_Party_member : NoAttr K (He.ga K "Party") "member"
  a_Party_report : NoAttr K (He.ga K "Party") "report"
  a_Party_terms_number : NoAttr K (He.ga K "Party") "terms_number"
  a_Party_commit : NoAttr K (He.ga K "Party") "commit"
  a_Party_list_body : NoAttr K (He.ga K "Party") "list_body"
  a_Party_book_body : NoAttr K (He.ga K "Party") "book_body"
  a_Party_kept : NoAttr K (He.ga K "Party") "kept"
  c_Net : Cls K (He.ga K "Net")
  m_Net : Mk K (He.ga K "Net") (He.ma K (He.ga K "Net") "__init__")
  a_Net_notary : NoAttr K (He.ga K "Net") "notary"
  a_Net_known_keys : NoAttr K (He.ga K "Net") "known_keys"
  a_Net_honest : NoAttr K (He.ga K "Net") "honest"
  a_Net_round_number : NoAttr K (He.ga K "Net") "round_number"
  a_Net_sent : NoAttr K (He.ga K "Net") "sent"
  a_Net_desk : NoAttr K (He.ga K "Net") "desk"
  a_Net_parties : NoAttr K (He.ga K "Net") "parties"
  p_Notary_members : PropOf K (He.ga K "Notary") "members" (He.ma K (He.ga K "Notary") "members") (geA K "Notary" "members")
  h_Notary_known : Meth K (He.ga K "Notary") "known" (He.ma K (He.ga K "Notary") "known")
  h_Notary_number : Meth K (He.ga K "Notary") "number" (He.ma K (He.ga K "Notary") "number")
  h_Notary_is_key : Meth K (He.ga K "Notary") "is_key" (He.ma K (He.ga K "Notary") "is_key")
  h_Notary_sign : Meth K (He.ga K "Notary") "sign" (He.ma K (He.ga K "Notary") "sign")
  h_Notary_is_valid : Meth K (He.ga K "Notary") "is_valid" (He.ma K (He.ga K "Notary") "is_valid")
  h_Desk_letter : Meth K (He.ga K "Desk") "letter" (He.ma K (He.ga K "Desk") "letter")
  h_Desk_begin : Meth K (He.ga K "Desk") "begin" (He.ma K (He.ga K "Desk") "begin")
  h_Desk_take : Meth K (He.ga K "Desk") "take" (He.ma K (He.ga K "Desk") "take")
  h_Desk_take_commit : Meth K (He.ga K "Desk") "take_commit" (He.ma K (He.ga K "Desk") "take_commit")
  h_Desk_take_open : Meth K (He.ga K "Desk") "take_open" (He.ma K (He.ga K "Desk") "take_open")
  p_Party_result : PropOf K (He.ga K "Party") "result" (He.ma K (He.ga K "Party") "result") (geA K "Party" "result")
  h_Party_receipts : Meth K (He.ga K "Party") "receipts" (He.ma K (He.ga K "Party") "receipts")
  h_Party_keep : Meth K (He.ga K "Party") "keep" (He.ma K (He.ga K "Party") "keep")
  h_Party_send : Meth K (He.ga K "Party") "send" (He.ma K (He.ga K "Party") "send")
  h_Party_take : Meth K (He.ga K "Party") "take" (He.ma K (He.ga K "Party") "take")
  h_Party_send_commit : Meth K (He.ga K "Party") "send_commit" (He.ma K (He.ga K "Party") "send_commit")
  h_Party_take_list : Meth K (He.ga K "Party") "take_list" (He.ma K (He.ga K "Party") "take_list")
  h_Net_is_member : Meth K (He.ga K "Net") "is_member" (He.ma K (He.ga K "Net") "is_member")
  h_Net_letters : Meth K (He.ga K "Net") "letters" (He.ma K (He.ga K "Net") "letters")
  h_Net_add : Meth K (He.ga K "Net") "add" (He.ma K (He.ga K "Net") "add")
  h_Net_begin : Meth K (He.ga K "Net") "begin" (He.ma K (He.ga K "Net") "begin")
  h_Net_deliver : Meth K (He.ga K "Net") "deliver" (He.ma K (He.ga K "Net") "deliver")
  h_Net_forge : Meth K (He.ga K "Net") "forge" (He.ma K (He.ga K "Net") "forge")
  h_Net_result_of : Meth K (He.ga K "Net") "result_of" (He.ma K (He.ga K "Net") "result_of")
  h_Net_receipts_of : Meth K (He.ga K "Net") "receipts_of" (He.ma K (He.ga K "Net") "receipts_of")
abbrev ns_Game : List Str := ["agents", "outcomes", "aim", "payments", "lots", "needs"]
abbrev ns_Notary : List Str := ["known_keys", "contents", "signed"]
abbrev ns_Desk : List Str := ["game", "notary", "key", "round_number", "terms_number", "commits", "opens", "list_body", "book_body"]
abbrev ns_Party : List Str := ["game", "rule", "notary", "key", "round_number", "member", "report", "terms_number", "commit", "list_body", "book_body", "kept"]
abbrev ns_Net : List Str := ["notary", "known_keys", "honest", "round_number", "sent", "desk", "parties"]
section
variable {P : Program} {w : World} {K : PySem.W.Frag} {mg : Str → Option Value} {base : Heap}
theorem Ev.f_Game_agents (e : Ev P w K mg base) : Fld K (He.ga K "Game") ns_Game "agents" 0 := ⟨e.c_Game, e.a_Game_agents, by decide +kernel, rfl⟩
theorem Ev.f_Game_outcomes (e : Ev P w K mg base) : Fld K (He.ga K "Game") ns_Game "outcomes" 1 := ⟨e.c_Game, e.a_Game_outcomes, by decide +kernel, rfl⟩
theorem Ev.f_Game_aim (e : Ev P w K mg base) : Fld K (He.ga K "Game") ns_Game "aim" 2 := ⟨e.c_Game, e.a_Game_aim, by decide +kernel, rfl⟩
theorem Ev.f_Game_payments (e : Ev P w K mg base) : Fld K (He.ga K "Game") ns_Game "payments" 3 := ⟨e.c_Game, e.a_Game_payments, by decide +kernel, rfl⟩
theorem Ev.f_Game_lots (e : Ev P w K mg base) : Fld K (He.ga K "Game") ns_Game "lots" 4 := ⟨e.c_Game, e.a_Game_lots, by decide +kernel, rfl⟩
theorem Ev.f_Game_needs (e : Ev P w K mg base) : Fld K (He.ga K "Game") ns_Game "needs" 5 := ⟨e.c_Game, e.a_Game_needs, by decide +kernel, rfl⟩
theorem Ev.f_Notary_known_keys (e : Ev P w K mg base) : Fld K (He.ga K "Notary") ns_Notary "known_keys" 0 := ⟨e.c_Notary, e.a_Notary_known_keys, by decide +kernel, rfl⟩
theorem Ev.f_Notary_contents (e : Ev P w K mg base) : Fld K (He.ga K "Notary") ns_Notary "contents" 1 := ⟨e.c_Notary, e.a_Notary_contents, by decide +kernel, rfl⟩
theorem Ev.f_Notary_signed (e : Ev P w K mg base) : Fld K (He.ga K "Notary") ns_Notary "signed" 2 := ⟨e.c_Notary, e.a_Notary_signed, by decide +kernel, rfl⟩
theorem Ev.f_Desk_game (e : Ev P w K mg base) : Fld K (He.ga K "Desk") ns_Desk "game" 0 := ⟨e.c_Desk, e.a_Desk_game, by decide +kernel, rfl⟩
theorem Ev.f_Desk_notary (e : Ev P w K mg base) : Fld K (He.ga K "Desk") ns_Desk "notary" 1 := ⟨e.c_Desk, e.a_Desk_notary, by decide +kernel, rfl⟩
theorem Ev.f_Desk_key (e : Ev P w K mg base) : Fld K (He.ga K "Desk") ns_Desk "key" 2 := ⟨e.c_Desk, e.a_Desk_key, by decide +kernel, rfl⟩
theorem Ev.f_Desk_round_number (e : Ev P w K mg base) : Fld K (He.ga K "Desk") ns_Desk "round_number" 3 := ⟨e.c_Desk, e.a_Desk_round_number, by decide +kernel, rfl⟩
theorem Ev.f_Desk_terms_number (e : Ev P w K mg base) : Fld K (He.ga K "Desk") ns_Desk "terms_number" 4 := ⟨e.c_Desk, e.a_Desk_terms_number, by decide +kernel, rfl⟩
theorem Ev.f_Desk_commits (e : Ev P w K mg base) : Fld K (He.ga K "Desk") ns_Desk "commits" 5 := ⟨e.c_Desk, e.a_Desk_commits, by decide +kernel, rfl⟩
theorem Ev.f_Desk_opens (e : Ev P w K mg base) : Fld K (He.ga K "Desk") ns_Desk "opens" 6 := ⟨e.c_Desk, e.a_Desk_opens, by decide +kernel, rfl⟩
theorem Ev.f_Desk_list_body (e : Ev P w K mg base) : Fld K (He.ga K "Desk") ns_Desk "list_body" 7 := ⟨e.c_Desk, e.a_Desk_list_body, by decide +kernel, rfl⟩
theorem Ev.f_Desk_book_body (e : Ev P w K mg base) : Fld K (He.ga K "Desk") ns_Desk "book_body" 8 := ⟨e.c_Desk, e.a_Desk_book_body, by decide +kernel, rfl⟩
theorem Ev.f_Party_game (e : Ev P w K mg base) : Fld K (He.ga K "Party") ns_Party "game" 0 := ⟨e.c_Party, e.a_Party_game, by decide +kernel, rfl⟩
theorem Ev.f_Party_rule (e : Ev P w K mg base) : Fld K (He.ga K "Party") ns_Party "rule" 1 := ⟨e.c_Party, e.a_Party_rule, by decide +kernel, rfl⟩
theorem Ev.f_Party_notary (e : Ev P w K mg base) : Fld K (He.ga K "Party") ns_Party "notary" 2 := ⟨e.c_Party, e.a_Party_notary, by decide +kernel, rfl⟩
theorem Ev.f_Party_key (e : Ev P w K mg base) : Fld K (He.ga K "Party") ns_Party "key" 3 := ⟨e.c_Party, e.a_Party_key, by decide +kernel, rfl⟩
theorem Ev.f_Party_round_number (e : Ev P w K mg base) : Fld K (He.ga K "Party") ns_Party "round_number" 4 := ⟨e.c_Party, e.a_Party_round_number, by decide +kernel, rfl⟩
theorem Ev.f_Party_member (e : Ev P w K mg base) : Fld K (He.ga K "Party") ns_Party "member" 5 := ⟨e.c_Party, e.a_Party_member, by decide +kernel, rfl⟩
theorem Ev.f_Party_report (e : Ev P w K mg base) : Fld K (He.ga K "Party") ns_Party "report" 6 := ⟨e.c_Party, e.a_Party_report, by decide +kernel, rfl⟩
theorem Ev.f_Party_terms_number (e : Ev P w K mg base) : Fld K (He.ga K "Party") ns_Party "terms_number" 7 := ⟨e.c_Party, e.a_Party_terms_number, by decide +kernel, rfl⟩
theorem Ev.f_Party_commit (e : Ev P w K mg base) : Fld K (He.ga K "Party") ns_Party "commit" 8 := ⟨e.c_Party, e.a_Party_commit, by decide +kernel, rfl⟩
theorem Ev.f_Party_list_body (e : Ev P w K mg base) : Fld K (He.ga K "Party") ns_Party "list_body" 9 := ⟨e.c_Party, e.a_Party_list_body, by decide +kernel, rfl⟩
theorem Ev.f_Party_book_body (e : Ev P w K mg base) : Fld K (He.ga K "Party") ns_Party "book_body" 10 := ⟨e.c_Party, e.a_Party_book_body, by decide +kernel, rfl⟩
theorem Ev.f_Party_kept (e : Ev P w K mg base) : Fld K (He.ga K "Party") ns_Party "kept" 11 := ⟨e.c_Party, e.a_Party_kept, by decide +kernel, rfl⟩
theorem Ev.f_Net_notary (e : Ev P w K mg base) : Fld K (He.ga K "Net") ns_Net "notary" 0 := ⟨e.c_Net, e.a_Net_notary, by decide +kernel, rfl⟩
theorem Ev.f_Net_known_keys (e : Ev P w K mg base) : Fld K (He.ga K "Net") ns_Net "known_keys" 1 := ⟨e.c_Net, e.a_Net_known_keys, by decide +kernel, rfl⟩
theorem Ev.f_Net_honest (e : Ev P w K mg base) : Fld K (He.ga K "Net") ns_Net "honest" 2 := ⟨e.c_Net, e.a_Net_honest, by decide +kernel, rfl⟩
theorem Ev.f_Net_round_number (e : Ev P w K mg base) : Fld K (He.ga K "Net") ns_Net "round_number" 3 := ⟨e.c_Net, e.a_Net_round_number, by decide +kernel, rfl⟩
theorem Ev.f_Net_sent (e : Ev P w K mg base) : Fld K (He.ga K "Net") ns_Net "sent" 4 := ⟨e.c_Net, e.a_Net_sent, by decide +kernel, rfl⟩
theorem Ev.f_Net_desk (e : Ev P w K mg base) : Fld K (He.ga K "Net") ns_Net "desk" 5 := ⟨e.c_Net, e.a_Net_desk, by decide +kernel, rfl⟩
theorem Ev.f_Net_parties (e : Ev P w K mg base) : Fld K (He.ga K "Net") ns_Net "parties" 6 := ⟨e.c_Net, e.a_Net_parties, by decide +kernel, rfl⟩
end
end DL
/-! (Hd) -/
namespace DL
open PySem PySem.Spec PyProof.Rows L2
/-! ### the head: what is read off the heap behind the top -/
structure DA where
  ad : PySem.W.Frag → Addr
  name : Str
  qual : Str
  params : Arguments
  body : List Stmt
  scope : Scope
  dfl : List He.Dv := []
  kwd : List (Str × He.Dv) := []
def fnA (K : PySem.W.Frag) (a : Addr) : He.FnW := match K.lookup a with
  | some ⟨_, _, .func fd, _⟩ => some (fd.name, fd.qualname, fd.params, fd.body, fd.scope, fd.globals, fd.closure, fd.builtins)
  | _ => none
def DA.val (d : DA) : He.FnW := some (d.name, d.qual, d.params, .stmts d.body, d.scope, mainGlobals, [], builtinsNs)
def DA.dvs (K : PySem.W.Frag) (d : DA) : List V := d.dfl.map (He.Dv.v K)
def DA.kws (K : PySem.W.Frag) (d : DA) : List (Str × V) := d.kwd.map fun q => (q.1, q.2.v K)
def DA.ok (K : PySem.W.Frag) (d : DA) : Bool := PySem.W.keepIn K (.ref (d.ad K)) && (match K.lookup (d.ad K) with
  | some ⟨_, _, .func fd, _⟩ => PySem.W.codeIn K fd.code d.qual && (He.dflB K fd.defaults (d.dvs K) && He.kwdB K fd.kwdefaults (d.kws K))
  | _ => false)
theorem DA.funD {K : PySem.W.Frag} {d : DA} (e : fnA K (d.ad K) = d.val) (c : d.ok K = true) : ∃ fd, FunD K d.name d.qual d.params d.body d.scope (d.dvs K) (d.kws K) (d.ad K) fd := by
  obtain ⟨kp, c2⟩ := He.ba c
  unfold fnA at e
  cases q : K.lookup (d.ad K) with
  | none =>
    rw [q] at c2
    cases c2
  | some o =>
    obtain ⟨oc, od, dt, osl⟩ := o
    rw [q] at c2 e
    cases dt with
    | func fd =>
      obtain ⟨n1, n2, n3, n4, n5, n6, n7, n8, n9, n10, n11, n12, n13, n14, n15⟩ := fd
      have e2 : (some (n1, n2, n3, n4, n5, n6, n7, n15) : He.FnW) = some (d.name, d.qual, d.params, .stmts d.body, d.scope, mainGlobals, [], builtinsNs) := e
      simp only [Option.some.injEq, Prod.mk.injEq] at e2
      obtain ⟨h1, h2, h3, h4, h5, h6, h7, h8⟩ := e2
      subst h1 h2 h3 h4 h5 h6 h7 h8
      have c3 : (PySem.W.codeIn K n13 d.qual && (He.dflB K n8 (d.dvs K) && He.kwdB K n9 (d.kws K))) = true := c2
      obtain ⟨k1, k2⟩ := He.ba c3
      obtain ⟨k3, k4⟩ := He.ba k2
      exact ⟨_, ⟨oc, od, n8, n9, n10, n11, n12, n13, n14, osl, rfl, q, k1, He.dflB_ok k3, He.kwdB_ok k4⟩, kp⟩
    | _ => cases c2
/-- an empty tuple -/
def tup0 (K : PySem.W.Frag) (a : Addr) : Bool := match K.lookup a with
  | some ⟨.type c, _, .seq its _, _⟩ => decide (c = "tuple") && decide (its.toList = [])
  | _ => false
theorem tup0_ok {K : PySem.W.Frag} {a : Addr} (h : tup0 K a = true) (H : Hp) : SqT K H a [] := by
  unfold tup0 at h
  cases q : K.lookup a with
  | none =>
    rw [q] at h
    cases h
  | some o =>
    obtain ⟨oc, od, dt, osl⟩ := o
    rw [q] at h
    cases oc with
    | type c =>
      cases dt with
      | seq its n =>
        obtain ⟨h1, h2⟩ := He.ba (show (decide (c = "tuple") && decide (its.toList = [])) = true from h)
        have h3 := of_decide_eq_true h2
        refine .inr ⟨_, its, n, q, congrArg Value.type (of_decide_eq_true h1), rfl, ?_, by rw [h3]; exact .nil⟩
        have h4 : its.size = 0 := by rw [← Array.length_toList, h3]; rfl
        rw [h4]; exact Nat.zero_le _
      | _ => cases h
    | _ => cases dt <;> cases h
def propB (K : PySem.W.Frag) (C f : Str) : Bool := He.eqO (PySem.W.findIn K (.ref (He.ga K C)) f) (some (some (.ref (He.ma K (He.ga K C) f)))) &&
  (He.eqO (PySem.W.specialIn K (.ref (He.ma K (He.ga K C) f)) "__get__") (some (some (.builtin "property.__get__"))) && (decide (PySem.W.takesIn K (.ref (He.ma K (He.ga K C) f)) = some true) &&
    (match PySem.W.recIn K (He.ma K (He.ga K C) f) "property" with
    | some (.ref _ :: _) => true
    | _ => false)))
theorem propB_ok {K : PySem.W.Frag} {C f : Str} (h : propB K C f = true) : PropOf K (He.ga K C) f (He.ma K (He.ga K C) f) (geA K C f) := by
  obtain ⟨h1, h⟩ := He.ba h
  obtain ⟨h2, h⟩ := He.ba h
  obtain ⟨h3, h4⟩ := He.ba h
  refine ⟨He.eqO_ok h1, He.eqO_ok h2, of_decide_eq_true h3, ?_⟩
  unfold geA
  split at h4
  · rename_i g rest e
    rw [e]
    exact ⟨rest, rfl⟩
  · cases h4
/-! ### the Hook -/
def noList (o : Obj) : Bool := match o.cls with
  | .type c => !decide (c = "list")
  | _ => true
def frX (g : Addr → Option Obj) (as : List Addr) : PySem.W.Frag := (He.frG g as).filter fun q => noList q.2
theorem frX_mem {g : Addr → Option Obj} {as : List Addr} {a : Addr} {o : Obj} (h : (frX g as).lookup a = some o) : g a = some o ∧ noList o = true := by
  obtain ⟨h1, h2⟩ := List.mem_filter.mp (He.lookup_mem h)
  exact ⟨He.frG_mem h1, h2⟩
theorem frX_in {as : List Addr} {h : Heap} : (frX h.get? as).In h := fun _ _ e => (frX_mem e).1
def NoL (K : PySem.W.Frag) : Prop := ∀ a o, K.lookup a = some o → noList o = true
abbrev AlX : Type := Bool × List He.FnW
def obsX (fa : List He.Fa) (fn : List DA) (ts : List (Str × List He.Dv)) (ps : List (Str × Str)) (K : PySem.W.Frag) : AlX :=
  ((fa.all fun f => f.ok K) && ((fn.all fun d => d.ok K) && ((ts.all fun t => He.tupB K t.1 t.2) && ((ps.all fun p => propB K p.1 p.2) &&
    (He.eqO (PySem.W.nsIn K mainGlobals "gcd") (some (some (.builtin "math.gcd"))) && tup0 K (nA K))))), fn.map fun d => fnA K (d.ad K))
def valX (fn : List DA) : AlX := (true, fn.map DA.val)
def SaysX (fa : List He.Fa) (fn : List DA) (ts : List (Str × List He.Dv)) (ps : List (Str × Str)) (K : PySem.W.Frag) : Prop := obsX fa fn ts ps K = valX fn
/-! what the names that are wanted lead to, with the lists made ahead -/
def expd (o : Obj) : List Addr := match o.data with
  | .func fd => He.refV fd.code ++ (He.refV fd.defaults ++ He.refV fd.kwdefaults)
  | .cls cd => [cd.ns]
  | .dict es _ => es.toList.flatMap fun e => He.refV e.val
  | .fields vs => (match o.cls with
    | .type c => (match decide (c = "property") with
      | true => vs.toList.flatMap He.refV
      | false => [])
    | _ => [])
  | _ => []
def expL (g : Addr → Option Obj) (as : List Addr) : List Addr := as.flatMap fun a => match g a with
  | some o => expd o
  | none => []
def wantL (g : Addr → Option Obj) (ws : List Str) : List Addr := match g mainGlobals with
  | some o => ws.filterMap fun x => (match PySem.W.nsIn [(mainGlobals, o)] mainGlobals x with
    | some (some (.ref a)) => some a
    | _ => none)
  | none => []
def forceL {α : Type} : List Addr → (List Addr → α) → α
  | [], k => k []
  | a :: as, k => HandSHeadRun.frNat a fun a => forceL as fun as => k (a :: as)
theorem forceL_eq {α : Type} : ∀ (as : List Addr) (k : List Addr → α), forceL as k = k as
  | [], _ => rfl
  | a :: as, k => by
    show HandSHeadRun.frNat a (fun a => forceL as fun as => k (a :: as)) = _
    rw [HandSHeadRun.frNat_eq, forceL_eq as]
def frObj {α : Type} (o : Obj) (k : Obj → α) : α := match o with
  | ⟨c, d, dt, sl⟩ => k ⟨c, d, dt, sl⟩
theorem frObj_eq {α : Type} (o : Obj) (k : Obj → α) : frObj o k = k o := by cases o; rfl
def forceK {α : Type} (g : Addr → Option Obj) : List Addr → (PySem.W.Frag → α) → α
  | [], k => k []
  | a :: as, k => match g a with
    | some o => frObj o fun o => (match noList o with
      | true => forceK g as fun K => k ((a, o) :: K)
      | false => forceK g as k)
    | none => forceK g as k
theorem forceK_eq {α : Type} {g : Addr → Option Obj} : ∀ (as : List Addr) (k : PySem.W.Frag → α), forceK g as k = k (frX g as)
  | [], _ => rfl
  | a :: as, k => by
    unfold forceK frX He.frG
    rw [List.filterMap_cons]
    cases e : g a with
    | none => exact forceK_eq as k
    | some o =>
      show frObj o _ = _
      rw [frObj_eq]
      show (match noList o with | true => forceK g as fun K => k ((a, o) :: K) | false => forceK g as k) = k (((a, o) :: He.frG g as).filter fun q => noList q.2)
      rw [List.filter_cons]
      show _ = k (if noList o = true then (a, o) :: (He.frG g as).filter (fun q => noList q.2) else (He.frG g as).filter fun q => noList q.2)
      cases z : noList o with
      | true => exact forceK_eq as _
      | false => exact forceK_eq as _
def asY (g : Addr → Option Obj) (ws : List Str) : List Addr :=
  mainGlobals :: (wantL g ws ++ (expL g (wantL g ws) ++ (expL g (expL g (wantL g ws)) ++ (expL g (expL g (expL g (wantL g ws))) ++ expL g (expL g (expL g (expL g (wantL g ws))))))))
def withY {α : Type} (g : Addr → Option Obj) (ws : List Str) (k : PySem.W.Frag → α) : α :=
  forceL (wantL g ws) fun l0 => forceL (expL g l0) fun l1 => forceL (expL g l1) fun l2 => forceL (expL g l2) fun l3 => forceL (expL g l3) fun l4 =>
    forceL (mainGlobals :: (l0 ++ (l1 ++ (l2 ++ (l3 ++ l4))))) fun as => forceK g as k
theorem withY_eq {α : Type} {g : Addr → Option Obj} {ws : List Str} {k : PySem.W.Frag → α} : withY g ws k = k (frX g (asY g ws)) := by
  unfold withY
  rw [forceL_eq, forceL_eq, forceL_eq, forceL_eq, forceL_eq, forceL_eq, forceK_eq]
  rfl
def obsXG (ws : List Str) (fa : List He.Fa) (fn : List DA) (ts : List (Str × List He.Dv)) (ps : List (Str × Str)) (g : Addr → Option Obj) : AlX := withY g ws fun K => obsX fa fn ts ps K
def hookX (ws : List Str) (fa : List He.Fa) (fn : List DA) (ts : List (Str × List He.Dv)) (ps : List (Str × Str)) : PySem.W.Hook where
  α := AlX
  obs := fun s => obsXG ws fa fn ts ps s.heap.get?
  val := fun _ => valX fn
  says := fun _ h => ∃ K : PySem.W.Frag, K.In h ∧ NoL K ∧ SaysX fa fn ts ps K
  of := fun _ _ e => ⟨_, frX_in, fun _ _ q => (frX_mem q).2, withY_eq.symm.trans e⟩
  keeps := fun _ _ _ ⟨K, hK, nl, c⟩ k => ⟨K, PySem.W.Frag.In.keeps hK k, nl, c⟩
theorem obsXG_eq {ws : List Str} {fa : List He.Fa} {fn : List DA} {ts : List (Str × List He.Dv)} {ps : List (Str × Str)} {g : Addr → Option Obj} {s : Shared} (h : ∀ a, g a = s.heap.get? a) : obsXG ws fa fn ts ps g = (hookX ws fa fn ts ps).obs s := by
  have e : g = s.heap.get? := funext h
  rw [e] <;> rfl
section
variable {fa : List He.Fa} {fn : List DA} {ts : List (Str × List He.Dv)} {ps : List (Str × Str)} {K : PySem.W.Frag}
theorem SaysX.all (c : SaysX fa fn ts ps K) : (fa.all fun f => f.ok K) = true ∧ (fn.all fun d => d.ok K) = true ∧ (ts.all fun t => He.tupB K t.1 t.2) = true ∧ (ps.all fun p => propB K p.1 p.2) = true ∧
    He.eqO (PySem.W.nsIn K mainGlobals "gcd") (some (some (.builtin "math.gcd"))) = true ∧ tup0 K (nA K) = true := by
  have c0 : ((fa.all fun f => f.ok K) && ((fn.all fun d => d.ok K) && ((ts.all fun t => He.tupB K t.1 t.2) && ((ps.all fun p => propB K p.1 p.2) &&
    (He.eqO (PySem.W.nsIn K mainGlobals "gcd") (some (some (.builtin "math.gcd"))) && tup0 K (nA K)))))) = true := congrArg (fun z : AlX => z.1) c
  obtain ⟨c1, c0⟩ := He.ba c0
  obtain ⟨c2, c0⟩ := He.ba c0
  obtain ⟨c3, c0⟩ := He.ba c0
  obtain ⟨c4, c0⟩ := He.ba c0
  obtain ⟨c5, c6⟩ := He.ba c0
  exact ⟨c1, c2, c3, c4, c5, c6⟩
theorem SaysX.fact (c : SaysX fa fn ts ps K) (i : Nat) {f : He.Fa} (h : fa[i]? = some f := by rfl) : f.ok K = true := List.all_eq_true.mp c.all.1 f (List.mem_of_getElem? h)
theorem SaysX.tup (c : SaysX fa fn ts ps K) (i : Nat) {t : Str × List He.Dv} (h : ts[i]? = some t := by rfl) : He.tupB K t.1 t.2 = true := List.all_eq_true.mp c.all.2.2.1 t (List.mem_of_getElem? h)
theorem SaysX.prop (c : SaysX fa fn ts ps K) (i : Nat) {t : Str × Str} (h : ps[i]? = some t := by rfl) : propB K t.1 t.2 = true := List.all_eq_true.mp c.all.2.2.2.1 t (List.mem_of_getElem? h)
theorem SaysX.gcd (c : SaysX fa fn ts ps K) : He.eqO (PySem.W.nsIn K mainGlobals "gcd") (some (some (.builtin "math.gcd"))) = true := c.all.2.2.2.2.1
theorem SaysX.needs (c : SaysX fa fn ts ps K) : tup0 K (nA K) = true := c.all.2.2.2.2.2
theorem SaysX.def_ (c : SaysX fa fn ts ps K) (i : Nat) {d : DA} (h : fn[i]? = some d := by rfl) : ∃ fd, FunD K d.name d.qual d.params d.body d.scope (d.dvs K) (d.kws K) (d.ad K) fd := by
  have c2 := c.all.2.1
  have e : fn.map (fun d => fnA K (d.ad K)) = fn.map DA.val := congrArg (fun z : AlX => z.2) c
  have e2 : (fn.map fun d => fnA K (d.ad K))[i]? = (fn.map DA.val)[i]? := by rw [e]
  rw [List.getElem?_map, List.getElem?_map, h] at e2
  exact DA.funD (Option.some.inj e2) (List.all_eq_true.mp c2 d (List.mem_of_getElem? h))
end

def dA0 : DA := ⟨fun K => (He.ga K "is_integer"), "is_integer", "is_integer", defArgs (top 20), defBody (top 20), defScope (top 20), [], []⟩
def dA1 : DA := ⟨fun K => (He.ga K "is_ratio"), "is_ratio", "is_ratio", defArgs (top 21), defBody (top 21), defScope (top 21), [], []⟩
def dA2 : DA := ⟨fun K => (He.ga K "make"), "make", "make", defArgs (top 22), defBody (top 22), defScope (top 22), [.int 1], []⟩
def dA3 : DA := ⟨fun K => (He.ga K "add"), "add", "add", defArgs (top 23), defBody (top 23), defScope (top 23), [], []⟩
def dA4 : DA := ⟨fun K => (He.ga K "negate"), "negate", "negate", defArgs (top 24), defBody (top 24), defScope (top 24), [], []⟩
def dA5 : DA := ⟨fun K => (He.ga K "subtract"), "subtract", "subtract", defArgs (top 25), defBody (top 25), defScope (top 25), [], []⟩
def dA6 : DA := ⟨fun K => (He.ga K "compare"), "compare", "compare", defArgs (top 26), defBody (top 26), defScope (top 26), [], []⟩
def dA7 : DA := ⟨fun K => (He.ga K "sign"), "sign", "sign", defArgs (top 27), defBody (top 27), defScope (top 27), [], []⟩
def dA8 : DA := ⟨fun K => (He.ga K "floor_of"), "floor_of", "floor_of", defArgs (top 28), defBody (top 28), defScope (top 28), [], []⟩
def dA9 : DA := ⟨fun K => (He.ga K "total"), "total", "total", defArgs (top 29), defBody (top 29), defScope (top 29), [], []⟩
def dA10 : DA := ⟨fun K => (He.ga K "show_ratio"), "show_ratio", "show_ratio", defArgs (top 30), defBody (top 30), defScope (top 30), [], []⟩
def dA11 : DA := ⟨fun K => (He.ga K "is_name"), "is_name", "is_name", defArgs (top 40), defBody (top 40), defScope (top 40), [], []⟩
def dA12 : DA := ⟨fun K => (He.ga K "are_names"), "are_names", "are_names", defArgs (top 41), defBody (top 41), defScope (top 41), [], []⟩
def dA13 : DA := ⟨fun K => (He.ga K "is_index"), "is_index", "is_index", defArgs (top 42), defBody (top 42), defScope (top 42), [], []⟩
def dA14 : DA := ⟨fun K => (He.ga K "check_limits"), "check_limits", "check_limits", defArgs (top 47), defBody (top 47), defScope (top 47), [], []⟩
def dA15 : DA := ⟨fun K => (He.ga K "check_game"), "check_game", "check_game", defArgs (top 48), defBody (top 48), defScope (top 48), [], []⟩
def dA16 : DA := ⟨fun K => (He.ga K "copied_kinds"), "copied_kinds", "copied_kinds", defArgs (top 49), defBody (top 49), defScope (top 49), [], []⟩
def dA17 : DA := ⟨fun K => (He.ma K (He.ga K "Game") "__init__"), "__init__", "Game.__init__", defArgs (inClass (top 51) 0), defBody (inClass (top 51) 0), defScope (inClass (top 51) 0), [], [("aim", .str "total"), ("payments", .bl false), ("lots", .bl false), ("needs", .adr nA)]⟩
def dA18 : DA := ⟨fun K => (He.ga K "profiles"), "profiles", "profiles", defArgs (top 52), defBody (top 52), defScope (top 52), [], []⟩
def dA19 : DA := ⟨fun K => (He.ga K "profile_number"), "profile_number", "profile_number", defArgs (top 53), defBody (top 53), defScope (top 53), [], []⟩
def dA20 : DA := ⟨fun K => (He.ga K "write_game"), "write_game", "write_game", defArgs (top 56), defBody (top 56), defScope (top 56), [], []⟩
def dA21 : DA := ⟨fun K => (He.ga K "write_rule"), "write_rule", "write_rule", defArgs (top 57), defBody (top 57), defScope (top 57), [], []⟩
def dA22 : DA := ⟨fun K => (He.ga K "is_content_within"), "is_content_within", "is_content_within", defArgs (top 61), defBody (top 61), defScope (top 61), [], []⟩
def dA23 : DA := ⟨fun K => (He.ga K "is_content"), "is_content", "is_content", defArgs (top 62), defBody (top 62), defScope (top 62), [], []⟩
def dA24 : DA := ⟨fun K => (He.ga K "check_content"), "check_content", "check_content", defArgs (top 63), defBody (top 63), defScope (top 63), [], []⟩
def dA25 : DA := ⟨fun K => (He.ma K (He.ga K "Notary") "__init__"), "__init__", "Notary.__init__", defArgs (inClass (top 64) 0), defBody (inClass (top 64) 0), defScope (inClass (top 64) 0), [], []⟩
def dA26 : DA := ⟨fun K => (geA K "Notary" "members"), "members", "Notary.members", defArgs (inClass (top 64) 1), defBody (inClass (top 64) 1), defScope (inClass (top 64) 1), [], []⟩
def dA27 : DA := ⟨fun K => (He.ma K (He.ga K "Notary") "known"), "known", "Notary.known", defArgs (inClass (top 64) 2), defBody (inClass (top 64) 2), defScope (inClass (top 64) 2), [], []⟩
def dA28 : DA := ⟨fun K => (He.ma K (He.ga K "Notary") "number"), "number", "Notary.number", defArgs (inClass (top 64) 3), defBody (inClass (top 64) 3), defScope (inClass (top 64) 3), [], []⟩
def dA29 : DA := ⟨fun K => (He.ma K (He.ga K "Notary") "is_key"), "is_key", "Notary.is_key", defArgs (inClass (top 64) 4), defBody (inClass (top 64) 4), defScope (inClass (top 64) 4), [], []⟩
def dA30 : DA := ⟨fun K => (He.ma K (He.ga K "Notary") "sign"), "sign", "Notary.sign", defArgs (inClass (top 64) 5), defBody (inClass (top 64) 5), defScope (inClass (top 64) 5), [], []⟩
def dA31 : DA := ⟨fun K => (He.ma K (He.ga K "Notary") "is_valid"), "is_valid", "Notary.is_valid", defArgs (inClass (top 64) 6), defBody (inClass (top 64) 6), defScope (inClass (top 64) 6), [], []⟩
def dA32 : DA := ⟨fun K => (He.ga K "is_letter"), "is_letter", "is_letter", defArgs (top 65), defBody (top 65), defScope (top 65), [], []⟩
def dA33 : DA := ⟨fun K => (He.ga K "is_signed"), "is_signed", "is_signed", defArgs (top 66), defBody (top 66), defScope (top 66), [], []⟩
def dA34 : DA := ⟨fun K => (He.ga K "terms"), "terms", "terms", defArgs (top 68), defBody (top 68), defScope (top 68), [], []⟩
def dA35 : DA := ⟨fun K => (He.ga K "is_ticket"), "is_ticket", "is_ticket", defArgs (top 69), defBody (top 69), defScope (top 69), [], []⟩
def dA36 : DA := ⟨fun K => (He.ga K "is_kind"), "is_kind", "is_kind", defArgs (top 70), defBody (top 70), defScope (top 70), [], []⟩
def dA37 : DA := ⟨fun K => (He.ga K "are_pairs"), "are_pairs", "are_pairs", defArgs (top 71), defBody (top 71), defScope (top 71), [], []⟩
def dA38 : DA := ⟨fun K => (He.ga K "stands"), "stands", "stands", defArgs (top 72), defBody (top 72), defScope (top 72), [], []⟩
def dA39 : DA := ⟨fun K => (He.ga K "open_fits"), "open_fits", "open_fits", defArgs (top 73), defBody (top 73), defScope (top 73), [], []⟩
def dA40 : DA := ⟨fun K => (He.ga K "book_fits"), "book_fits", "book_fits", defArgs (top 74), defBody (top 74), defScope (top 74), [], []⟩
def dA41 : DA := ⟨fun K => (He.ga K "check_round"), "check_round", "check_round", defArgs (top 75), defBody (top 75), defScope (top 75), [], []⟩
def dA42 : DA := ⟨fun K => (He.ma K (He.ga K "Desk") "__init__"), "__init__", "Desk.__init__", defArgs (inClass (top 76) 0), defBody (inClass (top 76) 0), defScope (inClass (top 76) 0), [], []⟩
def dA43 : DA := ⟨fun K => (He.ma K (He.ga K "Desk") "letter"), "letter", "Desk.letter", defArgs (inClass (top 76) 1), defBody (inClass (top 76) 1), defScope (inClass (top 76) 1), [], []⟩
def dA44 : DA := ⟨fun K => (He.ma K (He.ga K "Desk") "begin"), "begin", "Desk.begin", defArgs (inClass (top 76) 2), defBody (inClass (top 76) 2), defScope (inClass (top 76) 2), [], []⟩
def dA45 : DA := ⟨fun K => (He.ma K (He.ga K "Desk") "take"), "take", "Desk.take", defArgs (inClass (top 76) 3), defBody (inClass (top 76) 3), defScope (inClass (top 76) 3), [], []⟩
def dA46 : DA := ⟨fun K => (He.ma K (He.ga K "Desk") "take_commit"), "take_commit", "Desk.take_commit", defArgs (inClass (top 76) 4), defBody (inClass (top 76) 4), defScope (inClass (top 76) 4), [], []⟩
def dA47 : DA := ⟨fun K => (He.ma K (He.ga K "Desk") "take_open"), "take_open", "Desk.take_open", defArgs (inClass (top 76) 5), defBody (inClass (top 76) 5), defScope (inClass (top 76) 5), [], []⟩
def dA48 : DA := ⟨fun K => (He.ga K "drawn"), "drawn", "drawn", defArgs (top 78), defBody (top 78), defScope (top 78), [], []⟩
def dA49 : DA := ⟨fun K => (He.ma K (He.ga K "Party") "__init__"), "__init__", "Party.__init__", defArgs (inClass (top 80) 0), defBody (inClass (top 80) 0), defScope (inClass (top 80) 0), [], []⟩
def dA50 : DA := ⟨fun K => (geA K "Party" "result"), "result", "Party.result", defArgs (inClass (top 80) 1), defBody (inClass (top 80) 1), defScope (inClass (top 80) 1), [], []⟩
def dA51 : DA := ⟨fun K => (He.ma K (He.ga K "Party") "receipts"), "receipts", "Party.receipts", defArgs (inClass (top 80) 2), defBody (inClass (top 80) 2), defScope (inClass (top 80) 2), [], []⟩
def dA52 : DA := ⟨fun K => (He.ma K (He.ga K "Party") "keep"), "keep", "Party.keep", defArgs (inClass (top 80) 3), defBody (inClass (top 80) 3), defScope (inClass (top 80) 3), [], []⟩
def dA53 : DA := ⟨fun K => (He.ma K (He.ga K "Party") "send"), "send", "Party.send", defArgs (inClass (top 80) 4), defBody (inClass (top 80) 4), defScope (inClass (top 80) 4), [], []⟩
def dA54 : DA := ⟨fun K => (He.ma K (He.ga K "Party") "take"), "take", "Party.take", defArgs (inClass (top 80) 5), defBody (inClass (top 80) 5), defScope (inClass (top 80) 5), [], []⟩
def dA55 : DA := ⟨fun K => (He.ma K (He.ga K "Party") "send_commit"), "send_commit", "Party.send_commit", defArgs (inClass (top 80) 6), defBody (inClass (top 80) 6), defScope (inClass (top 80) 6), [], []⟩
def dA56 : DA := ⟨fun K => (He.ma K (He.ga K "Party") "take_list"), "take_list", "Party.take_list", defArgs (inClass (top 80) 7), defBody (inClass (top 80) 7), defScope (inClass (top 80) 7), [], []⟩
def dA57 : DA := ⟨fun K => (He.ma K (He.ga K "Net") "__init__"), "__init__", "Net.__init__", defArgs (inClass (top 83) 0), defBody (inClass (top 83) 0), defScope (inClass (top 83) 0), [], [("round_number", .int 1)]⟩
def dA58 : DA := ⟨fun K => (He.ma K (He.ga K "Net") "is_member"), "is_member", "Net.is_member", defArgs (inClass (top 83) 1), defBody (inClass (top 83) 1), defScope (inClass (top 83) 1), [], []⟩
def dA59 : DA := ⟨fun K => (He.ma K (He.ga K "Net") "letters"), "letters", "Net.letters", defArgs (inClass (top 83) 2), defBody (inClass (top 83) 2), defScope (inClass (top 83) 2), [], []⟩
def dA60 : DA := ⟨fun K => (He.ma K (He.ga K "Net") "add"), "add", "Net.add", defArgs (inClass (top 83) 3), defBody (inClass (top 83) 3), defScope (inClass (top 83) 3), [], []⟩
def dA61 : DA := ⟨fun K => (He.ma K (He.ga K "Net") "begin"), "begin", "Net.begin", defArgs (inClass (top 83) 4), defBody (inClass (top 83) 4), defScope (inClass (top 83) 4), [], []⟩
def dA62 : DA := ⟨fun K => (He.ma K (He.ga K "Net") "deliver"), "deliver", "Net.deliver", defArgs (inClass (top 83) 5), defBody (inClass (top 83) 5), defScope (inClass (top 83) 5), [], []⟩
def dA63 : DA := ⟨fun K => (He.ma K (He.ga K "Net") "forge"), "forge", "Net.forge", defArgs (inClass (top 83) 6), defBody (inClass (top 83) 6), defScope (inClass (top 83) 6), [], []⟩
def dA64 : DA := ⟨fun K => (He.ma K (He.ga K "Net") "result_of"), "result_of", "Net.result_of", defArgs (inClass (top 83) 7), defBody (inClass (top 83) 7), defScope (inClass (top 83) 7), [], []⟩
def dA65 : DA := ⟨fun K => (He.ma K (He.ga K "Net") "receipts_of"), "receipts_of", "Net.receipts_of", defArgs (inClass (top 83) 8), defBody (inClass (top 83) 8), defScope (inClass (top 83) 8), [], []⟩
def dA66 : DA := ⟨fun K => (He.ga K "_law_draws"), "_law_draws", "_law_draws", defArgs (top 85), defBody (top 85), defScope (top 85), [], []⟩
def dA67 : DA := ⟨fun K => (He.ga K "_law_take"), "_law_take", "_law_take", defArgs (top 86), defBody (top 86), defScope (top 86), [], []⟩
def dA68 : DA := ⟨fun K => (He.ga K "_law_same"), "_law_same", "_law_same", defArgs (top 87), defBody (top 87), defScope (top 87), [], []⟩
def dA69 : DA := ⟨fun K => (He.ga K "_law_game"), "_law_game", "_law_game", defArgs (top 88), defBody (top 88), defScope (top 88), [], []⟩
def dA70 : DA := ⟨fun K => (He.ga K "_law_profiles"), "_law_profiles", "_law_profiles", defArgs (top 89), defBody (top 89), defScope (top 89), [], []⟩
def dA71 : DA := ⟨fun K => (He.ga K "_law_lot"), "_law_lot", "_law_lot", defArgs (top 90), defBody (top 90), defScope (top 90), [], []⟩
def dA72 : DA := ⟨fun K => (He.ga K "_law_rule"), "_law_rule", "_law_rule", defArgs (top 91), defBody (top 91), defScope (top 91), [], []⟩
def dA73 : DA := ⟨fun K => (He.ga K "_law_reports"), "_law_reports", "_law_reports", defArgs (top 92), defBody (top 92), defScope (top 92), [], []⟩
def dA74 : DA := ⟨fun K => (He.ga K "_law_copied"), "_law_copied", "_law_copied", defArgs (top 93), defBody (top 93), defScope (top 93), [], []⟩
def dA75 : DA := ⟨fun K => (He.ga K "_law_forge"), "_law_forge", "_law_forge", defArgs (top 94), defBody (top 94), defScope (top 94), [], []⟩
def dA76 : DA := ⟨fun K => (He.ga K "_law_act"), "_law_act", "_law_act", defArgs (top 95), defBody (top 95), defScope (top 95), [], []⟩
def dA77 : DA := ⟨fun K => (He.ga K "_law_course"), "_law_course", "_law_course", defArgs (top 96), defBody (top 96), defScope (top 96), [], []⟩
def dA78 : DA := ⟨fun K => (He.ga K "_law_rounds"), "_law_rounds", "_law_rounds", defArgs (top 97), defBody (top 97), defScope (top 97), [], []⟩
def dA79 : DA := ⟨fun K => (He.ga K "_law_drawn"), "_law_drawn", "_law_drawn", defArgs (top 98), defBody (top 98), defScope (top 98), [], []⟩
def dA80 : DA := ⟨fun K => (He.ga K "_law_result_is_right"), "_law_result_is_right", "_law_result_is_right", defArgs (top 99), defBody (top 99), defScope (top 99), [], []⟩
def dA81 : DA := ⟨fun K => (He.ga K "_law_told_early"), "_law_told_early", "_law_told_early", defArgs (top 100), defBody (top 100), defScope (top 100), [], []⟩
def dA82 : DA := ⟨fun K => (He.ga K "law"), "law", "law", defArgs (top 101), defBody (top 101), defScope (top 101), [], []⟩
def dAs : List DA := [dA0, dA1, dA2, dA3, dA4, dA5, dA6, dA7, dA8, dA9, dA10, dA11, dA12, dA13, dA14, dA15, dA16, dA17, dA18, dA19, dA20, dA21, dA22, dA23, dA24, dA25, dA26, dA27, dA28, dA29, dA30, dA31, dA32, dA33, dA34, dA35, dA36, dA37, dA38, dA39, dA40, dA41, dA42, dA43, dA44, dA45, dA46, dA47, dA48, dA49, dA50, dA51, dA52, dA53, dA54, dA55, dA56, dA57, dA58, dA59, dA60, dA61, dA62, dA63, dA64, dA65, dA66, dA67, dA68, dA69, dA70, dA71, dA72, dA73, dA74, dA75, dA76, dA77, dA78, dA79, dA80, dA81, dA82]
def fa0 : List He.Fa := [.glo "is_integer", .glo "is_ratio", .glo "make", .glo "add", .glo "negate", .glo "subtract", .glo "compare", .glo "sign", .glo "floor_of", .glo "total", .glo "show_ratio", .glo "is_name", .glo "are_names", .glo "is_index", .glo "check_limits", .glo "check_game", .glo "copied_kinds", .glo "profiles", .glo "profile_number", .glo "write_game", .glo "write_rule", .glo "is_content_within", .glo "is_content", .glo "check_content", .glo "is_letter", .glo "is_signed", .glo "terms", .glo "is_ticket", .glo "is_kind", .glo "are_pairs"]
def fa1 : List He.Fa := [.glo "stands", .glo "open_fits", .glo "book_fits", .glo "check_round", .glo "drawn", .glo "_law_draws", .glo "_law_take", .glo "_law_same", .glo "_law_game", .glo "_law_profiles", .glo "_law_lot", .glo "_law_rule", .glo "_law_reports", .glo "_law_copied", .glo "_law_forge", .glo "_law_act", .glo "_law_course", .glo "_law_rounds", .glo "_law_drawn", .glo "_law_result_is_right", .glo "_law_told_early", .glo "law", .glo "Game", .glo "Notary", .glo "Desk", .glo "Party", .glo "Net", .glo "ZERO", .glo "ONE", .glo "AIMS"]
def fa2 : List He.Fa := [.glo "KINDS", .int "MOST_AGENTS" 4, .int "MOST_KINDS" 4, .int "MOST_OUTCOMES" 6, .int "MOST_NEEDS" 12, .int "MOST_PROFILES" 16, .int "LONG" (10 ^ 1000), .int "MOST_NESTING" 6, .int "MOST_LETTERS" 400, .str "LETTERS" "abcdefghijklmnopqrstuvwxyz", .free "isinstance", .free "int", .free "bool", .free "str", .free "tuple", .free "list", .free "len", .free "abs", .free "min", .free "all", .free "any", .free "sum", .free "range", .free "enumerate", .free "zip", .free "set", .free "reversed", .cls "Game", .mkr "Game", .noat "Game" "agents"]
def fa3 : List He.Fa := [.noat "Game" "outcomes", .noat "Game" "aim", .noat "Game" "payments", .noat "Game" "lots", .noat "Game" "needs", .cls "Notary", .mkr "Notary", .noat "Notary" "known_keys", .noat "Notary" "contents", .noat "Notary" "signed", .cls "Desk", .mkr "Desk", .noat "Desk" "game", .noat "Desk" "notary", .noat "Desk" "key", .noat "Desk" "round_number", .noat "Desk" "terms_number", .noat "Desk" "commits", .noat "Desk" "opens", .noat "Desk" "list_body", .noat "Desk" "book_body", .cls "Party", .mkr "Party", .noat "Party" "game", .noat "Party" "rule", .noat "Party" "notary", .noat "Party" "key", .noat "Party" "round_number", .noat "Party" "member", .noat "Party" "report"]
def fa4 : List He.Fa := [.noat "Party" "terms_number", .noat "Party" "commit", .noat "Party" "list_body", .noat "Party" "book_body", .noat "Party" "kept", .cls "Net", .mkr "Net", .noat "Net" "notary", .noat "Net" "known_keys", .noat "Net" "honest", .noat "Net" "round_number", .noat "Net" "sent", .noat "Net" "desk", .noat "Net" "parties", .meth "Notary" "known", .meth "Notary" "number", .meth "Notary" "is_key", .meth "Notary" "sign", .meth "Notary" "is_valid", .meth "Desk" "letter", .meth "Desk" "begin", .meth "Desk" "take", .meth "Desk" "take_commit", .meth "Desk" "take_open", .meth "Party" "receipts", .meth "Party" "keep", .meth "Party" "send", .meth "Party" "take", .meth "Party" "send_commit", .meth "Party" "take_list"]
def fa5 : List He.Fa := [.meth "Net" "is_member", .meth "Net" "letters", .meth "Net" "add", .meth "Net" "begin", .meth "Net" "deliver", .meth "Net" "forge", .meth "Net" "result_of", .meth "Net" "receipts_of"]
def fas : List He.Fa := fa0 ++ (fa1 ++ (fa2 ++ (fa3 ++ (fa4 ++ (fa5)))))
def tps : List (Str × List He.Dv) := [("ZERO", [.int 0, .int 1]), ("ONE", [.int 1, .int 1]), ("AIMS", [.str "total", .str "worst", .str "paid"]), ("KINDS", [.str "call", .str "commit", .str "list", .str "open", .str "book"])]
def prs : List (Str × Str) := [("Notary", "members"), ("Party", "result")]
def nm0 : List PySem.Str := ["gcd", "UnbentError", "InvalidGame", "TooLarge", "UnknownProfile", "WrongKey", "UnknownLetter", "ZeroDenominator", "InvalidLot", "InvalidTicket", "InvalidKeys", "InvalidContent", "InvalidRound", "InvalidReport", "InvalidPlay", "ZERO", "ONE", "LONG", "is_integer", "is_ratio", "make", "add", "negate", "subtract", "compare", "sign", "floor_of", "total", "show_ratio", "MOST_AGENTS"]
def nm1 : List PySem.Str := ["MOST_KINDS", "MOST_OUTCOMES", "MOST_NEEDS", "MOST_PROFILES", "AIMS", "SINGLE_NEEDS", "LETTERS", "is_name", "are_names", "is_index", "is_swap", "is_choice", "is_need", "is_excluded", "check_limits", "check_game", "copied_kinds", "copied_need", "Game", "profiles", "profile_number", "need_words", "write_game", "write_rule", "MOST_NESTING", "KINDS", "is_content_within", "is_content", "check_content", "Notary"]
def nm2 : List PySem.Str := ["is_letter", "is_signed", "terms", "is_ticket", "is_kind", "are_pairs", "stands", "open_fits", "book_fits", "check_round", "Desk", "drawn", "Party", "MOST_LETTERS", "Net", "_law_draws", "_law_take", "_law_same", "_law_game", "_law_profiles", "_law_lot", "_law_rule", "_law_reports", "_law_copied", "_law_forge", "_law_act", "_law_course", "_law_rounds", "_law_drawn", "_law_result_is_right"]
def nm3 : List PySem.Str := ["_law_told_early"]
def nms : List PySem.Str := nm0 ++ (nm1 ++ (nm2 ++ (nm3)))
def wn0 : List PySem.Str := ["is_integer", "is_ratio", "make", "add", "negate", "subtract", "compare", "sign", "floor_of", "total", "show_ratio", "is_name", "are_names", "is_index", "check_limits", "check_game", "copied_kinds", "profiles", "profile_number", "write_game", "write_rule", "is_content_within", "is_content", "check_content", "is_letter", "is_signed", "terms", "is_ticket", "is_kind", "are_pairs"]
def wn1 : List PySem.Str := ["stands", "open_fits", "book_fits", "check_round", "drawn", "_law_draws", "_law_take", "_law_same", "_law_game", "_law_profiles", "_law_lot", "_law_rule", "_law_reports", "_law_copied", "_law_forge", "_law_act", "_law_course", "_law_rounds", "_law_drawn", "_law_result_is_right", "_law_told_early", "law", "Game", "Notary", "Desk", "Party", "Net", "ZERO", "ONE", "AIMS"]
def wn2 : List PySem.Str := ["KINDS"]
def wnt : List PySem.Str := wn0 ++ (wn1 ++ (wn2))
abbrev Rw : PySem.W.OpenRow := PySem.W.OpenLaw.row PySem.Challenge.rw_unbent_k68_whole_honest_parties_are_not
abbrev hk : PySem.W.Hook := hookX wnt fas dAs tps prs
def ob (s : PySem.W.SharedT) : AlX := obsXG wnt fas dAs tps prs (HandSHeadRun.getT s)
theorem ob_eq (s : PySem.W.SharedT) : ob s = hk.obs s.abs := obsXG_eq (HandSHeadRun.getT_eq s)
section
variable {P : Program} {w : World} {K : PySem.W.Frag} {mg : Str → Option Value} {base h : Heap}
theorem ev_of (X : K.In h) (G : h.Ns mainGlobals mg) (c : SaysX fas dAs tps prs K) : Ev P w K mg base where
  g_is_integer := He.glo_ok X G (c.fact 0)
  g_is_ratio := He.glo_ok X G (c.fact 1)
  g_make := He.glo_ok X G (c.fact 2)
  g_add := He.glo_ok X G (c.fact 3)
  g_negate := He.glo_ok X G (c.fact 4)
  g_subtract := He.glo_ok X G (c.fact 5)
  g_compare := He.glo_ok X G (c.fact 6)
  g_sign := He.glo_ok X G (c.fact 7)
  g_floor_of := He.glo_ok X G (c.fact 8)
  g_total := He.glo_ok X G (c.fact 9)
  g_show_ratio := He.glo_ok X G (c.fact 10)
  g_is_name := He.glo_ok X G (c.fact 11)
  g_are_names := He.glo_ok X G (c.fact 12)
  g_is_index := He.glo_ok X G (c.fact 13)
  g_check_limits := He.glo_ok X G (c.fact 14)
  g_check_game := He.glo_ok X G (c.fact 15)
  g_copied_kinds := He.glo_ok X G (c.fact 16)
  g_profiles := He.glo_ok X G (c.fact 17)
  g_profile_number := He.glo_ok X G (c.fact 18)
  g_write_game := He.glo_ok X G (c.fact 19)
  g_write_rule := He.glo_ok X G (c.fact 20)
  g_is_content_within := He.glo_ok X G (c.fact 21)
  g_is_content := He.glo_ok X G (c.fact 22)
  g_check_content := He.glo_ok X G (c.fact 23)
  g_is_letter := He.glo_ok X G (c.fact 24)
  g_is_signed := He.glo_ok X G (c.fact 25)
  g_terms := He.glo_ok X G (c.fact 26)
  g_is_ticket := He.glo_ok X G (c.fact 27)
  g_is_kind := He.glo_ok X G (c.fact 28)
  g_are_pairs := He.glo_ok X G (c.fact 29)
  g_stands := He.glo_ok X G (c.fact 30)
  g_open_fits := He.glo_ok X G (c.fact 31)
  g_book_fits := He.glo_ok X G (c.fact 32)
  g_check_round := He.glo_ok X G (c.fact 33)
  g_drawn := He.glo_ok X G (c.fact 34)
  g__law_draws := He.glo_ok X G (c.fact 35)
  g__law_take := He.glo_ok X G (c.fact 36)
  g__law_same := He.glo_ok X G (c.fact 37)
  g__law_game := He.glo_ok X G (c.fact 38)
  g__law_profiles := He.glo_ok X G (c.fact 39)
  g__law_lot := He.glo_ok X G (c.fact 40)
  g__law_rule := He.glo_ok X G (c.fact 41)
  g__law_reports := He.glo_ok X G (c.fact 42)
  g__law_copied := He.glo_ok X G (c.fact 43)
  g__law_forge := He.glo_ok X G (c.fact 44)
  g__law_act := He.glo_ok X G (c.fact 45)
  g__law_course := He.glo_ok X G (c.fact 46)
  g__law_rounds := He.glo_ok X G (c.fact 47)
  g__law_drawn := He.glo_ok X G (c.fact 48)
  g__law_result_is_right := He.glo_ok X G (c.fact 49)
  g__law_told_early := He.glo_ok X G (c.fact 50)
  g_law := He.glo_ok X G (c.fact 51)
  g_Game := He.glo_ok X G (c.fact 52)
  g_Notary := He.glo_ok X G (c.fact 53)
  g_Desk := He.glo_ok X G (c.fact 54)
  g_Party := He.glo_ok X G (c.fact 55)
  g_Net := He.glo_ok X G (c.fact 56)
  g_ZERO := He.glo_ok X G (c.fact 57)
  t_ZERO := fun H => He.tupB_ok (x := "ZERO") (c.tup 0) H
  g_ONE := He.glo_ok X G (c.fact 58)
  t_ONE := fun H => He.tupB_ok (x := "ONE") (c.tup 1) H
  g_AIMS := He.glo_ok X G (c.fact 59)
  t_AIMS := fun H => He.tupB_ok (x := "AIMS") (c.tup 2) H
  g_KINDS := He.glo_ok X G (c.fact 60)
  t_KINDS := fun H => He.tupB_ok (x := "KINDS") (c.tup 3) H
  i_MOST_AGENTS := He.int_ok X G (c.fact 61)
  i_MOST_KINDS := He.int_ok X G (c.fact 62)
  i_MOST_OUTCOMES := He.int_ok X G (c.fact 63)
  i_MOST_NEEDS := He.int_ok X G (c.fact 64)
  i_MOST_PROFILES := He.int_ok X G (c.fact 65)
  i_LONG := He.int_ok X G (c.fact 66)
  i_MOST_NESTING := He.int_ok X G (c.fact 67)
  i_MOST_LETTERS := He.int_ok X G (c.fact 68)
  s_LETTERS := He.str_ok X G (c.fact 69)
  b_gcd := PySem.W.mg_of X G (He.eqO_ok c.gcd)
  t_needs := fun H => tup0_ok c.needs H
  x_isinstance := He.free_ok X G (c.fact 70)
  x_int := He.free_ok X G (c.fact 71)
  x_bool := He.free_ok X G (c.fact 72)
  x_str := He.free_ok X G (c.fact 73)
  x_tuple := He.free_ok X G (c.fact 74)
  x_list := He.free_ok X G (c.fact 75)
  x_len := He.free_ok X G (c.fact 76)
  x_abs := He.free_ok X G (c.fact 77)
  x_min := He.free_ok X G (c.fact 78)
  x_all := He.free_ok X G (c.fact 79)
  x_any := He.free_ok X G (c.fact 80)
  x_sum := He.free_ok X G (c.fact 81)
  x_range := He.free_ok X G (c.fact 82)
  x_enumerate := He.free_ok X G (c.fact 83)
  x_zip := He.free_ok X G (c.fact 84)
  x_set := He.free_ok X G (c.fact 85)
  x_reversed := He.free_ok X G (c.fact 86)
  d_is_integer := c.def_ (d := dA0) 0
  d_is_ratio := c.def_ (d := dA1) 1
  d_make := c.def_ (d := dA2) 2
  d_add := c.def_ (d := dA3) 3
  d_negate := c.def_ (d := dA4) 4
  d_subtract := c.def_ (d := dA5) 5
  d_compare := c.def_ (d := dA6) 6
  d_sign := c.def_ (d := dA7) 7
  d_floor_of := c.def_ (d := dA8) 8
  d_total := c.def_ (d := dA9) 9
  d_show_ratio := c.def_ (d := dA10) 10
  d_is_name := c.def_ (d := dA11) 11
  d_are_names := c.def_ (d := dA12) 12
  d_is_index := c.def_ (d := dA13) 13
  d_check_limits := c.def_ (d := dA14) 14
  d_check_game := c.def_ (d := dA15) 15
  d_copied_kinds := c.def_ (d := dA16) 16
  d_Game_init := c.def_ (d := dA17) 17
  d_profiles := c.def_ (d := dA18) 18
  d_profile_number := c.def_ (d := dA19) 19
  d_write_game := c.def_ (d := dA20) 20
  d_write_rule := c.def_ (d := dA21) 21
  d_is_content_within := c.def_ (d := dA22) 22
  d_is_content := c.def_ (d := dA23) 23
  d_check_content := c.def_ (d := dA24) 24
  d_Notary_init := c.def_ (d := dA25) 25
  d_Notary_members := c.def_ (d := dA26) 26
  d_Notary_known := c.def_ (d := dA27) 27
  d_Notary_number := c.def_ (d := dA28) 28
  d_Notary_is_key := c.def_ (d := dA29) 29
  d_Notary_sign := c.def_ (d := dA30) 30
  d_Notary_is_valid := c.def_ (d := dA31) 31
  d_is_letter := c.def_ (d := dA32) 32
  d_is_signed := c.def_ (d := dA33) 33
  d_terms := c.def_ (d := dA34) 34
  d_is_ticket := c.def_ (d := dA35) 35
  d_is_kind := c.def_ (d := dA36) 36
  d_are_pairs := c.def_ (d := dA37) 37
  d_stands := c.def_ (d := dA38) 38
  d_open_fits := c.def_ (d := dA39) 39
  d_book_fits := c.def_ (d := dA40) 40
  d_check_round := c.def_ (d := dA41) 41
  d_Desk_init := c.def_ (d := dA42) 42
  d_Desk_letter := c.def_ (d := dA43) 43
  d_Desk_begin := c.def_ (d := dA44) 44
  d_Desk_take := c.def_ (d := dA45) 45
  d_Desk_take_commit := c.def_ (d := dA46) 46
  d_Desk_take_open := c.def_ (d := dA47) 47
  d_drawn := c.def_ (d := dA48) 48
  d_Party_init := c.def_ (d := dA49) 49
  d_Party_result := c.def_ (d := dA50) 50
  d_Party_receipts := c.def_ (d := dA51) 51
  d_Party_keep := c.def_ (d := dA52) 52
  d_Party_send := c.def_ (d := dA53) 53
  d_Party_take := c.def_ (d := dA54) 54
  d_Party_send_commit := c.def_ (d := dA55) 55
  d_Party_take_list := c.def_ (d := dA56) 56
  d_Net_init := c.def_ (d := dA57) 57
  d_Net_is_member := c.def_ (d := dA58) 58
  d_Net_letters := c.def_ (d := dA59) 59
  d_Net_add := c.def_ (d := dA60) 60
  d_Net_begin := c.def_ (d := dA61) 61
  d_Net_deliver := c.def_ (d := dA62) 62
  d_Net_forge := c.def_ (d := dA63) 63
  d_Net_result_of := c.def_ (d := dA64) 64
  d_Net_receipts_of := c.def_ (d := dA65) 65
  d__law_draws := c.def_ (d := dA66) 66
  d__law_take := c.def_ (d := dA67) 67
  d__law_same := c.def_ (d := dA68) 68
  d__law_game := c.def_ (d := dA69) 69
  d__law_profiles := c.def_ (d := dA70) 70
  d__law_lot := c.def_ (d := dA71) 71
  d__law_rule := c.def_ (d := dA72) 72
  d__law_reports := c.def_ (d := dA73) 73
  d__law_copied := c.def_ (d := dA74) 74
  d__law_forge := c.def_ (d := dA75) 75
  d__law_act := c.def_ (d := dA76) 76
  d__law_course := c.def_ (d := dA77) 77
  d__law_rounds := c.def_ (d := dA78) 78
  d__law_drawn := c.def_ (d := dA79) 79
  d__law_result_is_right := c.def_ (d := dA80) 80
  d__law_told_early := c.def_ (d := dA81) 81
  d_law := c.def_ (d := dA82) 82
  c_Game := He.cls_ok (c.fact 87)
  m_Game := He.mkr_ok (c.fact 88)
  a_Game_agents := He.noat_ok (c.fact 89)
  a_Game_outcomes := He.noat_ok (c.fact 90)
  a_Game_aim := He.noat_ok (c.fact 91)
  a_Game_payments := He.noat_ok (c.fact 92)
  a_Game_lots := He.noat_ok (c.fact 93)
  a_Game_needs := He.noat_ok (c.fact 94)
  c_Notary := He.cls_ok (c.fact 95)
  m_Notary := He.mkr_ok (c.fact 96)
  a_Notary_known_keys := He.noat_ok (c.fact 97)
  a_Notary_contents := He.noat_ok (c.fact 98)
  a_Notary_signed := He.noat_ok (c.fact 99)
  c_Desk := He.cls_ok (c.fact 100)
  m_Desk := He.mkr_ok (c.fact 101)
  a_Desk_game := He.noat_ok (c.fact 102)
  a_Desk_notary := He.noat_ok (c.fact 103)
  a_Desk_key := He.noat_ok (c.fact 104)
  a_Desk_round_number := He.noat_ok (c.fact 105)
  a_Desk_terms_number := He.noat_ok (c.fact 106)
  a_Desk_commits := He.noat_ok (c.fact 107)
  a_Desk_opens := He.noat_ok (c.fact 108)
  a_Desk_list_body := He.noat_ok (c.fact 109)
  a_Desk_book_body := He.noat_ok (c.fact 110)
  c_Party := He.cls_ok (c.fact 111)
  m_Party := He.mkr_ok (c.fact 112)
  a_Party_game := He.noat_ok (c.fact 113)
  a_Party_rule := He.noat_ok (c.fact 114)
  a_Party_notary := He.noat_ok (c.fact 115)
  a_Party_key := He.noat_ok (c.fact 116)
  a_Party_round_number := He.noat_ok (c.fact 117)
  a_Party_member := He.noat_ok (c.fact 118)
  a_Party_report := He.noat_ok (c.fact 119)
  a_Party_terms_number := He.noat_ok (c.fact 120)
  a_Party_commit := He.noat_ok (c.fact 121)
  a_Party_list_body := He.noat_ok (c.fact 122)
  a_Party_book_body := He.noat_ok (c.fact 123)
  a_Party_kept := He.noat_ok (c.fact 124)
  c_Net := He.cls_ok (c.fact 125)
  m_Net := He.mkr_ok (c.fact 126)
  a_Net_notary := He.noat_ok (c.fact 127)
  a_Net_known_keys := He.noat_ok (c.fact 128)
  a_Net_honest := He.noat_ok (c.fact 129)
  a_Net_round_number := He.noat_ok (c.fact 130)
  a_Net_sent := He.noat_ok (c.fact 131)
  a_Net_desk := He.noat_ok (c.fact 132)
  a_Net_parties := He.noat_ok (c.fact 133)
  p_Notary_members := propB_ok (c.prop 0)
  h_Notary_known := He.meth_ok (c.fact 134)
  h_Notary_number := He.meth_ok (c.fact 135)
  h_Notary_is_key := He.meth_ok (c.fact 136)
  h_Notary_sign := He.meth_ok (c.fact 137)
  h_Notary_is_valid := He.meth_ok (c.fact 138)
  h_Desk_letter := He.meth_ok (c.fact 139)
  h_Desk_begin := He.meth_ok (c.fact 140)
  h_Desk_take := He.meth_ok (c.fact 141)
  h_Desk_take_commit := He.meth_ok (c.fact 142)
  h_Desk_take_open := He.meth_ok (c.fact 143)
  p_Party_result := propB_ok (c.prop 1)
  h_Party_receipts := He.meth_ok (c.fact 144)
  h_Party_keep := He.meth_ok (c.fact 145)
  h_Party_send := He.meth_ok (c.fact 146)
  h_Party_take := He.meth_ok (c.fact 147)
  h_Party_send_commit := He.meth_ok (c.fact 148)
  h_Party_take_list := He.meth_ok (c.fact 149)
  h_Net_is_member := He.meth_ok (c.fact 150)
  h_Net_letters := He.meth_ok (c.fact 151)
  h_Net_add := He.meth_ok (c.fact 152)
  h_Net_begin := He.meth_ok (c.fact 153)
  h_Net_deliver := He.meth_ok (c.fact 154)
  h_Net_forge := He.meth_ok (c.fact 155)
  h_Net_result_of := He.meth_ok (c.fact 156)
  h_Net_receipts_of := He.meth_ok (c.fact 157)
end
end DL
/-! (Hr) -/
namespace DL
open PySem PySem.Spec PyProof.Rows L2
theorem run (w : World) : HandSHeadRun.RunEqI Rw (PySem.W.view Rw.prog [0, 101]) hk ob 20000 nms w := by
  unfold HandSHeadRun.RunEqI
  kernel_rfl
end DL
/-! (Ra) -/
namespace DL
open PySem PySem.Spec PyProof.Rows L2

local macro_rules | `(tactic| fail "a") => `(tactic| with_reducible first
  | refine ws_seq ?_ | refine ws_if ?_ | refine ws_ret ?_ | refine ws_asg ?_ | refine ws_drop ?_ | refine ws_next ?_ | refine ws_retN ?_ | refine ws_asgG ?_
  | refine wg_name ?_ | refine wgs_cons ?_ | refine wgs_nil ?_
  | refine wa_cons ?_ | refine wa_nil ?_
  | refine we_int ?_ | refine we_str ?_ | refine we_bl ?_ | refine we_non ?_
  | refine we_II ?_ | refine we_IB ?_ | refine we_IC ?_ | refine we_add ?_ | refine we_ix ?_ | refine we_eq ?_ | refine we_ne ?_ | refine we_neg ?_
  | refine we_fld ?_ | refine we_call ?_ | refine we_meth' ?_ | refine we_isi (by decide) ?_
  | refine we_and ?_ | refine we_or ?_ | refine we_not ?_ | refine we_chainI ?_ | refine wt_val ?_ | refine wt_tst ?_ | refine wt_and ?_ | refine wt_or ?_ | refine wt_not ?_ | refine wt_yes ?_
  | refine we_isN ?_ | refine we_notN ?_ | refine we_tup ?_ | refine we_lst ?_ | refine we_lstG ?_ | refine we_len ?_ | refine we_lenD ?_ | refine we_lenSet ?_ | refine we_abs ?_ | refine we_int1 ?_ | refine we_strI ?_ | refine we_min2 ?_ | refine we_gcd ?_
  | refine we_listOf ?_ | refine we_tupOf ?_ | refine we_sum ?_ | refine we_all ?_ | refine we_any ?_ | refine we_join ?_
  | refine we_eqD ?_ | refine we_neD ?_ | refine we_inD ?_ | refine we_notInD ?_ | refine we_in ?_ | refine we_inSg ?_
  | refine wo_none ?_ | refine wo_some ?_ | refine we_slL ?_ | refine we_slT ?_
  | refine we_dget ?_ | refine we_din ?_ | refine we_dnotin ?_ | refine we_append ?_ | refine we_extend ?_ | refine we_dictG ?_ | refine ws_dput ?_ | refine ws_fldF ?_ | refine ws_fldN ?_ | refine we_prop ?_
  | refine dEq_ii ?_ | refine dEq_ss ?_ | refine dEq_bb ?_ | refine dEq_nn ?_ | refine dEq_ni ?_ | refine dEq_in ?_ | refine dAdd_ii ?_ | refine dInt_i ?_ | refine dInt_b ?_ | refine dLen_l ?_ | refine dLen_t ?_)
local macro_rules | `(tactic| fail "v") => `(tactic| first | ((with_reducible apply we_var); rfl) | ((with_reducible refine wg_tup ?_ ?_); rfl))
local macro_rules | `(tactic| fail "e") => `(tactic| ((fail_if_success (with_reducible show ∃ _ : NF, _)); (fail_if_success (with_reducible show ∃ _ : PF, _)); (fail_if_success (with_reducible show ∃ _ : DF, _)); (first | with_reducible refine ⟨_, _, rfl, rfl, ?_⟩ | with_reducible refine ⟨_, rfl, ?_⟩ | with_reducible refine ⟨rfl, ?_⟩ | with_reducible refine ⟨_, _, rfl, ?_⟩ | with_reducible refine ⟨_, _, _, rfl, ?_⟩ | with_reducible refine ⟨_, _, _, _, rfl, ?_⟩ | refine ⟨Nat.le_of_ble_eq_true rfl, ?_⟩)))
local macro_rules | `(tactic| fail "h") => `(tactic| first | assumption | exact updG_same | (rw [updG_ne (by assumption)]; assumption) | (rw [updG_ne (by assumption), updG_ne (by assumption)]; assumption) | (rw [updG_ne (by assumption), updG_ne (by assumption), updG_ne (by assumption)]; assumption))
local macro_rules | `(tactic| fail "f") => `(tactic| first
  | ((with_reducible refine ⟨_, ?ds, ?d, rfl, ?h1, ?h2, ?_⟩); (case h1 => fail "h"); (case h2 => rfl))
  | ((with_reducible refine ⟨_, ?ds, rfl, ?h1, ?_⟩); (case h1 => fail "h"))
  | ((with_reducible refine ⟨_, ?ns, ?ds, rfl, ?h1, ?h2, ?_⟩); (case h1 => fail "h"); (case h2 => decide))
  | ((with_reducible refine ⟨_, rfl, ⟨?ys, ?h1⟩, ?_⟩); (case h1 => fail "h"))
  | ((with_reducible refine ⟨_, ?xs, rfl, ?h1, ?h2, ?_⟩); (case h1 => fail "h"); (case h2 => omega)))
local macro_rules | `(tactic| fail "i") => `(tactic| first | ((with_reducible apply dIx_t); rfl) | ((with_reducible apply dIx_l); rfl))
local macro_rules | `(tactic| fail "y") => `(tactic| first
  | ((with_reducible refine ⟨fun _ => ?_, fun hbb => ?nope⟩); (case nope => first | exact Bool.noConfusion (show true = false from hbb) | exact Bool.noConfusion (show false = true from hbb) | exact absurd (of_decide_eq_true hbb) (by omega) | exact absurd (of_decide_eq_false hbb) (by omega) | (simp at hbb; done) | (simp at hbb; omega)))
  | ((with_reducible refine ⟨fun hbb => ?nope, fun _ => ?_⟩); (case nope => first | exact Bool.noConfusion (show true = false from hbb) | exact Bool.noConfusion (show false = true from hbb) | exact absurd (of_decide_eq_true hbb) (by omega) | exact absurd (of_decide_eq_false hbb) (by omega) | (simp at hbb; done) | (simp at hbb; omega))))
local macro_rules | `(tactic| fail "w") => `(tactic| repeat (first | fail "a" | fail "v"))
local macro_rules | `(tactic| fail "x") => `(tactic| repeat (first | fail "a" | fail "v" | fail "f" | fail "e" | fail "i" | fail "y"))

/-! ### ratios -/
def isIntD : PyData → Bool
  | .int _ => true
  | _ => false
abbrev Rt := Int × Int
abbrev rT (a : Rt) : PyData := .tuple [.int a.1, .int a.2]
def gcdI (p q : Int) : Int := ((Nat.gcd p.natAbs q.natAbs : Nat) : Int)
def mkR (p q : Int) : Rt := (p / gcdI p q, q / gcdI p q)
def addR (a b : Rt) : Rt := mkR (a.1 * b.2 + b.1 * a.2) (a.2 * b.2)
def cmpR (a b : Rt) : Int := (if decide (0 < a.1 * b.2 - b.1 * a.2) = true then 1 else 0) - (if decide (a.1 * b.2 - b.1 * a.2 < 0) = true then 1 else 0)
/-- small -/
def Sm (a : Rt) : Prop := -1073741824 < a.1 ∧ a.1 < 1073741824 ∧ 0 < a.2 ∧ a.2 < 1073741824
instance (a : Rt) : Decidable (Sm a) := by unfold Sm; infer_instance
def smSum : Rt → List Rt → Prop
  | _, [] => True
  | a, r :: rs => Sm a ∧ Sm r ∧ smSum (addR a r) rs
instance smSumDec : ∀ (a : Rt) (rs : List Rt), Decidable (smSum a rs)
  | _, [] => isTrue trivial
  | a, r :: rs => by
    have := smSumDec (addR a r) rs
    unfold smSum; infer_instance
def isRat (a : Rt) : Bool := decide (1 ≤ a.2) && decide (gcdI a.1 a.2 = 1)
def showR (a : Rt) : Str := if a.2 = 1 then toString a.1 else toString a.1 ++ ("/" : Str) ++ toString a.2
abbrev F_is_integer : FT := F1 fun x G Φ => ∃ d, x = .dat d ∧ Φ (.dat (.bool (isIntD d))) G
abbrev F_is_ratio : FT := F1 fun x G Φ => ∃ a : Rt, x = .dat (rT a) ∧ Φ (.dat (.bool (isRat a))) G
abbrev F_make : FT := F2 fun x y G Φ => ∃ p q : Int, x = .dat (.int p) ∧ y = .dat (.int q) ∧ 0 < q ∧ q < 2 ^ 64 ∧ Φ (.dat (rT (mkR p q))) G
abbrev F_add : FT := F2 fun x y G Φ => ∃ a b : Rt, x = .dat (rT a) ∧ y = .dat (rT b) ∧ Sm a ∧ Sm b ∧ Φ (.dat (rT (addR a b))) G
abbrev F_negate : FT := F1 fun x G Φ => ∃ a : Rt, x = .dat (rT a) ∧ Φ (.dat (rT (-a.1, a.2))) G
abbrev F_subtract : FT := F2 fun x y G Φ => ∃ a b : Rt, x = .dat (rT a) ∧ y = .dat (rT b) ∧ Sm a ∧ Sm b ∧ Φ (.dat (rT (addR a (-b.1, b.2)))) G
abbrev F_compare : FT := F2 fun x y G Φ => ∃ a b : Rt, x = .dat (rT a) ∧ y = .dat (rT b) ∧ Sm a ∧ Sm b ∧ Φ (.dat (.int (cmpR a b))) G
abbrev F_sign : FT := F1 fun x G Φ => ∃ a : Rt, x = .dat (rT a) ∧ Sm a ∧ Φ (.dat (.int (cmpR a (0, 1)))) G
abbrev F_floor_of : FT := F1 fun x G Φ => ∃ a : Rt, x = .dat (rT a) ∧ Sm a ∧ Φ (.dat (.int (a.1 / a.2))) G
abbrev F_total : FT := F1 fun x G Φ => ∃ rs : List Rt, x = .dat (.list (rs.map rT)) ∧ smSum (0, 1) rs ∧ Φ (.dat (rT (rs.foldl addR (0, 1)))) G
abbrev F_show_ratio : FT := F1 fun x G Φ => ∃ a : Rt, x = .dat (rT a) ∧ Sm a ∧ (showR a).length ≤ 40 ∧ Φ (.dat (.str (showR a))) G
theorem sm_abs {i : Int} (h : -1073741824 < i ∧ i < 1073741824) : i.natAbs < 1073741824 := by omega
theorem sm_log {i : Int} (h : -1073741824 < i ∧ i < 1073741824) : i.natAbs.log2 < 1920 := by
  have h1 : i.natAbs < 2 ^ 30 := by have := sm_abs h; omega
  by_cases h0 : i.natAbs = 0
  · rw [h0]; decide
  · have := (Nat.log2_lt h0).mpr h1
    omega
theorem cmul_sm {i j : Int} (h : -1073741824 < i ∧ i < 1073741824) : CMul i j := .inl ⟨by omega, by omega⟩
theorem mul_pos' {a b : Int} (h : 0 < a) (k : 0 < b) : 0 < a * b := Int.mul_pos h k
theorem mul_lt' {a b : Int} (h : 0 < a) (k : 0 < b) (h2 : a < 1073741824) (k2 : b < 1073741824) : a * b < 2 ^ 64 := by
  have h3 : a * b ≤ 1073741824 * b := Int.mul_le_mul_of_nonneg_right (by omega) (by omega)
  omega
theorem gcdI_pos {p q : Int} (h : 0 < q) : 0 < gcdI p q := by
  have : 0 < Nat.gcd p.natAbs q.natAbs := Nat.gcd_pos_of_pos_right _ (by omega)
  unfold gcdI; omega
theorem gcdI_le {p q : Int} (h : 0 < q) : gcdI p q ≤ q := by
  have : Nat.gcd p.natAbs q.natAbs ≤ q.natAbs := Nat.gcd_le_right _ (by omega)
  unfold gcdI; omega
theorem cdivw {i j : Int} (h : 0 < j) (h2 : j < 2 ^ 64) : CDivW i j := wide_div (b := 64) h (by omega) (by decide) (by decide)
theorem smSum_at : ∀ {rs : List Rt} {a : Rt} {i : Nat} {r : Rt}, smSum a rs → rs[i]? = some r → Sm ((rs.take i).foldl addR a) ∧ Sm r
  | [], _, _, _, _, e => by simp at e
  | x :: xs, a, 0, r, h, e => by
    simp at e; subst e
    exact ⟨h.1, h.2.1⟩
  | x :: xs, a, i + 1, r, h, e => by
    have e' : xs[i]? = some r := by simpa using e
    exact smSum_at (rs := xs) h.2.2 e'

theorem sc_is_integer : FnScope ["value"] ["value"] (defScope (top 20)) := ⟨rfl, rfl, rfl, by decide +kernel, rfl, by decide +kernel, by decide +kernel⟩
theorem n_is_integer {P : Program} {w : World} {K : PySem.W.Frag} {mg : Str → Option Value} {base : Heap} {fd : FuncData} {dvs : List V} {kws : List (Str × V)} (e : Ev P w K mg base) (FD : FunD K "is_integer" "is_integer" (defArgs (top 20)) (defBody (top 20)) (defScope (top 20)) dvs kws (He.ga K "is_integer") fd) : FnOk P w K mg base CX0 1 (He.ga K "is_integer") fd ["value"] (spD K F_is_integer) := by
  have S := sc_is_integer
  refine okD FD S (fun _ _ _ h => len1 h) fun cdv A outer s H E hr => ⟨_, (pss_one (ps_ret (pe_and (k_isi K (T := "int") rfl e.x_isinstance rfl e.x_int (by decide +kernel) (pv 0)) (pe_one (pe_not (k_isi K (T := "bool") rfl e.x_isinstance rfl e.x_bool (by decide +kernel) (pv 0))))))), ?_⟩
  intro ds G Φ h
  try dsimp only [cxK, blkK]
  obtain ⟨x, rfl, d, rfl, k⟩ := h
  fail "x"
  refine ⟨fun h1 => ?_, fun h1 => ?_⟩
  · fail "x"
    cases d <;> first | exact k | cases h1
  · cases d <;> first | exact k | cases h1
theorem o_is_integer {P : Program} {w : World} {K : PySem.W.Frag} {mg : Str → Option Value} {base : Heap} (e : Ev P w K mg base) : OkD P w K mg base 1 (He.ga K "is_integer") ["value"] [] F_is_integer := by
  obtain ⟨fd, FD⟩ := e.d_is_integer
  exact okN FD (n_is_integer e FD) fun _ _ _ _ _ _ us hl => match us, hl with | [_], _ => rfl
theorem sc_is_ratio : FnScope ["value"] ["value"] (defScope (top 21)) := ⟨rfl, rfl, rfl, by decide +kernel, rfl, by decide +kernel, by decide +kernel⟩
theorem n_is_ratio {P : Program} {w : World} {K : PySem.W.Frag} {mg : Str → Option Value} {base : Heap} {fd : FuncData} {dvs : List V} {kws : List (Str × V)} (e : Ev P w K mg base) (FD : FunD K "is_ratio" "is_ratio" (defArgs (top 21)) (defBody (top 21)) (defScope (top 21)) dvs kws (He.ga K "is_ratio") fd) : FnOk P w K mg base CX0 2 (He.ga K "is_ratio") fd ["value"] (spD K F_is_ratio) := by
  have S := sc_is_ratio
  refine okD FD S (fun _ _ _ h => len1 h) fun cdv A outer s H E hr => ⟨_, (pss_cons (ps_if (PW.pt (pw_or (pt_not (pt_val (k_isi K (T := "tuple") rfl e.x_isinstance rfl e.x_tuple (by decide +kernel) (pv 0)))) (pw_or1 (pt_cmpR op_ne (pe_callB (k_len K) rfl e.x_len (by decide +kernel) (pa_cons (pv 0) pa_nil)) pe_int (nomark _))))) (pss_one (ps_ret pe_bl)) pss_nil)
      (pss_cons (ps_if (PW.pt (pw_or (pt_not (pt_val (k_cl K (o_is_integer e) (hr.mono (by decide)) e.g_is_integer (pa_cons (pe_ix (k_ix K) (pv 0) pe_int (fun _ _ => rfl)) pa_nil)))) (pw_or (pt_not (pt_val (k_cl K (o_is_integer e) (hr.mono (by decide)) e.g_is_integer (pa_cons (pe_ix (k_ix K) (pv 0) pe_int (fun _ _ => rfl)) pa_nil)))) (pw_or1 (pt_cmpR op_lt (pe_ix (k_ix K) (pv 0) pe_int (fun _ _ => rfl)) pe_int (nomark _)))))) (pss_one (ps_ret pe_bl)) pss_nil)
      (pss_one (ps_ret (pe_cmpR op_eq (pe_callBfun cr_gcd rfl e.b_gcd (pa_cons (pe_ix (k_ix K) (pv 0) pe_int (fun _ _ => rfl)) (pa_cons (pe_ix (k_ix K) (pv 0) pe_int (fun _ _ => rfl)) pa_nil))) pe_int (nomark _)))))), ?_⟩
  intro ds G Φ h
  try dsimp only [cxK, blkK]
  obtain ⟨x, rfl, a, rfl, k⟩ := h
  fail "x"
  refine ⟨fun hb => ?_, fun hb => ?_⟩
  · fail "x"
    have e : isRat a = false := by
      unfold isRat
      rw [decide_eq_false (by have := of_decide_eq_true hb; omega)]; rfl
    rw [e] at k
    exact k
  · fail "x"
    have e : isRat a = decide (gcdI a.1 a.2 = 1) := by
      unfold isRat
      rw [decide_eq_true (by have := of_decide_eq_false hb; omega)]; rfl
    rw [e] at k
    exact k
theorem o_is_ratio {P : Program} {w : World} {K : PySem.W.Frag} {mg : Str → Option Value} {base : Heap} (e : Ev P w K mg base) : OkD P w K mg base 2 (He.ga K "is_ratio") ["value"] [] F_is_ratio := by
  obtain ⟨fd, FD⟩ := e.d_is_ratio
  exact okN FD (n_is_ratio e FD) fun _ _ _ _ _ _ us hl => match us, hl with | [_], _ => rfl
theorem sc_make : FnScope ["p", "q", "divisor"] ["p", "q"] (defScope (top 22)) := ⟨rfl, rfl, rfl, by decide +kernel, rfl, by decide +kernel, by decide +kernel⟩
theorem n_make {P : Program} {w : World} {K : PySem.W.Frag} {mg : Str → Option Value} {base : Heap} {fd : FuncData} {dvs : List V} {kws : List (Str × V)} (e : Ev P w K mg base) (FD : FunD K "make" "make" (defArgs (top 22)) (defBody (top 22)) (defScope (top 22)) dvs kws (He.ga K "make") fd) : FnOk P w K mg base CX0 1 (He.ga K "make") fd ["p", "q"] (spD K F_make) := by
  have S := sc_make
  refine okD FD S (fun _ _ _ h => len2 h) fun cdv A outer s H E hr => ⟨_, (pss_cons (ps_if (pt_cmpR op_eq (pv 1) pe_int (nomark _)) pss_never pss_nil)
      (pss_cons (ps_set (i := 2) S.nd rfl (by first | exact Or.inl rfl | exact Or.inr rfl) (pe_callBfun cr_gcd rfl e.b_gcd (pa_cons (pv 0) (pa_cons (pv 1) pa_nil))))
      (pss_cons (ps_if (pt_cmpR op_lt (pv 1) pe_int (nomark _)) pss_never pss_nil)
      (pss_one (ps_ret (pe_tup (pa_cons (pe_op op_fdivW (pv 0) (pv 2)) (pa_cons (pe_op op_fdivW (pv 1) (pv 2)) pa_nil)))))))), ?_⟩
  intro ds G Φ h
  try dsimp only [cxK, blkK]
  obtain ⟨x, y, rfl, p, q, rfl, rfl, h1, h2, k⟩ := h
  have g1 := gcdI_pos (p := p) h1
  have g2 := gcdI_le (p := p) h1
  have g3 : gcdI p q < 2 ^ 64 := by omega
  fail "x"
  refine ⟨cdivw (j := gcdI p q) g1 g3, ?_⟩
  fail "x"
  refine ⟨cdivw (j := gcdI p q) g1 g3, ?_⟩
  fail "x"
  exact k
theorem o_make {P : Program} {w : World} {K : PySem.W.Frag} {mg : Str → Option Value} {base : Heap} (e : Ev P w K mg base) : OkD P w K mg base 1 (He.ga K "make") ["p", "q"] [] F_make := by
  obtain ⟨fd, FD⟩ := e.d_make
  exact okJ FD (n_make e FD) 2 1 (by simp) rfl fun _ _ _ _ _ _ _ us its hl hi => match us, hl, its, hi with | [_, _], _, [_], _ => ⟨_, rfl, rfl⟩
theorem o_make1 {P : Program} {w : World} {K : PySem.W.Frag} {mg : Str → Option Value} {base : Heap} (e : Ev P w K mg base) : OkD P w K mg base 1 (He.ga K "make") ["p", "q"] [V.int 1] F_make := by
  obtain ⟨fd, FD⟩ := e.d_make
  exact okJ FD (n_make e FD) 1 0 (by simp) rfl fun _ _ _ _ _ _ _ us its hl hi => match us, hl, its, hi with | [_], _, [_], _ => ⟨_, rfl, rfl⟩
theorem sc_add : FnScope ["a", "b"] ["a", "b"] (defScope (top 23)) := ⟨rfl, rfl, rfl, by decide +kernel, rfl, by decide +kernel, by decide +kernel⟩
theorem n_add {P : Program} {w : World} {K : PySem.W.Frag} {mg : Str → Option Value} {base : Heap} {fd : FuncData} {dvs : List V} {kws : List (Str × V)} (e : Ev P w K mg base) (FD : FunD K "add" "add" (defArgs (top 23)) (defBody (top 23)) (defScope (top 23)) dvs kws (He.ga K "add") fd) : FnOk P w K mg base CX0 2 (He.ga K "add") fd ["a", "b"] (spD K F_add) := by
  have S := sc_add
  refine okD FD S (fun _ _ _ h => len2 h) fun cdv A outer s H E hr => ⟨_, (pss_one (ps_ret (k_cl K (o_make e) (hr.mono (by decide)) e.g_make (pa_cons (pe_op (k_add K) (pe_op op_mul (pe_ix (k_ix K) (pv 0) pe_int (fun _ _ => rfl)) (pe_ix (k_ix K) (pv 1) pe_int (fun _ _ => rfl))) (pe_op op_mul (pe_ix (k_ix K) (pv 1) pe_int (fun _ _ => rfl)) (pe_ix (k_ix K) (pv 0) pe_int (fun _ _ => rfl)))) (pa_cons (pe_op op_mul (pe_ix (k_ix K) (pv 0) pe_int (fun _ _ => rfl)) (pe_ix (k_ix K) (pv 1) pe_int (fun _ _ => rfl))) pa_nil))))), ?_⟩
  intro ds G Φ h
  try dsimp only [cxK, blkK]
  obtain ⟨x, y, rfl, a, b, rfl, rfl, ⟨a1, a2, a3, a4⟩, ⟨b1, b2, b3, b4⟩, k⟩ := h
  fail "x"
  refine ⟨cmul_sm ⟨a1, a2⟩, ?_⟩
  fail "x"
  refine ⟨cmul_sm ⟨b1, b2⟩, ?_⟩
  fail "x"
  refine ⟨cmul_sm ⟨by omega, a4⟩, ?_⟩
  fail "x"
  exact ⟨mul_pos' a3 b3, mul_lt' a3 b3 a4 b4, k⟩
theorem o_add {P : Program} {w : World} {K : PySem.W.Frag} {mg : Str → Option Value} {base : Heap} (e : Ev P w K mg base) : OkD P w K mg base 2 (He.ga K "add") ["a", "b"] [] F_add := by
  obtain ⟨fd, FD⟩ := e.d_add
  exact okN FD (n_add e FD) fun _ _ _ _ _ _ us hl => match us, hl with | [_, _], _ => rfl
theorem sc_negate : FnScope ["a"] ["a"] (defScope (top 24)) := ⟨rfl, rfl, rfl, by decide +kernel, rfl, by decide +kernel, by decide +kernel⟩
theorem n_negate {P : Program} {w : World} {K : PySem.W.Frag} {mg : Str → Option Value} {base : Heap} {fd : FuncData} {dvs : List V} {kws : List (Str × V)} (e : Ev P w K mg base) (FD : FunD K "negate" "negate" (defArgs (top 24)) (defBody (top 24)) (defScope (top 24)) dvs kws (He.ga K "negate") fd) : FnOk P w K mg base CX0 1 (He.ga K "negate") fd ["a"] (spD K F_negate) := by
  have S := sc_negate
  refine okD FD S (fun _ _ _ h => len1 h) fun cdv A outer s H E hr => ⟨_, (pss_one (ps_ret (pe_tup (pa_cons (pe_un un_neg (pe_ix (k_ix K) (pv 0) pe_int (fun _ _ => rfl))) (pa_cons (pe_ix (k_ix K) (pv 0) pe_int (fun _ _ => rfl)) pa_nil))))), ?_⟩
  intro ds G Φ h
  try dsimp only [cxK, blkK]
  obtain ⟨x, rfl, a, rfl, k⟩ := h
  fail "x"
  exact k
theorem o_negate {P : Program} {w : World} {K : PySem.W.Frag} {mg : Str → Option Value} {base : Heap} (e : Ev P w K mg base) : OkD P w K mg base 1 (He.ga K "negate") ["a"] [] F_negate := by
  obtain ⟨fd, FD⟩ := e.d_negate
  exact okN FD (n_negate e FD) fun _ _ _ _ _ _ us hl => match us, hl with | [_], _ => rfl
theorem sc_subtract : FnScope ["a", "b"] ["a", "b"] (defScope (top 25)) := ⟨rfl, rfl, rfl, by decide +kernel, rfl, by decide +kernel, by decide +kernel⟩
theorem n_subtract {P : Program} {w : World} {K : PySem.W.Frag} {mg : Str → Option Value} {base : Heap} {fd : FuncData} {dvs : List V} {kws : List (Str × V)} (e : Ev P w K mg base) (FD : FunD K "subtract" "subtract" (defArgs (top 25)) (defBody (top 25)) (defScope (top 25)) dvs kws (He.ga K "subtract") fd) : FnOk P w K mg base CX0 3 (He.ga K "subtract") fd ["a", "b"] (spD K F_subtract) := by
  have S := sc_subtract
  refine okD FD S (fun _ _ _ h => len2 h) fun cdv A outer s H E hr => ⟨_, (pss_one (ps_ret (k_cl K (o_add e) (hr.mono (by decide)) e.g_add (pa_cons (pv 0) (pa_cons (k_cl K (o_negate e) (hr.mono (by decide)) e.g_negate (pa_cons (pv 1) pa_nil)) pa_nil))))), ?_⟩
  intro ds G Φ h
  try dsimp only [cxK, blkK]
  obtain ⟨x, y, rfl, a, b, rfl, rfl, ha, ⟨b1, b2, b3, b4⟩, k⟩ := h
  fail "x"
  exact ⟨ha, ⟨by show _ < -b.1; omega, by show -b.1 < _; omega, b3, b4⟩, k⟩
theorem o_subtract {P : Program} {w : World} {K : PySem.W.Frag} {mg : Str → Option Value} {base : Heap} (e : Ev P w K mg base) : OkD P w K mg base 3 (He.ga K "subtract") ["a", "b"] [] F_subtract := by
  obtain ⟨fd, FD⟩ := e.d_subtract
  exact okN FD (n_subtract e FD) fun _ _ _ _ _ _ us hl => match us, hl with | [_, _], _ => rfl
theorem sc_compare : FnScope ["a", "b", "difference"] ["a", "b"] (defScope (top 26)) := ⟨rfl, rfl, rfl, by decide +kernel, rfl, by decide +kernel, by decide +kernel⟩
theorem n_compare {P : Program} {w : World} {K : PySem.W.Frag} {mg : Str → Option Value} {base : Heap} {fd : FuncData} {dvs : List V} {kws : List (Str × V)} (e : Ev P w K mg base) (FD : FunD K "compare" "compare" (defArgs (top 26)) (defBody (top 26)) (defScope (top 26)) dvs kws (He.ga K "compare") fd) : FnOk P w K mg base CX0 1 (He.ga K "compare") fd ["a", "b"] (spD K F_compare) := by
  have S := sc_compare
  refine okD FD S (fun _ _ _ h => len2 h) fun cdv A outer s H E hr => ⟨_, (pss_cons (ps_set (i := 2) S.nd rfl (by first | exact Or.inl rfl | exact Or.inr rfl) (pe_op op_sub (pe_op op_mul (pe_ix (k_ix K) (pv 0) pe_int (fun _ _ => rfl)) (pe_ix (k_ix K) (pv 1) pe_int (fun _ _ => rfl))) (pe_op op_mul (pe_ix (k_ix K) (pv 1) pe_int (fun _ _ => rfl)) (pe_ix (k_ix K) (pv 0) pe_int (fun _ _ => rfl)))))
      (pss_one (ps_ret (pe_op op_sub (pe_callTy call_intU rfl e.x_int (by decide +kernel) (pa_cons (pe_cmpR op_gt (pv 2) pe_int (nomark _)) pa_nil)) (pe_callTy call_intU rfl e.x_int (by decide +kernel) (pa_cons (pe_cmpR op_lt (pv 2) pe_int (nomark _)) pa_nil)))))), ?_⟩
  intro ds G Φ h
  try dsimp only [cxK, blkK]
  obtain ⟨x, y, rfl, a, b, rfl, rfl, ⟨a1, a2, a3, a4⟩, ⟨b1, b2, b3, b4⟩, k⟩ := h
  fail "x"
  refine ⟨cmul_sm ⟨a1, a2⟩, ?_⟩
  fail "x"
  refine ⟨cmul_sm ⟨b1, b2⟩, ?_⟩
  fail "x"
  exact k
theorem o_compare {P : Program} {w : World} {K : PySem.W.Frag} {mg : Str → Option Value} {base : Heap} (e : Ev P w K mg base) : OkD P w K mg base 1 (He.ga K "compare") ["a", "b"] [] F_compare := by
  obtain ⟨fd, FD⟩ := e.d_compare
  exact okN FD (n_compare e FD) fun _ _ _ _ _ _ us hl => match us, hl with | [_, _], _ => rfl
theorem sc_sign : FnScope ["a"] ["a"] (defScope (top 27)) := ⟨rfl, rfl, rfl, by decide +kernel, rfl, by decide +kernel, by decide +kernel⟩
theorem n_sign {P : Program} {w : World} {K : PySem.W.Frag} {mg : Str → Option Value} {base : Heap} {fd : FuncData} {dvs : List V} {kws : List (Str × V)} (e : Ev P w K mg base) (FD : FunD K "sign" "sign" (defArgs (top 27)) (defBody (top 27)) (defScope (top 27)) dvs kws (He.ga K "sign") fd) : FnOk P w K mg base CX0 2 (He.ga K "sign") fd ["a"] (spD K F_sign) := by
  have S := sc_sign
  refine okD FD S (fun _ _ _ h => len1 h) fun cdv A outer s H E hr => ⟨_, (pss_one (ps_ret (k_cl K (o_compare e) (hr.mono (by decide)) e.g_compare (pa_cons (pv 0) (pa_cons (pe_gR e.g_ZERO) pa_nil))))), ?_⟩
  intro ds G Φ h
  try dsimp only [cxK, blkK]
  obtain ⟨x, rfl, a, rfl, ha, k⟩ := h
  fail "x"
  refine we_gT e.t_ZERO (fun _ _ => .cons (.int 0) (.cons (.int 1) .nil)) ?_
  fail "x"
  exact ⟨a, (0, 1), rfl, rfl, ha, by decide, k⟩
theorem o_sign {P : Program} {w : World} {K : PySem.W.Frag} {mg : Str → Option Value} {base : Heap} (e : Ev P w K mg base) : OkD P w K mg base 2 (He.ga K "sign") ["a"] [] F_sign := by
  obtain ⟨fd, FD⟩ := e.d_sign
  exact okN FD (n_sign e FD) fun _ _ _ _ _ _ us hl => match us, hl with | [_], _ => rfl
theorem sc_floor_of : FnScope ["a"] ["a"] (defScope (top 28)) := ⟨rfl, rfl, rfl, by decide +kernel, rfl, by decide +kernel, by decide +kernel⟩
theorem n_floor_of {P : Program} {w : World} {K : PySem.W.Frag} {mg : Str → Option Value} {base : Heap} {fd : FuncData} {dvs : List V} {kws : List (Str × V)} (e : Ev P w K mg base) (FD : FunD K "floor_of" "floor_of" (defArgs (top 28)) (defBody (top 28)) (defScope (top 28)) dvs kws (He.ga K "floor_of") fd) : FnOk P w K mg base CX0 1 (He.ga K "floor_of") fd ["a"] (spD K F_floor_of) := by
  have S := sc_floor_of
  refine okD FD S (fun _ _ _ h => len1 h) fun cdv A outer s H E hr => ⟨_, (pss_one (ps_ret (pe_op op_fdivW (pe_ix (k_ix K) (pv 0) pe_int (fun _ _ => rfl)) (pe_ix (k_ix K) (pv 0) pe_int (fun _ _ => rfl))))), ?_⟩
  intro ds G Φ h
  try dsimp only [cxK, blkK]
  obtain ⟨x, rfl, a, rfl, ⟨a1, a2, a3, a4⟩, k⟩ := h
  fail "x"
  exact ⟨cdivw a3 (by omega), k⟩
theorem o_floor_of {P : Program} {w : World} {K : PySem.W.Frag} {mg : Str → Option Value} {base : Heap} (e : Ev P w K mg base) : OkD P w K mg base 1 (He.ga K "floor_of") ["a"] [] F_floor_of := by
  obtain ⟨fd, FD⟩ := e.d_floor_of
  exact okN FD (n_floor_of e FD) fun _ _ _ _ _ _ us hl => match us, hl with | [_], _ => rfl
theorem sc_total : FnScope ["values", "result", "value"] ["values"] (defScope (top 29)) := ⟨rfl, rfl, rfl, by decide +kernel, rfl, by decide +kernel, by decide +kernel⟩
theorem n_total {P : Program} {w : World} {K : PySem.W.Frag} {mg : Str → Option Value} {base : Heap} {fd : FuncData} {dvs : List V} {kws : List (Str × V)} (e : Ev P w K mg base) (FD : FunD K "total" "total" (defArgs (top 29)) (defBody (top 29)) (defScope (top 29)) dvs kws (He.ga K "total") fd) : FnOk P w K mg base CX0 3 (He.ga K "total") fd ["values"] (spD K F_total) := by
  have S := sc_total
  refine okD FD S (fun _ _ _ h => len1 h) fun cdv A outer s H E hr => ⟨_, (pss_cons (ps_set (i := 1) S.nd rfl (by first | exact Or.inl rfl | exact Or.inr rfl) (pe_gR e.g_ZERO))
      (pss_cons (ps_for PassesOwn.never rfl (k_ilist K (pv 0)) (pg_name (i := 2) S.nd rfl (by first | exact Or.inl rfl | exact Or.inr rfl)) (pss_one (ps_set (i := 1) S.nd rfl (by first | exact Or.inl rfl | exact Or.inr rfl) (k_cl K (o_add e) (hr.mono (by decide)) e.g_add (pa_cons (pv 1) (pa_cons (pv 2) pa_nil))))))
      (pss_one (ps_ret (pv 1))))), ?_⟩
  intro ds G Φ h
  try dsimp only [cxK, blkK]
  obtain ⟨x, rfl, rs, rfl, hs, k⟩ := h
  fail "x"
  refine we_gT e.t_ZERO (fun _ _ => .cons (.int 0) (.cons (.int 1) .nil)) ?_
  fail "x"
  refine ws_for (wi_list ?_)
  fail "x"
  refine ⟨[2], fun i δ G' => ∃ y, δ = [some (.dat (.list (rs.map rT))), some (.dat (rT ((rs.take i).foldl addR (0, 1)))), y] ∧ G' = G, ⟨none, rfl, rfl⟩, ?_, ?_⟩
  · rintro i x δ' G' hx ⟨y, rfl, rfl⟩
    obtain ⟨r, hr, rfl⟩ : ∃ r, rs[i]? = some r ∧ rT r = x := by simpa using hx
    obtain ⟨s1, s2⟩ := smSum_at hs hr
    fail "x"
    refine ⟨s1, s2, some (.dat (rT r)), ?_, rfl⟩
    rw [take_at hr, List.foldl_append]; rfl
  · rintro δ' G' ⟨y, rfl, rfl⟩
    rw [List.length_map, List.take_length]
    fail "x"
    exact k
theorem o_total {P : Program} {w : World} {K : PySem.W.Frag} {mg : Str → Option Value} {base : Heap} (e : Ev P w K mg base) : OkD P w K mg base 3 (He.ga K "total") ["values"] [] F_total := by
  obtain ⟨fd, FD⟩ := e.d_total
  exact okN FD (n_total e FD) fun _ _ _ _ _ _ us hl => match us, hl with | [_], _ => rfl
theorem sc_show_ratio : FnScope ["a"] ["a"] (defScope (top 30)) := ⟨rfl, rfl, rfl, by decide +kernel, rfl, by decide +kernel, by decide +kernel⟩
theorem n_show_ratio {P : Program} {w : World} {K : PySem.W.Frag} {mg : Str → Option Value} {base : Heap} {fd : FuncData} {dvs : List V} {kws : List (Str × V)} (e : Ev P w K mg base) (FD : FunD K "show_ratio" "show_ratio" (defArgs (top 30)) (defBody (top 30)) (defScope (top 30)) dvs kws (He.ga K "show_ratio") fd) : FnOk P w K mg base CX0 1 (He.ga K "show_ratio") fd ["a"] (spD K F_show_ratio) := by
  have S := sc_show_ratio
  refine okD FD S (fun _ _ _ h => len1 h) fun cdv A outer s H E hr => ⟨_, (pss_cons (ps_if (PW.pt (pw_or (pt_cmpR op_ge (pe_callB call_absU rfl e.x_abs (by decide +kernel) (pa_cons (pe_ix (k_ix K) (pv 0) pe_int (fun _ _ => rfl)) pa_nil)) (pe_gI e.i_LONG) (nomark _)) (pw_or1 (pt_cmpR op_ge (pe_ix (k_ix K) (pv 0) pe_int (fun _ _ => rfl)) (pe_gI e.i_LONG) (nomark _))))) pss_never pss_nil)
      (pss_cons (ps_if (pt_cmpR op_eq (pe_ix (k_ix K) (pv 0) pe_int (fun _ _ => rfl)) pe_int (nomark _)) (pss_one (ps_ret (pe_callTy call_strU rfl e.x_str (by decide +kernel) (pa_cons (pe_ix (k_ix K) (pv 0) pe_int (fun _ _ => rfl)) pa_nil)))) pss_nil)
      (pss_one (ps_ret (pe_op (k_add K) (pe_op (k_add K) (pe_callTy call_strU rfl e.x_str (by decide +kernel) (pa_cons (pe_ix (k_ix K) (pv 0) pe_int (fun _ _ => rfl)) pa_nil)) pe_str) (pe_callTy call_strU rfl e.x_str (by decide +kernel) (pa_cons (pe_ix (k_ix K) (pv 0) pe_int (fun _ _ => rfl)) pa_nil))))))), ?_⟩
  intro ds G Φ h
  try dsimp only [cxK, blkK]
  obtain ⟨x, rfl, a, rfl, ⟨a1, a2, a3, a4⟩, hl, k⟩ := h
  fail "x"
  refine ⟨fun hb => ?_, fun hb => ?_⟩
  · fail "x"
    refine ⟨sm_log ⟨a1, a2⟩, ?_⟩
    unfold showR at k
    rw [if_pos (of_decide_eq_true hb)] at k
    exact k
  · unfold showR at k hl
    rw [if_neg (of_decide_eq_false hb)] at k hl
    fail "x"
    refine ⟨sm_log ⟨a1, a2⟩, ?_⟩
    fail "x"
    rw [Str.length_append, Str.length_append] at hl
    refine dAdd_ss (by omega) ?_
    fail "x"
    refine ⟨sm_log ⟨by omega, a4⟩, ?_⟩
    exact dAdd_ss (by rw [Str.length_append]; omega) k
theorem o_show_ratio {P : Program} {w : World} {K : PySem.W.Frag} {mg : Str → Option Value} {base : Heap} (e : Ev P w K mg base) : OkD P w K mg base 1 (He.ga K "show_ratio") ["a"] [] F_show_ratio := by
  obtain ⟨fd, FD⟩ := e.d_show_ratio
  exact okN FD (n_show_ratio e FD) fun _ _ _ _ _ _ us hl => match us, hl with | [_], _ => rfl
end DL
/-! (Ga) -/
namespace DL
open PySem PySem.Spec PyProof.Rows L2

local macro_rules | `(tactic| fail "a") => `(tactic| with_reducible first
  | refine ws_seq ?_ | refine ws_if ?_ | refine ws_ret ?_ | refine ws_asg ?_ | refine ws_drop ?_ | refine ws_next ?_ | refine ws_retN ?_ | refine ws_asgG ?_
  | refine wg_name ?_ | refine wgs_cons ?_ | refine wgs_nil ?_
  | refine wa_cons ?_ | refine wa_nil ?_
  | refine we_int ?_ | refine we_str ?_ | refine we_bl ?_ | refine we_non ?_
  | refine we_II ?_ | refine we_IB ?_ | refine we_IC ?_ | refine we_add ?_ | refine we_ix ?_ | refine we_eq ?_ | refine we_ne ?_ | refine we_neg ?_
  | refine we_fld ?_ | refine we_call ?_ | refine we_meth' ?_ | refine we_isi (by decide) ?_
  | refine we_and ?_ | refine we_or ?_ | refine we_not ?_ | refine we_chainI ?_ | refine wt_val ?_ | refine wt_tst ?_ | refine wt_and ?_ | refine wt_or ?_ | refine wt_not ?_ | refine wt_yes ?_
  | refine we_isN ?_ | refine we_notN ?_ | refine we_tup ?_ | refine we_lst ?_ | refine we_lstG ?_ | refine we_len ?_ | refine we_lenD ?_ | refine we_lenSet ?_ | refine we_abs ?_ | refine we_int1 ?_ | refine we_strI ?_ | refine we_min2 ?_ | refine we_gcd ?_
  | refine we_listOf ?_ | refine we_tupOf ?_ | refine we_sum ?_ | refine we_all ?_ | refine we_any ?_ | refine we_join ?_
  | refine we_eqD ?_ | refine we_neD ?_ | refine we_inD ?_ | refine we_notInD ?_ | refine we_in ?_ | refine we_inSg ?_
  | refine wo_none ?_ | refine wo_some ?_ | refine we_slL ?_ | refine we_slT ?_
  | refine we_dget ?_ | refine we_din ?_ | refine we_dnotin ?_ | refine we_append ?_ | refine we_extend ?_ | refine we_dictG ?_ | refine ws_dput ?_ | refine ws_fldF ?_ | refine ws_fldN ?_ | refine we_prop ?_
  | refine dEq_ii ?_ | refine dEq_ss ?_ | refine dEq_bb ?_ | refine dEq_nn ?_ | refine dEq_ni ?_ | refine dEq_in ?_ | refine dAdd_ii ?_ | refine dInt_i ?_ | refine dInt_b ?_ | refine dLen_l ?_ | refine dLen_t ?_)
local macro_rules | `(tactic| fail "v") => `(tactic| first | ((with_reducible apply we_var); rfl) | ((with_reducible refine wg_tup ?_ ?_); rfl))
local macro_rules | `(tactic| fail "e") => `(tactic| ((fail_if_success (with_reducible show ∃ _ : NF, _)); (fail_if_success (with_reducible show ∃ _ : PF, _)); (fail_if_success (with_reducible show ∃ _ : DF, _)); (first | with_reducible refine ⟨_, _, rfl, rfl, ?_⟩ | with_reducible refine ⟨_, rfl, ?_⟩ | with_reducible refine ⟨rfl, ?_⟩ | with_reducible refine ⟨_, _, rfl, ?_⟩ | with_reducible refine ⟨_, _, _, rfl, ?_⟩ | with_reducible refine ⟨_, _, _, _, rfl, ?_⟩ | refine ⟨Nat.le_of_ble_eq_true rfl, ?_⟩)))
local macro_rules | `(tactic| fail "h") => `(tactic| first | assumption | exact updG_same | (rw [updG_ne (by assumption)]; assumption) | (rw [updG_ne (by assumption), updG_ne (by assumption)]; assumption) | (rw [updG_ne (by assumption), updG_ne (by assumption), updG_ne (by assumption)]; assumption))
local macro_rules | `(tactic| fail "f") => `(tactic| first
  | ((with_reducible refine ⟨_, ?ds, ?d, rfl, ?h1, ?h2, ?_⟩); (case h1 => fail "h"); (case h2 => rfl))
  | ((with_reducible refine ⟨_, ?ds, rfl, ?h1, ?_⟩); (case h1 => fail "h"))
  | ((with_reducible refine ⟨_, ?ns, ?ds, rfl, ?h1, ?h2, ?_⟩); (case h1 => fail "h"); (case h2 => decide))
  | ((with_reducible refine ⟨_, rfl, ⟨?ys, ?h1⟩, ?_⟩); (case h1 => fail "h"))
  | ((with_reducible refine ⟨_, ?xs, rfl, ?h1, ?h2, ?_⟩); (case h1 => fail "h"); (case h2 => omega)))
local macro_rules | `(tactic| fail "i") => `(tactic| first | ((with_reducible apply dIx_t); rfl) | ((with_reducible apply dIx_l); rfl))
local macro_rules | `(tactic| fail "y") => `(tactic| first
  | ((with_reducible refine ⟨fun _ => ?_, fun hbb => ?nope⟩); (case nope => first | exact Bool.noConfusion (show true = false from hbb) | exact Bool.noConfusion (show false = true from hbb) | exact absurd (of_decide_eq_true hbb) (by omega) | exact absurd (of_decide_eq_false hbb) (by omega) | (simp at hbb; done) | (simp at hbb; omega)))
  | ((with_reducible refine ⟨fun hbb => ?nope, fun _ => ?_⟩); (case nope => first | exact Bool.noConfusion (show true = false from hbb) | exact Bool.noConfusion (show false = true from hbb) | exact absurd (of_decide_eq_true hbb) (by omega) | exact absurd (of_decide_eq_false hbb) (by omega) | (simp at hbb; done) | (simp at hbb; omega))))
local macro_rules | `(tactic| fail "w") => `(tactic| repeat (first | fail "a" | fail "v"))
local macro_rules | `(tactic| fail "x") => `(tactic| repeat (first | fail "a" | fail "v" | fail "f" | fail "e" | fail "i" | fail "y"))

/-! ### games -/
abbrev Kd := Str × Rt × Rt × List Rt
abbrev Ag := Str × List Kd
def abc : Str := "abcdefghijklmnopqrstuvwxyz"
def goodW (z : Str) : Prop := 1 ≤ z.length ∧ z.length ≤ 12 ∧ ∀ c ∈ z.cps.toList, c ∈ abc.cps.toList
instance (z : Str) : Decidable (goodW z) := by unfold goodW; infer_instance
abbrev kdD (k : Kd) : PyData := .tuple [.str k.1, rT k.2.1, rT k.2.2.1, .list (k.2.2.2.map rT)]
abbrev agD (a : Ag) : PyData := .tuple [.str a.1, .list (a.2.map kdD)]
def outs : List Str := ["none", "one", "two"]
def okWs (ws : List Str) : Prop := ws ≠ [] ∧ ws.Nodup ∧ ws.length < 100 ∧ ∀ z ∈ ws, goodW z
instance (ws : List Str) : Decidable (okWs ws) := by unfold okWs; infer_instance
def okKd (k : Kd) : Prop := k.2.1 = (1, 1) ∧ k.2.2.1 = (0, 1) ∧ k.2.2.2.length = 3 ∧ ∀ r ∈ k.2.2.2, ∃ i : Int, 0 ≤ i ∧ i < 5 ∧ r = (i, 1)
structure okG (A : List Ag) : Prop where
  n1 : 1 ≤ A.length
  n3 : A.length ≤ 3
  nm : okWs (A.map (·.1))
  kn : ∀ a ∈ A, okWs (a.2.map (·.1))
  k1 : ∀ a ∈ A, 1 ≤ a.2.length
  k2 : ∀ a ∈ A, a.2.length ≤ 2
  kd : ∀ a ∈ A, ∀ k ∈ a.2, okKd k
abbrev gameO (K : PySem.W.Frag) (A : List Ag) : GO := .ins (He.ga K "Game") ns_Game [.dat (.list (A.map agD)), .dat (.list (outs.map .str)), .dat (.str "total"), .dat (.bool false), .dat (.bool true), .dat (.list [])]
abbrev F_is_name : FT := F1 fun x G Φ => ∃ z : Str, x = .dat (.str z) ∧ goodW z ∧ Φ (.dat (.bool true)) G
abbrev F_are_names : FT := F1 fun x G Φ => ∃ ws : List Str, x = .dat (.list (ws.map .str)) ∧ okWs ws ∧ Φ (.dat (.bool true)) G
abbrev F_is_index : FT := F2 fun x y G Φ => ∃ i n : Int, x = .dat (.int i) ∧ y = .dat (.int n) ∧ Φ (.dat (.bool (decide (0 ≤ i) && decide (i < n)))) G
abbrev F_check_limits : FT := F3 fun x y z G Φ => ∃ A : List Ag, x = .dat (.list (A.map agD)) ∧ y = .dat (.list (outs.map .str)) ∧ z = .dat (.tuple []) ∧ okG A ∧ Φ (.dat .none) G
abbrev F_check_game : FT := F4 fun x y u z G Φ => ∃ A : List Ag, x = .dat (.list (A.map agD)) ∧ y = .dat (.list (outs.map .str)) ∧ u = .dat (.str "total") ∧ z = .dat (.tuple []) ∧ okG A ∧ Φ (.dat .none) G
abbrev F_copied_kinds : FT := F1 fun x G Φ => ∃ ks : List Kd, x = .dat (.list (ks.map kdD)) ∧ ks.length ≤ 2 ∧ Φ (.dat (.list (ks.map kdD))) G
/-- the tuples of kinds, in order -/
def profs : List Nat → List (List Nat)
  | ms => ms.foldl (fun rows m => rows.flatMap fun r => (List.range m).map fun k => r ++ [k]) [[]]
abbrev prD (r : List Nat) : PyData := .tuple (r.map fun k => .int (k : Nat))
def msOf (A : List Ag) : List Nat := A.map fun a => a.2.length
def pnum (ms r : List Nat) : Nat := (ms.zip r).foldl (fun n p => n * p.1 + p.2) 0
abbrev F_profiles (K : PySem.W.Frag) : FT := F1 fun x G Φ => ∃ g A, x = .obj g ∧ G g = some (gameO K A) ∧ okG A ∧ Φ (.dat (.list ((profs (msOf A)).map prD))) G
abbrev F_profile_number (K : PySem.W.Frag) : FT := F2 fun x y G Φ => ∃ g A r, x = .obj g ∧ G g = some (gameO K A) ∧ okG A ∧ y = .dat (prD r) ∧ r.length = A.length ∧ (∀ p ∈ (msOf A).zip r, p.2 < p.1) ∧ Φ (.dat (.int (pnum (msOf A) r : Nat))) G
abbrev F_Game_init (K : PySem.W.Frag) : FT := F7 fun s ag ou ai pa lo ne G Φ => ∃ g A, s = .obj g ∧ G g = some (.ins (He.ga K "Game") [] []) ∧ okG A ∧ ag = .dat (.list (A.map agD)) ∧ ou = .dat (.list (outs.map .str)) ∧ ai = .dat (.str "total") ∧ pa = .dat (.bool false) ∧ lo = .dat (.bool true) ∧ ne = .dat (.tuple []) ∧
  Φ (.dat .none) (updG G g (gameO K A))

theorem sc_is_name : FnScope ["word", "letter"] ["word"] (defScope (top 40)) := ⟨rfl, rfl, rfl, by decide +kernel, rfl, by decide +kernel, by decide +kernel⟩
theorem n_is_name {P : Program} {w : World} {K : PySem.W.Frag} {mg : Str → Option Value} {base : Heap} {fd : FuncData} {dvs : List V} {kws : List (Str × V)} (e : Ev P w K mg base) (FD : FunD K "is_name" "is_name" (defArgs (top 40)) (defBody (top 40)) (defScope (top 40)) dvs kws (He.ga K "is_name") fd) : FnOk P w K mg base CX0 1 (He.ga K "is_name") fd ["word"] (spD K F_is_name) := by
  have S := sc_is_name
  refine okD FD S (fun _ _ _ h => len1 h) fun cdv A outer s H E hr => ⟨_, (pss_one (ps_ret (pe_and (pe_chain op_le op_le pe_int (pe_callB (k_len K) rfl e.x_len (by decide +kernel) (pa_cons (pv 0) pa_nil)) pe_int) (pe_one (pe_callB (k_all K rfl) rfl e.x_all (by decide +kernel) (pa_cons (pe_lc (own := [("letter", 1)]) rfl S.nd (pi_str (pv 0)) (blkOk_by (by rfl)) (fun _ _ _ _ _ => (pg_name (i := 1) S.nd rfl (by first | exact Or.inl rfl | exact Or.inr rfl))) (fun _ _ _ _ _ => pts_nil) (fun _ _ _ _ _ => (pe_cmpR op_inSg (pv 1) (pe_gS e.s_LETTERS) (by with_unfolding_all rfl)))) pa_nil)))))), ?_⟩
  intro ds G Φ h
  try dsimp only [cxK, blkK]
  obtain ⟨x, rfl, z, rfl, ⟨h1, h2, h3⟩, k⟩ := h
  fail "x"
  refine dLen_s (by omega) ?_
  fail "x"
  refine we_map (wi_str ?_)
  fail "x"
  have hl : z.cps.toList.length ≤ 12 := by simpa [Str.length] using h2
  refine ⟨[1], z.cps.toList.map fun _ => PyData.bool true, fun j hj => hj, by rw [List.length_map]; omega, by rw [List.length_map, List.length_map], fun i x y hx hy => ?_, ?_⟩
  · obtain ⟨c, hc, rfl⟩ := map_get hx
    obtain ⟨c', hc', rfl⟩ := map_get hy
    fail "x"
    refine ⟨?_, rfl⟩
    exact congrArg (fun b => Dt.dat (PyData.bool b)) (decide_eq_true (h3 c (List.mem_of_getElem? hc)))
  · fail "x"
    refine ⟨_, z.cps.toList.map fun _ => true, rfl, .inl (by rw [bools_eq]), ?_⟩
    rw [all_true]
    exact k
theorem o_is_name {P : Program} {w : World} {K : PySem.W.Frag} {mg : Str → Option Value} {base : Heap} (e : Ev P w K mg base) : OkD P w K mg base 1 (He.ga K "is_name") ["word"] [] F_is_name := by
  obtain ⟨fd, FD⟩ := e.d_is_name
  exact okN FD (n_is_name e FD) fun _ _ _ _ _ _ us hl => match us, hl with | [_], _ => rfl
theorem sc_are_names : FnScope ["words", "word"] ["words"] (defScope (top 41)) := ⟨rfl, rfl, rfl, by decide +kernel, rfl, by decide +kernel, by decide +kernel⟩
theorem n_are_names {P : Program} {w : World} {K : PySem.W.Frag} {mg : Str → Option Value} {base : Heap} {fd : FuncData} {dvs : List V} {kws : List (Str × V)} (e : Ev P w K mg base) (FD : FunD K "are_names" "are_names" (defArgs (top 41)) (defBody (top 41)) (defScope (top 41)) dvs kws (He.ga K "are_names") fd) : FnOk P w K mg base CX0 2 (He.ga K "are_names") fd ["words"] (spD K F_are_names) := by
  have S := sc_are_names
  refine okD FD S (fun _ _ _ h => len1 h) fun cdv A outer s H E hr => ⟨_, (pss_cons (ps_if (PW.pt (pw_or (pt_cmpR op_eq (pe_callB (k_len K) rfl e.x_len (by decide +kernel) (pa_cons (pv 0) pa_nil)) pe_int (nomark _)) (pw_or1 (pt_not (pt_val (pe_callB (k_all K rfl) rfl e.x_all (by decide +kernel) (pa_cons (pe_lc (own := [("word", 1)]) rfl S.nd (k_ilist K (pv 0)) (blkOk_by (by rfl)) (fun _ _ _ _ _ => (pg_name (i := 1) S.nd rfl (by first | exact Or.inl rfl | exact Or.inr rfl))) (fun _ _ _ _ _ => pts_nil) (fun _ _ _ _ _ => (k_cl K (o_is_name e) (hr.mono (by decide)) e.g_is_name (pa_cons (pv 1) pa_nil)))) pa_nil))))))) (pss_one (ps_ret pe_bl)) pss_nil)
      (pss_one (ps_ret (pe_cmpR op_eq (k_lenSet K rfl rfl e.x_len rfl e.x_set (pv 0)) (pe_callB (k_len K) rfl e.x_len (by decide +kernel) (pa_cons (pv 0) pa_nil)) (nomark _))))), ?_⟩
  intro ds G Φ h
  try dsimp only [cxK, blkK]
  obtain ⟨x, rfl, ws, rfl, ⟨h1, h2, h3, h4⟩, k⟩ := h
  have hn : ((ws.map PyData.str).length : Int) ≠ 0 := by
    rw [List.length_map]
    have := List.length_pos_iff.mpr h1
    omega
  fail "x"
  refine we_map (wi_list ?_)
  fail "x"
  refine ⟨[1], ws.map fun _ => PyData.bool true, fun j hj => hj, by rw [List.length_map]; omega, by rw [List.length_map, List.length_map], fun i x y hx hy => ?_, ?_⟩
  · obtain ⟨c, hc, rfl⟩ := map_get hx
    obtain ⟨c', hc', rfl⟩ := map_get hy
    fail "x"
    exact ⟨h4 c (List.mem_of_getElem? hc), rfl, rfl⟩
  fail "x"
  refine ⟨_, ws.map fun _ => true, rfl, .inl (by rw [bools_eq]), ?_⟩
  rw [all_true]
  fail "x"
  refine ⟨ws, .inl rfl, h2, by omega, ?_⟩
  fail "x"
  rw [List.length_map, decide_eq_true rfl]
  exact k
theorem o_are_names {P : Program} {w : World} {K : PySem.W.Frag} {mg : Str → Option Value} {base : Heap} (e : Ev P w K mg base) : OkD P w K mg base 2 (He.ga K "are_names") ["words"] [] F_are_names := by
  obtain ⟨fd, FD⟩ := e.d_are_names
  exact okN FD (n_are_names e FD) fun _ _ _ _ _ _ us hl => match us, hl with | [_], _ => rfl
theorem sc_is_index : FnScope ["value", "count"] ["value", "count"] (defScope (top 42)) := ⟨rfl, rfl, rfl, by decide +kernel, rfl, by decide +kernel, by decide +kernel⟩
theorem n_is_index {P : Program} {w : World} {K : PySem.W.Frag} {mg : Str → Option Value} {base : Heap} {fd : FuncData} {dvs : List V} {kws : List (Str × V)} (e : Ev P w K mg base) (FD : FunD K "is_index" "is_index" (defArgs (top 42)) (defBody (top 42)) (defScope (top 42)) dvs kws (He.ga K "is_index") fd) : FnOk P w K mg base CX0 2 (He.ga K "is_index") fd ["value", "count"] (spD K F_is_index) := by
  have S := sc_is_index
  refine okD FD S (fun _ _ _ h => len2 h) fun cdv A outer s H E hr => ⟨_, (pss_one (ps_ret (pe_and (k_cl K (o_is_integer e) (hr.mono (by decide)) e.g_is_integer (pa_cons (pv 0) pa_nil)) (pe_one (pe_chain op_le op_lt pe_int (pv 0) (pv 1)))))), ?_⟩
  intro ds G Φ h
  try dsimp only [cxK, blkK]
  obtain ⟨x, y, rfl, i, n, rfl, rfl, k⟩ := h
  fail "x"
  refine ⟨fun hb => ?_, fun hb => ?_⟩
  · rw [hb, Bool.true_and] at k
    fail "x"
    exact k
  · rw [hb, Bool.false_and] at k
    exact k
theorem o_is_index {P : Program} {w : World} {K : PySem.W.Frag} {mg : Str → Option Value} {base : Heap} (e : Ev P w K mg base) : OkD P w K mg base 2 (He.ga K "is_index") ["value", "count"] [] F_is_index := by
  obtain ⟨fd, FD⟩ := e.d_is_index
  exact okN FD (n_is_index e FD) fun _ _ _ _ _ _ us hl => match us, hl with | [_, _], _ => rfl
theorem sc_check_limits : FnScope ["agents", "outcomes", "needs", "profile_count", "_", "kinds"] ["agents", "outcomes", "needs"] (defScope (top 47)) := ⟨rfl, rfl, rfl, by decide +kernel, rfl, by decide +kernel, by decide +kernel⟩
theorem n_check_limits {P : Program} {w : World} {K : PySem.W.Frag} {mg : Str → Option Value} {base : Heap} {fd : FuncData} {dvs : List V} {kws : List (Str × V)} (e : Ev P w K mg base) (FD : FunD K "check_limits" "check_limits" (defArgs (top 47)) (defBody (top 47)) (defScope (top 47)) dvs kws (He.ga K "check_limits") fd) : FnOk P w K mg base CX0 1 (He.ga K "check_limits") fd ["agents", "outcomes", "needs"] (spD K F_check_limits) := by
  have S := sc_check_limits
  refine okD FD S (fun _ _ _ h => len3 h) fun cdv A outer s H E hr => ⟨_, (pss_cons (ps_if (pt_cmpR op_gt (pe_callB (k_len K) rfl e.x_len (by decide +kernel) (pa_cons (pv 0) pa_nil)) (pe_gI e.i_MOST_AGENTS) (nomark _)) pss_never pss_nil)
      (pss_cons (ps_set (i := 3) S.nd rfl (by first | exact Or.inl rfl | exact Or.inr rfl) pe_int)
      (pss_cons (ps_for PassesOwn.never rfl (k_ilist K (pv 0)) (k_gtup K (n := 2) rfl (pgs_cons (pg_name (i := 4) S.nd rfl (by first | exact Or.inl rfl | exact Or.inr rfl)) (pgs_cons (pg_name (i := 5) S.nd rfl (by first | exact Or.inl rfl | exact Or.inr rfl)) pgs_nil))) (pss_cons (ps_if (pt_cmpR op_gt (pe_callB (k_len K) rfl e.x_len (by decide +kernel) (pa_cons (pv 5) pa_nil)) (pe_gI e.i_MOST_KINDS) (nomark _)) pss_never pss_nil)
      (pss_one (ps_set (i := 3) S.nd rfl (by first | exact Or.inl rfl | exact Or.inr rfl) (pe_op op_mul (pv 3) (pe_callB (k_len K) rfl e.x_len (by decide +kernel) (pa_cons (pv 5) pa_nil)))))))
      (pss_cons (ps_if (pt_cmpR op_gt (pe_callB (k_len K) rfl e.x_len (by decide +kernel) (pa_cons (pv 1) pa_nil)) (pe_gI e.i_MOST_OUTCOMES) (nomark _)) pss_never pss_nil)
      (pss_cons (ps_if (pt_cmpR op_gt (pe_callB (k_len K) rfl e.x_len (by decide +kernel) (pa_cons (pv 2) pa_nil)) (pe_gI e.i_MOST_NEEDS) (nomark _)) pss_never pss_nil)
      (pss_one (ps_if (pt_cmpR op_gt (pv 3) (pe_gI e.i_MOST_PROFILES) (nomark _)) pss_never pss_nil))))))), ?_⟩
  intro ds G Φ h
  try dsimp only [cxK, blkK]
  obtain ⟨x, y, z, rfl, A, rfl, rfl, rfl, hA, k⟩ := h
  have h1 := hA.n1
  have h3 := hA.n3
  have hl : (A.map agD).length = A.length := List.length_map _
  fail "x"
  refine ws_for (wi_list ?_)
  fail "x"
  refine ⟨[4] ++ ([5] ++ []), fun i δ G' => ∃ (q : Int) (y z : Option Dt), δ = [some (.dat (.list (A.map agD))), some (.dat (.list (outs.map .str))), some (.dat (.tuple [])), some (.dat (.int q)), y, z] ∧ G' = G ∧ 1 ≤ q ∧ q ≤ 2 ^ i, ⟨1, none, none, rfl, rfl, by omega, by omega⟩, ?_, ?_⟩
  · rintro i x δ' G' hx ⟨q, y, z, rfl, rfl, q1, q2⟩
    obtain ⟨a, ha, rfl⟩ := map_get hx
    have am := List.mem_of_getElem? ha
    have ak1 := hA.k1 a am
    have ak2 := hA.k2 a am
    have hi : i < 3 := by have := (List.getElem?_eq_some_iff.mp ha).1; omega
    have hkl : (a.2.map kdD).length = a.2.length := List.length_map _
    have hq : q ≤ 4 := by
      have : i = 0 ∨ i = 1 ∨ i = 2 := by omega
      rcases this with rfl | rfl | rfl <;> omega
    fail "x"
    refine ⟨.inl ⟨by omega, by omega⟩, ?_⟩
    fail "x"
    rw [hkl]
    have e : q * ((2 : Nat) : Int) ≤ 2 ^ (i + 1) := by rw [Int.pow_succ]; omega
    have : a.2.length = 1 ∨ a.2.length = 2 := by omega
    rcases this with e2 | e2 <;> rw [e2]
    · exact ⟨by omega, by omega⟩
    · exact ⟨by omega, e⟩
  · rintro δ' G' ⟨q, y, z, rfl, rfl, q1, q2⟩
    have hq : q ≤ 8 := by
      rw [hl] at q2
      have : A.length = 1 ∨ A.length = 2 ∨ A.length = 3 := by omega
      rcases this with e | e | e <;> rw [e] at q2 <;> omega
    fail "x"
    exact k
theorem o_check_limits {P : Program} {w : World} {K : PySem.W.Frag} {mg : Str → Option Value} {base : Heap} (e : Ev P w K mg base) : OkD P w K mg base 1 (He.ga K "check_limits") ["agents", "outcomes", "needs"] [] F_check_limits := by
  obtain ⟨fd, FD⟩ := e.d_check_limits
  exact okN FD (n_check_limits e FD) fun _ _ _ _ _ _ us hl => match us, hl with | [_, _, _], _ => rfl
end DL
/-! (Gb) -/
namespace DL
open PySem PySem.Spec PyProof.Rows L2

local macro_rules | `(tactic| fail "aS") => `(tactic| with_reducible first | refine ws_seq ?_ | refine ws_if ?_ | refine ws_ret ?_ | refine ws_asg ?_ | refine ws_drop ?_ | refine ws_next ?_ | refine ws_retN ?_ | refine ws_fldF ?_ | refine ws_fldN ?_ | refine ws_dput ?_ | refine ws_asgG ?_)
local macro_rules | `(tactic| fail "aO") => `(tactic| with_reducible first | refine we_ix ?_ | refine we_II ?_ | refine we_IB ?_ | refine we_eq ?_ | refine we_ne ?_ | refine we_add ?_ | refine we_IC ?_ | refine we_eqD ?_ | refine we_neD ?_ | refine we_inD ?_ | refine we_notInD ?_ | refine we_in ?_ | refine we_inSg ?_)
local macro_rules | `(tactic| fail "aC") => `(tactic| with_reducible first | refine we_len ?_ | refine we_lenD ?_ | refine we_all ?_ | refine we_any ?_ | refine we_int1 ?_ | refine we_strI ?_ | refine we_listOf ?_ | refine we_tupOf ?_ | refine we_sum ?_ | refine we_abs ?_ | refine we_min2 ?_ | refine we_gcd ?_)
local macro_rules | `(tactic| fail "aE") => `(tactic| first
  | ((with_reducible apply we_var); rfl)
  | with_reducible refine we_int ?_ | with_reducible refine we_str ?_ | with_reducible refine we_non ?_ | with_reducible refine we_bl ?_
  | ((with_reducible show WE _ (tOp _ _ _) _ _ _); fail "aO")
  | ((with_reducible show WE _ (tCB _ _) _ _ _); fail "aC")
  | with_reducible refine we_call ?_ | with_reducible refine we_fld ?_ | with_reducible refine we_meth' ?_ | with_reducible refine we_tup ?_ | with_reducible refine we_isi (by decide) ?_ | with_reducible refine we_lst ?_ | with_reducible refine we_lstG ?_
  | with_reducible refine we_and ?_ | with_reducible refine we_or ?_ | with_reducible refine we_not ?_ | with_reducible refine we_chainI ?_ | with_reducible refine we_isN ?_ | with_reducible refine we_notN ?_ | with_reducible refine we_append ?_ | with_reducible refine we_extend ?_
  | with_reducible refine we_slL ?_ | with_reducible refine we_slT ?_ | with_reducible refine we_dget ?_ | with_reducible refine we_din ?_ | with_reducible refine we_dnotin ?_ | with_reducible refine we_dictG ?_ | with_reducible refine we_prop ?_ | with_reducible refine we_join ?_ | with_reducible refine we_neg ?_ | with_reducible refine we_lenSet ?_)
local macro_rules | `(tactic| fail "aT") => `(tactic| with_reducible first | refine wt_val ?_ | refine wt_tst ?_ | refine wt_and ?_ | refine wt_or ?_ | refine wt_not ?_ | refine wt_yes ?_)
local macro_rules | `(tactic| fail "aD") => `(tactic| with_reducible first | refine dEq_ii ?_ | refine dEq_ss ?_ | refine dEq_bb ?_ | refine dEq_nn ?_ | refine dEq_ni ?_ | refine dEq_in ?_ | refine dAdd_ii ?_ | refine dInt_i ?_ | refine dInt_b ?_ | refine dLen_l ?_ | refine dLen_t ?_)
local macro_rules | `(tactic| fail "a") => `(tactic| first
  | ((with_reducible show WE _ _ _ _ _); fail "aE")
  | ((with_reducible show WA _ _ _ _ _); (with_reducible first | refine wa_cons ?_ | refine wa_nil ?_))
  | ((with_reducible show WS _ _ _ _ _); fail "aS")
  | ((with_reducible show WT _ _ _ _ _); fail "aT")
  | ((with_reducible show WG _ _ _ _ _ _ _); first | with_reducible refine wg_name ?_ | ((with_reducible refine wg_tup ?_ ?_); rfl))
  | ((with_reducible show WGs _ _ _ _ _ _ _); (with_reducible first | refine wgs_cons ?_ | refine wgs_nil ?_))
  | ((with_reducible show WO _ _ _ _ _); (with_reducible first | refine wo_none ?_ | refine wo_some ?_))
  | ((with_reducible show dIx _ _ _ _); first | ((with_reducible apply dIx_t); rfl) | ((with_reducible apply dIx_l); rfl))
  | fail "aD")
local macro_rules | `(tactic| fail "e") => `(tactic| ((fail_if_success (with_reducible show ∃ _ : NF, _)); (fail_if_success (with_reducible show ∃ _ : PF, _)); (fail_if_success (with_reducible show ∃ _ : DF, _)); (first | with_reducible refine ⟨_, _, rfl, rfl, ?_⟩ | with_reducible refine ⟨_, rfl, ?_⟩ | with_reducible refine ⟨rfl, ?_⟩ | with_reducible refine ⟨_, _, rfl, ?_⟩ | with_reducible refine ⟨_, _, _, rfl, ?_⟩ | with_reducible refine ⟨_, _, _, _, rfl, ?_⟩ | refine ⟨Nat.le_of_ble_eq_true rfl, ?_⟩)))
local macro_rules | `(tactic| fail "h") => `(tactic| first | assumption | exact updG_same | (rw [updG_ne (by assumption)]; assumption) | (rw [updG_ne (by assumption), updG_ne (by assumption)]; assumption) | (rw [updG_ne (by assumption), updG_ne (by assumption), updG_ne (by assumption)]; assumption))
local macro_rules | `(tactic| fail "z") => `(tactic| first | rfl | exact ⟨rfl, rfl⟩ | exact ⟨_, rfl, rfl⟩ | exact ⟨_, _, rfl, rfl⟩ | exact ⟨_, _, _, rfl, rfl⟩ | assumption)
local macro_rules | `(tactic| fail "f") => `(tactic| first
  | refine ⟨_, _, rfl, .inr (.inl rfl), ?_⟩ | refine ⟨_, _, rfl, .inl rfl, ?_⟩
  | (refine ⟨_, ?ds, rfl, .inr (.inr ⟨_, rfl, ?h1⟩), ?_⟩; (case h1 => fail "h"))
  | (refine ⟨_, ?ds, rfl, .inr ⟨_, rfl, ?h1⟩, ?_⟩; (case h1 => fail "h"))
  | ((with_reducible refine ⟨_, ?ds, ?d, rfl, ?h1, ?h2, ?_⟩); (case h1 => fail "h"); (case h2 => rfl))
  | ((with_reducible refine ⟨_, ?ds, rfl, ?h1, ?_⟩); (case h1 => fail "h"))
  | ((with_reducible refine ⟨_, ?ns, ?ds, rfl, ?h1, ?h2, ?_⟩); (case h1 => fail "h"); (case h2 => decide))
  | ((with_reducible refine ⟨_, rfl, ⟨?ys, ?h1⟩, ?_⟩); (case h1 => fail "h"))
  | ((with_reducible refine ⟨_, ?xs, rfl, ?h1, ?h2, ?_⟩); (case h1 => fail "h"); (case h2 => omega)))
local macro_rules | `(tactic| fail "y") => `(tactic| first
  | ((with_reducible refine ⟨fun _ => ?_, fun hbb => ?nope⟩); (case nope => first | exact Bool.noConfusion (show true = false from hbb) | exact Bool.noConfusion (show false = true from hbb) | exact absurd (of_decide_eq_true hbb) (by omega) | exact absurd (of_decide_eq_false hbb) (by omega) | (simp at hbb; done) | (simp at hbb; omega)))
  | ((with_reducible refine ⟨fun hbb => ?nope, fun _ => ?_⟩); (case nope => first | exact Bool.noConfusion (show true = false from hbb) | exact Bool.noConfusion (show false = true from hbb) | exact absurd (of_decide_eq_true hbb) (by omega) | exact absurd (of_decide_eq_false hbb) (by omega) | (simp at hbb; done) | (simp at hbb; omega))))
local macro_rules | `(tactic| fail "w") => `(tactic| repeat fail "a")
local macro_rules | `(tactic| fail "x") => `(tactic| repeat (first | fail "a" | fail "f" | fail "e" | fail "y"))

theorem sc_check_game : FnScope ["agents", "outcomes", "aim", "needs", "_", "kinds", "index", "need", "name", "kind"] ["agents", "outcomes", "aim", "needs"] (defScope (top 48)) := ⟨rfl, rfl, rfl, by decide +kernel, rfl, by decide +kernel, by decide +kernel⟩
theorem n_check_game {P : Program} {w : World} {K : PySem.W.Frag} {mg : Str → Option Value} {base : Heap} {fd : FuncData} {dvs : List V} {kws : List (Str × V)} (e : Ev P w K mg base) (FD : FunD K "check_game" "check_game" (defArgs (top 48)) (defBody (top 48)) (defScope (top 48)) dvs kws (He.ga K "check_game") fd) : FnOk P w K mg base CX0 3 (He.ga K "check_game") fd ["agents", "outcomes", "aim", "needs"] (spD K F_check_game) := by
  have S := sc_check_game
  refine okD FD S (fun _ _ _ h => len4 h) fun cdv A outer s H E hr => ⟨_, (pss_cons (ps_if (pt_not (pt_val (k_cl K (o_are_names e) (hr.mono (by decide)) e.g_are_names (pa_cons (pe_lc (own := [("name", 8), ("_", 4)]) rfl S.nd (k_ilist K (pv 0)) (blkOk_by (by rfl)) (fun _ _ _ _ _ => (k_gtup K (n := 2) rfl (pgs_cons (pg_name (i := 8) S.nd rfl (by first | exact Or.inl rfl | exact Or.inr rfl)) (pgs_cons (pg_name (i := 4) S.nd rfl (by first | exact Or.inl rfl | exact Or.inr rfl)) pgs_nil)))) (fun _ _ _ _ _ => pts_nil) (fun _ _ _ _ _ => (pv 8))) pa_nil)))) pss_never pss_nil)
      (pss_cons (ps_for PassesOwn.never rfl (k_ilist K (pv 0)) (k_gtup K (n := 2) rfl (pgs_cons (pg_name (i := 4) S.nd rfl (by first | exact Or.inl rfl | exact Or.inr rfl)) (pgs_cons (pg_name (i := 5) S.nd rfl (by first | exact Or.inl rfl | exact Or.inr rfl)) pgs_nil))) (pss_cons (ps_if (pt_not (pt_val (k_cl K (o_are_names e) (hr.mono (by decide)) e.g_are_names (pa_cons (pe_lc (own := [("kind", 9)]) rfl S.nd (k_ilist K (pv 5)) (blkOk_by (by rfl)) (fun _ _ _ _ _ => (pg_name (i := 9) S.nd rfl (by first | exact Or.inl rfl | exact Or.inr rfl))) (fun _ _ _ _ _ => pts_nil) (fun _ _ _ _ _ => (pe_ix (k_ix K) (pv 9) pe_int (fun _ _ => rfl)))) pa_nil)))) pss_never pss_nil)
      (pss_one (ps_if (pt_val (pe_callB (k_any K rfl) rfl e.x_any (by decide +kernel) (pa_cons (pe_lc (own := [("kind", 9)]) rfl S.nd (k_ilist K (pv 5)) (blkOk_by (by rfl)) (fun _ _ _ _ _ => (pg_name (i := 9) S.nd rfl (by first | exact Or.inl rfl | exact Or.inr rfl))) (fun _ _ _ _ _ => pts_nil) (fun _ _ _ _ _ => (pe_cmpR op_lt (k_cl K (o_sign e) (hr.mono (by decide)) e.g_sign (pa_cons (pe_ix (k_ix K) (pv 9) pe_int (fun _ _ => rfl)) pa_nil)) pe_int (nomark _)))) pa_nil))) pss_never pss_nil))))
      (pss_cons (ps_if (pt_not (pt_val (k_cl K (o_are_names e) (hr.mono (by decide)) e.g_are_names (pa_cons (pv 1) pa_nil)))) pss_never pss_nil)
      (pss_cons (ps_for PassesOwn.never rfl (k_ilist K (pv 0)) (k_gtup K (n := 2) rfl (pgs_cons (pg_name (i := 4) S.nd rfl (by first | exact Or.inl rfl | exact Or.inr rfl)) (pgs_cons (pg_name (i := 5) S.nd rfl (by first | exact Or.inl rfl | exact Or.inr rfl)) pgs_nil))) (pss_one (ps_if (pt_val (pe_callB (k_any K rfl) rfl e.x_any (by decide +kernel) (pa_cons (pe_lc (own := [("kind", 9)]) rfl S.nd (k_ilist K (pv 5)) (blkOk_by (by rfl)) (fun _ _ _ _ _ => (pg_name (i := 9) S.nd rfl (by first | exact Or.inl rfl | exact Or.inr rfl))) (fun _ _ _ _ _ => pts_nil) (fun _ _ _ _ _ => (pe_cmpR op_ne (pe_callB (k_len K) rfl e.x_len (by decide +kernel) (pa_cons (pe_ix (k_ix K) (pv 9) pe_int (fun _ _ => rfl)) pa_nil)) (pe_callB (k_len K) rfl e.x_len (by decide +kernel) (pa_cons (pv 1) pa_nil)) (nomark _)))) pa_nil))) pss_never pss_nil)))
      (pss_cons (ps_if (pt_cmpR (k_notin K) (pv 2) (pe_gR e.g_AIMS) (by with_unfolding_all rfl)) pss_never pss_nil)
      (pss_one (ps_for PassesOwn.never rfl (k_enumT K rfl e.x_enumerate (pa_cons (pv 3) pa_nil)) (k_gtup K (n := 2) rfl (pgs_cons (pg_name (i := 6) S.nd rfl (by first | exact Or.inl rfl | exact Or.inr rfl)) (pgs_cons (pg_name (i := 7) S.nd rfl (by first | exact Or.inl rfl | exact Or.inr rfl)) pgs_nil))) pss_never))))))), ?_⟩
  intro ds G Φ h
  try dsimp only [cxK, blkK]
  obtain ⟨x, y, u, z, rfl, A, rfl, rfl, rfl, rfl, hA, k⟩ := h
  have h1 := hA.n1
  have h3 := hA.n3
  have hl : (A.map agD).length = A.length := List.length_map _
  fail "x"
  refine we_mapL (wi_list ?_)
  fail "x"
  refine ⟨[8] ++ ([4] ++ []), Ag, A, agD, fun a => .str a.1, rfl, by decide, by omega, fun a ha => ?_, ?_⟩
  · fail "x"
    fail "z"
  rw [show (A.map fun a => PyData.str a.1) = (A.map (·.1)).map .str from (List.map_map ..).symm]
  fail "x"
  refine ⟨hA.nm, ?_⟩
  fail "x"
  refine ws_for (wi_list ?_)
  fail "x"
  refine ⟨[4] ++ ([5] ++ []), fun i δ G' => ∃ (y z : Option Dt), δ = [some (.dat (.list (A.map agD))), some (.dat (.list (outs.map .str))), some (.dat (.str "total")), some (.dat (.tuple [])), y, z, none, none, none, none] ∧ G' = G, ⟨none, none, rfl, rfl⟩, ?_, ?_⟩
  · rintro i x δ' G' hx ⟨y, z, rfl, rfl⟩
    obtain ⟨a, ha, rfl⟩ := map_get hx
    have am := List.mem_of_getElem? ha
    have ak2 := hA.k2 a am
    fail "x"
    refine we_mapL (wi_list ?_)
    fail "x"
    refine ⟨[9], Kd, a.2, kdD, fun k => .str k.1, rfl, by decide, by omega, fun k hk => ?_, ?_⟩
    · fail "x"
      fail "z"
    rw [show (a.2.map fun a => PyData.str a.1) = (a.2.map (·.1)).map .str from (List.map_map ..).symm]
    fail "x"
    refine ⟨hA.kn a am, ?_⟩
    fail "x"
    refine we_mapL (wi_list ?_)
    fail "x"
    refine ⟨[9], Kd, a.2, kdD, fun k => .bool false, rfl, by decide, by omega, fun k hk => ?_, ?_⟩
    · obtain ⟨k1, _⟩ := hA.kd a am k hk
      fail "x"
      rw [k1]
      refine ⟨by decide, ?_⟩
      fail "x"
      fail "z"
    fail "x"
    refine ⟨_, a.2.map fun _ => false, rfl, .inl (by rw [bools_eq]), ?_⟩
    rw [any_false]
    fail "x"
    fail "z"
  rintro δ' G1 ⟨y, z, rfl, e1⟩
  subst e1
  fail "x"
  refine ⟨by decide, ?_⟩
  fail "x"
  refine ws_for (wi_list ?_)
  fail "x"
  refine ⟨[4] ++ ([5] ++ []), fun i δ G' => ∃ (y z : Option Dt), δ = [some (.dat (.list (A.map agD))), some (.dat (.list (outs.map .str))), some (.dat (.str "total")), some (.dat (.tuple [])), y, z, none, none, none, none] ∧ G' = G1, ⟨_, _, rfl, rfl⟩, ?_, ?_⟩
  · rintro i x δ' G' hx ⟨y, z, rfl, rfl⟩
    obtain ⟨a, ha, rfl⟩ := map_get hx
    have am := List.mem_of_getElem? ha
    have ak2 := hA.k2 a am
    fail "x"
    refine we_mapL (wi_list ?_)
    fail "x"
    refine ⟨[9], Kd, a.2, kdD, fun k => .bool false, rfl, by decide, by omega, fun k hk => ?_, ?_⟩
    · obtain ⟨_, _, k3, _⟩ := hA.kd a am k hk
      have e : ((k.2.2.2.map rT).length : Int) = 3 := by rw [List.length_map, k3]; rfl
      fail "x"
      rw [e]
      fail "z"
    fail "x"
    refine ⟨_, a.2.map fun _ => false, rfl, .inl (by rw [bools_eq]), ?_⟩
    rw [any_false]
    fail "x"
    fail "z"
  rintro δ' G2 ⟨y, z, rfl, e2⟩
  subst e2
  fail "x"
  refine we_gT e.t_AIMS (fun _ _ => .cons (.str _) (.cons (.str _) (.cons (.str _) .nil))) ?_
  refine ⟨_, _, _, _, rfl, .inl rfl, rfl, rfl, ?_⟩
  fail "x"
  refine ws_for (wi_enumT ?_)
  fail "x"
  refine ⟨[], fun i δ G' => i = 0 ∧ G' = G2, ⟨rfl, rfl⟩, ?_, ?_⟩
  · intro i x δ' G' hx
    simp [numD] at hx
  · rintro δ' G' ⟨_, rfl⟩
    exact k
theorem o_check_game {P : Program} {w : World} {K : PySem.W.Frag} {mg : Str → Option Value} {base : Heap} (e : Ev P w K mg base) : OkD P w K mg base 3 (He.ga K "check_game") ["agents", "outcomes", "aim", "needs"] [] F_check_game := by
  obtain ⟨fd, FD⟩ := e.d_check_game
  exact okN FD (n_check_game e FD) fun _ _ _ _ _ _ us hl => match us, hl with | [_, _, _, _], _ => rfl
theorem sc_copied_kinds : FnScope ["kinds", "name", "weight", "alone", "worths"] ["kinds"] (defScope (top 49)) := ⟨rfl, rfl, rfl, by decide +kernel, rfl, by decide +kernel, by decide +kernel⟩
theorem n_copied_kinds {P : Program} {w : World} {K : PySem.W.Frag} {mg : Str → Option Value} {base : Heap} {fd : FuncData} {dvs : List V} {kws : List (Str × V)} (e : Ev P w K mg base) (FD : FunD K "copied_kinds" "copied_kinds" (defArgs (top 49)) (defBody (top 49)) (defScope (top 49)) dvs kws (He.ga K "copied_kinds") fd) : FnOk P w K mg base CX0 1 (He.ga K "copied_kinds") fd ["kinds"] (spD K F_copied_kinds) := by
  have S := sc_copied_kinds
  refine okD FD S (fun _ _ _ h => len1 h) fun cdv A outer s H E hr => ⟨_, (pss_one (ps_ret (pe_lc (own := [("name", 1), ("weight", 2), ("alone", 3), ("worths", 4)]) rfl S.nd (k_ilist K (pv 0)) (blkOk_by (by rfl)) (fun _ _ _ _ _ => (k_gtup K (n := 4) rfl (pgs_cons (pg_name (i := 1) S.nd rfl (by first | exact Or.inl rfl | exact Or.inr rfl)) (pgs_cons (pg_name (i := 2) S.nd rfl (by first | exact Or.inl rfl | exact Or.inr rfl)) (pgs_cons (pg_name (i := 3) S.nd rfl (by first | exact Or.inl rfl | exact Or.inr rfl)) (pgs_cons (pg_name (i := 4) S.nd rfl (by first | exact Or.inl rfl | exact Or.inr rfl)) pgs_nil)))))) (fun _ _ _ _ _ => pts_nil) (fun _ _ _ _ _ => (pe_tup (pa_cons (pv 1) (pa_cons (pv 2) (pa_cons (pv 3) (pa_cons (pe_callTy (k_list K) rfl e.x_list (by decide +kernel) (pa_cons (pv 4) pa_nil)) pa_nil))))))))), ?_⟩
  intro ds G Φ h
  try dsimp only [cxK, blkK]
  obtain ⟨x, rfl, ks, rfl, h2, k⟩ := h
  fail "x"
  refine we_mapL (wi_list ?_)
  fail "x"
  refine ⟨[1] ++ ([2] ++ ([3] ++ ([4] ++ []))), Kd, ks, kdD, kdD, rfl, by decide, by omega, fun a ha => ?_, k⟩
  fail "x"
  fail "z"
theorem o_copied_kinds {P : Program} {w : World} {K : PySem.W.Frag} {mg : Str → Option Value} {base : Heap} (e : Ev P w K mg base) : OkD P w K mg base 1 (He.ga K "copied_kinds") ["kinds"] [] F_copied_kinds := by
  obtain ⟨fd, FD⟩ := e.d_copied_kinds
  exact okN FD (n_copied_kinds e FD) fun _ _ _ _ _ _ us hl => match us, hl with | [_], _ => rfl
theorem sc_Game_init : FnScope ["self", "agents", "outcomes", "aim", "payments", "lots", "needs", "name", "kinds", "need"] ["self", "agents", "outcomes", "aim", "payments", "lots", "needs"] (defScope (inClass (top 51) 0)) := ⟨rfl, rfl, rfl, by decide +kernel, rfl, by decide +kernel, by decide +kernel⟩
theorem n_Game_init {P : Program} {w : World} {K : PySem.W.Frag} {mg : Str → Option Value} {base : Heap} {fd : FuncData} {dvs : List V} {kws : List (Str × V)} (e : Ev P w K mg base) (FD : FunD K "__init__" "Game.__init__" (defArgs (inClass (top 51) 0)) (defBody (inClass (top 51) 0)) (defScope (inClass (top 51) 0)) dvs kws (He.ma K (He.ga K "Game") "__init__") fd) : FnOk P w K mg base CX0 4 (He.ma K (He.ga K "Game") "__init__") fd ["self", "agents", "outcomes", "aim", "payments", "lots", "needs"] (spD K (F_Game_init K)) := by
  have S := sc_Game_init
  refine okD FD S (fun _ _ _ h => len7 h) fun cdv A outer s H E hr => ⟨_, (pss_cons (ps_expr (k_cl K (o_check_limits e) (hr.mono (by decide)) e.g_check_limits (pa_cons (pv 1) (pa_cons (pv 2) (pa_cons (pv 6) pa_nil)))))
      (pss_cons (ps_expr (k_cl K (o_check_game e) (hr.mono (by decide)) e.g_check_game (pa_cons (pv 1) (pa_cons (pv 2) (pa_cons (pv 3) (pa_cons (pv 6) pa_nil))))))
      (pss_cons (ps_fldN (ns := []) e.c_Game e.a_Game_agents (by decide) (by decide) (pv 0) (pe_lc (own := [("name", 7), ("kinds", 8)]) rfl S.nd (k_ilist K (pv 1)) (blkOk_by (by rfl)) (fun _ _ _ _ _ => (k_gtup K (n := 2) rfl (pgs_cons (pg_name (i := 7) S.nd rfl (by first | exact Or.inl rfl | exact Or.inr rfl)) (pgs_cons (pg_name (i := 8) S.nd rfl (by first | exact Or.inl rfl | exact Or.inr rfl)) pgs_nil)))) (fun _ _ _ _ _ => pts_nil) (fun _ _ _ _ _ => (pe_tup (pa_cons (pv 7) (pa_cons (k_cl K (o_copied_kinds e) (hr.mono (by decide)) e.g_copied_kinds (pa_cons (pv 8) pa_nil)) pa_nil))))))
      (pss_cons (ps_fldN (ns := ["agents"]) e.c_Game e.a_Game_outcomes (by decide) (by decide) (pv 0) (pe_callTy (k_list K) rfl e.x_list (by decide +kernel) (pa_cons (pv 2) pa_nil)))
      (pss_cons (ps_fldN (ns := ["agents", "outcomes"]) e.c_Game e.a_Game_aim (by decide) (by decide) (pv 0) (pv 3))
      (pss_cons (ps_fldN (ns := ["agents", "outcomes", "aim"]) e.c_Game e.a_Game_payments (by decide) (by decide) (pv 0) (pv 4))
      (pss_cons (ps_fldN (ns := ["agents", "outcomes", "aim", "payments"]) e.c_Game e.a_Game_lots (by decide) (by decide) (pv 0) (pv 5))
      (pss_one (ps_fldN (ns := ["agents", "outcomes", "aim", "payments", "lots"]) e.c_Game e.a_Game_needs (by decide) (by decide) (pv 0) (pe_lc (own := [("need", 9)]) rfl S.nd (k_itup K (pv 6)) (blkOk_by (by rfl)) (fun _ _ _ _ _ => (pg_name (i := 9) S.nd rfl (by first | exact Or.inl rfl | exact Or.inr rfl))) (fun _ _ _ _ _ => pts_nil) (fun _ _ _ _ _ => pe_never))))))))))), ?_⟩
  intro ds G Φ h
  try dsimp only [cxK, blkK]
  obtain ⟨s0, ag, ou, ai, pa, lo, ne, rfl, g, A, rfl, hg, hA, rfl, rfl, rfl, rfl, rfl, rfl, k⟩ := h
  have h3 := hA.n3
  fail "x"
  refine ⟨hA, ?_⟩
  fail "x"
  refine ⟨hA, ?_⟩
  fail "x"
  refine we_mapL (wi_list ?_)
  fail "x"
  refine ⟨[7] ++ ([8] ++ []), Ag, A, agD, agD, rfl, by decide, by omega, fun a ha => ?_, ?_⟩
  · have ak2 := hA.k2 a ha
    fail "x"
    refine ⟨ak2, ?_⟩
    fail "x"
    fail "z"
  fail "x"
  refine we_mapL (wi_tup ?_)
  fail "x"
  refine ⟨[9], PyData, [], id, id, rfl, by decide, by decide, fun a ha => (by cases ha), ?_⟩
  fail "x"
  rw [updG_updG, updG_updG, updG_updG, updG_updG, updG_updG]
  exact k
theorem profs_succ {ms : List Nat} {i m : Nat} (h : ms[i]? = some m) : profs (ms.take (i + 1)) = (profs (ms.take i)).flatMap fun r => (List.range m).map fun k => r ++ [k] := by
  unfold profs
  rw [take_at h, List.foldl_append]
  rfl
theorem flat_len {rows : List (List Nat)} {m : Nat} : (rows.flatMap fun r => (List.range m).map fun k => r ++ [k]).length = rows.length * m := by
  induction rows with
  | nil => simp
  | cons r rows ih =>
    rw [List.flatMap_cons, List.length_append, List.length_map, List.length_range, List.length_cons, ih, Nat.succ_mul, Nat.add_comm]
theorem profs_mem : ∀ {ms : List Nat} {rows : List (List Nat)} {n : Nat} {r : List Nat}, (∀ q ∈ rows, q.length = n) → r ∈ ms.foldl (fun rows m => rows.flatMap fun r => (List.range m).map fun k => r ++ [k]) rows → r.length = n + ms.length
  | [], rows, n, r, h, hr => h r hr
  | m :: ms, rows, n, r, h, hr => by
    have h1 : ∀ q ∈ (rows.flatMap fun r => (List.range m).map fun k => r ++ [k]), q.length = n + 1 := fun q hq => by
      obtain ⟨p, hp, hq⟩ := List.mem_flatMap.mp hq
      obtain ⟨k, _, rfl⟩ := List.mem_map.mp hq
      rw [List.length_append, h p hp]; rfl
    have h2 := profs_mem (ms := ms) h1 hr
    rw [h2, List.length_cons]
    omega
theorem profs_len : ∀ {ms : List Nat} {rows : List (List Nat)}, (∀ m ∈ ms, m ≤ 2) → (ms.foldl (fun rows m => rows.flatMap fun r => (List.range m).map fun k => r ++ [k]) rows).length ≤ rows.length * 2 ^ ms.length
  | [], rows, _ => by simp
  | m :: ms, rows, h => by
    have h1 : (rows.flatMap fun r => (List.range m).map fun k => r ++ [k]).length ≤ rows.length * 2 := by
      have hm := h m List.mem_cons_self
      clear h
      induction rows with
      | nil => simp
      | cons r rows ih =>
        rw [List.flatMap_cons, List.length_append, List.length_map, List.length_range, List.length_cons]
        omega
    have h2 := profs_len (ms := ms) (rows := rows.flatMap fun r => (List.range m).map fun k => r ++ [k]) fun q hq => h q (List.mem_cons_of_mem _ hq)
    rw [List.foldl_cons, List.length_cons, Nat.pow_succ]
    refine Nat.le_trans h2 ?_
    rw [Nat.mul_comm (2 ^ ms.length) 2, ← Nat.mul_assoc]
    exact Nat.mul_le_mul_right _ h1

theorem sc_profiles : FnScope ["game", "rows", "_", "kinds", "row", "kind"] ["game"] (defScope (top 52)) := ⟨rfl, rfl, rfl, by decide +kernel, rfl, by decide +kernel, by decide +kernel⟩
theorem n_profiles {P : Program} {w : World} {K : PySem.W.Frag} {mg : Str → Option Value} {base : Heap} {fd : FuncData} {dvs : List V} {kws : List (Str × V)} (e : Ev P w K mg base) (FD : FunD K "profiles" "profiles" (defArgs (top 52)) (defBody (top 52)) (defScope (top 52)) dvs kws (He.ga K "profiles") fd) : FnOk P w K mg base CX0 1 (He.ga K "profiles") fd ["game"] (spD K (F_profiles K)) := by
  have S := sc_profiles
  refine okD FD S (fun _ _ _ h => len1 h) fun cdv A outer s H E hr => ⟨_, (pss_cons (ps_set (i := 1) S.nd rfl (by first | exact Or.inl rfl | exact Or.inr rfl) (pe_lst (pa_cons (pe_tup pa_nil) pa_nil)))
      (pss_cons (ps_for PassesOwn.never rfl (k_ilist K (k_fld K e.f_Game_agents (pv 0))) (k_gtup K (n := 2) rfl (pgs_cons (pg_name (i := 2) S.nd rfl (by first | exact Or.inl rfl | exact Or.inr rfl)) (pgs_cons (pg_name (i := 3) S.nd rfl (by first | exact Or.inl rfl | exact Or.inr rfl)) pgs_nil))) (pss_one (ps_setLc2 (i := 1) (own := [("row", 4), ("kind", 5)]) rfl S.nd rfl rfl (by rfl) (vs1 := [5]) (k_ilist K (pv 1)) (blkOk_by (by rfl)) (by decide) (fun _ _ _ _ _ => (pg_name (i := 4) S.nd rfl (by first | exact Or.inl rfl | exact Or.inr rfl))) (fun _ _ _ _ _ => pts_nil) (fun _ _ _ _ _ => (pi_range1 rfl e.x_range (pa_cons (pe_callB (k_len K) rfl e.x_len (by decide +kernel) (pa_cons (pv 3) pa_nil)) pa_nil))) (fun _ _ _ _ _ => (pg_name (i := 5) S.nd rfl (by first | exact Or.inl rfl | exact Or.inr rfl))) (fun _ _ _ _ _ => pts_nil) (fun _ _ _ _ _ => (pe_op (k_add K) (pv 4) (pe_tup (pa_cons (pv 5) pa_nil)))))))
      (pss_one (ps_ret (pv 1))))), ?_⟩
  intro ds G Φ h
  try dsimp only [cxK, blkK]
  obtain ⟨x, rfl, g, A, rfl, hg, hA, k⟩ := h
  have h3 := hA.n3
  fail "x"
  refine ws_for (wi_list ?_)
  fail "x"
  refine ⟨[2] ++ ([3] ++ []), fun i δ G' => ∃ y z, δ = [some (.obj g), some (.dat (.list ((profs ((msOf A).take i)).map prD))), y, z, none, none] ∧ G' = G, ⟨none, none, rfl, rfl⟩, ?_, ?_⟩
  · rintro i x δ' G' hx ⟨y, z, rfl, rfl⟩
    obtain ⟨a, ha, rfl⟩ := map_get hx
    have hi : i < A.length := (List.getElem?_eq_some_iff.mp ha).1
    have hm : (msOf A)[i]? = some a.2.length := by unfold msOf; rw [List.getElem?_map, ha]; rfl
    have ak2 := hA.k2 _ (List.mem_of_getElem? ha)
    have hkl : (a.2.map kdD).length = a.2.length := List.length_map _
    have hpl : (profs ((msOf A).take i)).length ≤ 8 := by
      have h1 := profs_len (ms := (msOf A).take i) (rows := [[]]) fun m hm => by
        obtain ⟨b, hb, rfl⟩ := List.mem_map.mp (List.mem_of_mem_take hm)
        exact hA.k2 b hb
      have h2 : ((msOf A).take i).length ≤ 3 := by rw [List.length_take]; unfold msOf; rw [List.length_map]; omega
      have h4 : 2 ^ ((msOf A).take i).length ≤ 2 ^ 3 := Nat.pow_le_pow_right (by omega) h2
      have h5 : (profs ((msOf A).take i)).length ≤ 1 * 2 ^ ((msOf A).take i).length := h1
      omega
    fail "x"
    refine we_lc2 (wi_list ?_)
    fail "x"
    refine ⟨[4], fun j acc G2 => acc = (((profs ((msOf A).take i)).take j).flatMap fun r => (List.range a.2.length).map fun k => r ++ [k]).map prD ∧ G2 = G', by decide, ⟨rfl, rfl⟩, ?_, ?_⟩
    · rintro j x acc G2 hx ⟨rfl, rfl⟩
      obtain ⟨r, hr3, rfl⟩ := map_get hx
      fail "x"
      refine ⟨a.2.length, [5], fun q acc G3 => acc = ((((profs ((msOf A).take i)).take j).flatMap fun r => (List.range a.2.length).map fun k => r ++ [k]) ++ (List.range q).map fun k => r ++ [k]).map prD ∧ G3 = G2, ?_, by omega, by decide, ⟨?_, rfl⟩, ?_, ?_⟩
      · rw [hkl]
      · simp
      · rintro q acc G3 hq ⟨rfl, rfl⟩
        fail "x"
        have hr4 : r.length ≤ 3 := by
          have h1 := profs_mem (ms := (msOf A).take i) (rows := [[]]) (n := 0) (fun q hq => by rw [List.mem_singleton.mp hq]; rfl) (List.mem_of_getElem? hr3)
          rw [h1, List.length_take]
          unfold msOf
          rw [List.length_map]
          omega
        refine dAdd_tt (by rw [List.length_map]; show _ + 1 ≤ _; omega) ⟨_, rfl, ?_, ?_, rfl⟩
        · rw [List.length_map, List.length_append, flat_len, List.length_map, List.length_range, List.length_take]
          have h1 : min j (profs ((msOf A).take i)).length * a.2.length ≤ 8 * 2 := Nat.mul_le_mul (by omega) ak2
          omega
        · rw [List.range_succ, List.map_append, List.map_append, List.map_append, List.map_append, List.append_assoc]
          simp [prD]
      · rintro acc G3 ⟨rfl, rfl⟩
        refine ⟨?_, rfl⟩
        rw [take_at hr3, List.flatMap_append, List.flatMap_cons, List.flatMap_nil, List.append_nil]
    · rintro acc G2 ⟨rfl, rfl⟩
      refine ⟨some (.dat (.str a.1)), some (.dat (.list (a.2.map kdD))), ?_, rfl⟩
      rw [List.length_map, List.take_length, profs_succ hm]
      rfl
  · rintro δ' G' ⟨y, z, rfl, rfl⟩
    fail "x"
    rw [List.length_map, show A.length = (msOf A).length by unfold msOf; rw [List.length_map], List.take_length]
    exact k
theorem o_profiles {P : Program} {w : World} {K : PySem.W.Frag} {mg : Str → Option Value} {base : Heap} (e : Ev P w K mg base) : OkD P w K mg base 1 (He.ga K "profiles") ["game"] [] (F_profiles K) := by
  obtain ⟨fd, FD⟩ := e.d_profiles
  exact okN FD (n_profiles e FD) fun _ _ _ _ _ _ us hl => match us, hl with | [_], _ => rfl
theorem sc_profile_number : FnScope ["game", "profile", "number", "agent", "kind", "count"] ["game", "profile"] (defScope (top 53)) := ⟨rfl, rfl, rfl, by decide +kernel, rfl, by decide +kernel, by decide +kernel⟩
theorem n_profile_number {P : Program} {w : World} {K : PySem.W.Frag} {mg : Str → Option Value} {base : Heap} {fd : FuncData} {dvs : List V} {kws : List (Str × V)} (e : Ev P w K mg base) (FD : FunD K "profile_number" "profile_number" (defArgs (top 53)) (defBody (top 53)) (defScope (top 53)) dvs kws (He.ga K "profile_number") fd) : FnOk P w K mg base CX0 3 (He.ga K "profile_number") fd ["game", "profile"] (spD K (F_profile_number K)) := by
  have S := sc_profile_number
  refine okD FD S (fun _ _ _ h => len2 h) fun cdv A outer s H E hr => ⟨_, (pss_cons (ps_if (pt_cmpR op_ne (pe_callB (k_len K) rfl e.x_len (by decide +kernel) (pa_cons (pv 1) pa_nil)) (pe_callB (k_len K) rfl e.x_len (by decide +kernel) (pa_cons (k_fld K e.f_Game_agents (pv 0)) pa_nil)) (nomark _)) pss_never pss_nil)
      (pss_cons (ps_set (i := 2) S.nd rfl (by first | exact Or.inl rfl | exact Or.inr rfl) pe_int)
      (pss_cons (ps_for PassesOwn.never rfl (k_enumT K rfl e.x_enumerate (pa_cons (pv 1) pa_nil)) (k_gtup K (n := 2) rfl (pgs_cons (pg_name (i := 3) S.nd rfl (by first | exact Or.inl rfl | exact Or.inr rfl)) (pgs_cons (pg_name (i := 4) S.nd rfl (by first | exact Or.inl rfl | exact Or.inr rfl)) pgs_nil))) (pss_cons (ps_set (i := 5) S.nd rfl (by first | exact Or.inl rfl | exact Or.inr rfl) (pe_callB (k_len K) rfl e.x_len (by decide +kernel) (pa_cons (pe_ix (k_ix K) (pe_ix (k_ix K) (k_fld K e.f_Game_agents (pv 0)) (pv 3) (fun _ _ => rfl)) pe_int (fun _ _ => rfl)) pa_nil)))
      (pss_cons (ps_if (pt_not (pt_val (k_cl K (o_is_index e) (hr.mono (by decide)) e.g_is_index (pa_cons (pv 4) (pa_cons (pv 5) pa_nil))))) pss_never pss_nil)
      (pss_one (ps_set (i := 2) S.nd rfl (by first | exact Or.inl rfl | exact Or.inr rfl) (pe_op (k_add K) (pe_op op_mul (pv 2) (pv 5)) (pv 4)))))))
      (pss_one (ps_ret (pv 2)))))), ?_⟩
  intro ds G Φ h
  try dsimp only [cxK, blkK]
  obtain ⟨x, y, rfl, g, A, r, rfl, hg, hA, rfl, hl, hr2, k⟩ := h
  have h3 := hA.n3
  have e1 : ((r.map fun k : Nat => PyData.int (k : Nat)).length : Int) = ((A.map agD).length : Int) := by rw [List.length_map, List.length_map, hl]
  fail "x"
  refine ws_for (wi_enumT ?_)
  fail "x"
  refine ⟨[3] ++ ([4] ++ []), fun i δ G' => ∃ y z u, δ = [some (.obj g), some (.dat (prD r)), some (.dat (.int (pnum ((msOf A).take i) (r.take i) : Nat))), y, z, u] ∧ G' = G, ⟨none, none, none, rfl, rfl⟩, ?_, ?_⟩
  · rintro i x δ' G' hx ⟨y, z, u, rfl, rfl⟩
    obtain ⟨q, hq, rfl⟩ := numD_get.mp hx
    obtain ⟨kk, hk, rfl⟩ := map_get hq
    have hi : i < A.length := by rw [← hl]; exact (List.getElem?_eq_some_iff.mp hk).1
    have ha : A[i]? = some A[i] := List.getElem?_eq_getElem hi
    have hm : (msOf A)[i]? = some A[i].2.length := by unfold msOf; rw [List.getElem?_map, ha]; rfl
    have ak2 := hA.k2 _ (List.getElem_mem hi)
    have hlt : kk < A[i].2.length := hr2 (A[i].2.length, kk) (List.mem_of_getElem? (i := i) (by rw [List.getElem?_zip_eq_some]; exact ⟨hm, hk⟩))
    have hkl : ((A[i].2.map kdD).length : Int) = (A[i].2.length : Int) := by rw [List.length_map]
    fail "x"
    refine dIx_l (atI_nat (by rw [List.getElem?_map, ha]; rfl)) ?_
    fail "x"
    refine ⟨.inr ⟨by omega, by omega⟩, ?_⟩
    fail "x"
    refine ⟨some (.dat (.int (i : Nat))), some (.dat (.int (kk : Nat))), some (.dat (.int ((A[i].2.map kdD).length : Nat))), ?_, rfl⟩
    have e2 : pnum ((msOf A).take (i + 1)) (r.take (i + 1)) = pnum ((msOf A).take i) (r.take i) * A[i].2.length + kk := by
      unfold pnum
      rw [take_at hm, take_at hk, List.zip_append (by rw [List.length_take, List.length_take, show (msOf A).length = r.length by unfold msOf; rw [List.length_map, hl]]), List.foldl_append]
      rfl
    rw [e2, hkl, Int.natCast_add, Int.natCast_mul]
    rfl
  · rintro δ' G' ⟨y, z, u, rfl, rfl⟩
    fail "x"
    have e2 : (numD (r.map fun k : Nat => PyData.int (k : Nat))).length = r.length := by rw [numD_length, List.length_map]
    rw [e2, List.take_length, hl, show A.length = (msOf A).length by unfold msOf; rw [List.length_map], List.take_length]
    exact k
theorem o_profile_number {P : Program} {w : World} {K : PySem.W.Frag} {mg : Str → Option Value} {base : Heap} (e : Ev P w K mg base) : OkD P w K mg base 3 (He.ga K "profile_number") ["game", "profile"] [] (F_profile_number K) := by
  obtain ⟨fd, FD⟩ := e.d_profile_number
  exact okN FD (n_profile_number e FD) fun _ _ _ _ _ _ us hl => match us, hl with | [_, _], _ => rfl
end DL
/-! (Dl14) -/
namespace DL
open PySem PySem.Spec PyProof.Rows L2
section
variable {K : PySem.W.Frag} {δ : De} {G : GH} {Φ : Dt → GH → Prop} {te ta tb : TE} {E : DE} {ts : TS} {a b : Addr} {o : GO} {P : Addr → Prop} {H : Hp}
theorem we_forget (h : WE K te δ G fun d G' => Φ d (dropG G' a)) : WE K te δ G Φ := fun P σ H r s Q q =>
  h P σ H r s Q fun v d G' H' s1 r1 v1 k => q v d _ H' (s1.trans .drop) r1.drop (Stab.vr (.drop (H := H')) v1) k
theorem ws_forget (h : WS K ts δ G { nx := fun δ' G' => E.nx δ' (dropG G' a), rt := fun d G' => E.rt d (dropG G' a), bk := fun δ' G' => E.bk δ' (dropG G' a), ct := fun δ' G' => E.ct δ' (dropG G' a) }) : WS K ts δ G E := fun P σ H r s D e =>
  h P σ H r s D ⟨fun σ' δ' G' H' s1 r1 z k => e.nx _ _ _ _ (s1.trans .drop) r1.drop (Stab.sr (.drop (H := H')) z) k, fun v d G' H' s1 r1 z k => e.rt _ _ _ _ (s1.trans .drop) r1.drop (Stab.vr (.drop (H := H')) z) k,
    fun σ' δ' G' H' s1 r1 z k => e.bk _ _ _ _ (s1.trans .drop) r1.drop (Stab.sr (.drop (H := H')) z) k, fun σ' δ' G' H' s1 r1 z k => e.ct _ _ _ _ (s1.trans .drop) r1.drop (Stab.sr (.drop (H := H')) z) k⟩
theorem drop_same : dropG (updG G a o) a = dropG G a := by
  funext c
  unfold dropG updG
  by_cases e : c = a
  · rw [if_pos e, if_pos e]
  · rw [if_neg e, if_neg e, if_neg e]
theorem drop_ne (h : b ≠ a) : dropG (updG G b o) a = updG (dropG G a) b o := by
  funext c
  unfold dropG updG
  by_cases e : c = a
  · subst e; simp only [if_true, if_neg (Ne.symm h)]
  · simp only [if_neg e]
theorem drop_none (h : G a = none) : dropG G a = G := by
  funext c
  unfold dropG
  by_cases e : c = a
  · subst e; rw [if_pos rfl, h]
  · rw [if_neg e]
theorem upd_comm {u : GO} (h : a ≠ b) : updG (updG G a o) b u = updG (updG G b u) a o := by
  funext c
  unfold updG
  by_cases e : c = b
  · subst e; rw [if_pos rfl, if_neg (Ne.symm h), if_pos rfl]
  · rw [if_neg e, if_neg e]
/-- a + b, two lists, the result to be written -/
def rAddG (K : PySem.W.Frag) : R2 := rAddU K
theorem k_addG {X : Cx} (K : PySem.W.Frag) (hK : X.K = K := by rfl) : OpR X (binaryOp .Add) (rAddG K) := k_add K hK
theorem we_addG (h : WE K ta δ G fun x G1 => WE K tb δ G1 fun y G2 => ∃ xs ys, LsOf G2 x xs ∧ LsOf G2 y ys ∧ xs.length + ys.length ≤ 1000000 ∧ ∀ p, G2 p = none → Φ (.obj p) (updG G2 p (.lst (xs ++ ys)))) : WE K (tOp (rAddG K) ta tb) δ G Φ :=
  we_op2 (Ψ := fun x y G Φ => ∃ xs ys, LsOf G x xs ∧ LsOf G y ys ∧ xs.length + ys.length ≤ 1000000 ∧ ∀ p, G p = none → Φ (.obj p) (updG G p (.lst (xs ++ ys)))) (fun P G H x y dx dy Φ r vx vy ⟨xs, ys, l1, l2, l, k⟩ Q q => by
    obtain ⟨a, vs, rfl, q1, w1⟩ := l1.at_ r vx
    obtain ⟨b, ws, rfl, q2, w2⟩ := l2.at_ r vy
    refine .inr (.inr (.inl ⟨a, b, vs, ws, rfl, rfl, q1, q2, by rw [w1.length, w2.length]; exact line6 l, fun p hp => ?_⟩))
    obtain ⟨s2, r2, v2⟩ := new_lstG r hp (w1.append w2)
    exact q _ _ _ _ s2 r2 v2 (k p (r.freshG hp))) h
end
/-! ### texts: short, of signs that are signs -/
def tOk (n : Nat) (z : Str) : Prop := z.length ≤ n ∧ PyData.strOk z = true
theorem tOk.mono {n m : Nat} {z : Str} (h : tOk n z) (k : n ≤ m) : tOk m z := ⟨Nat.le_trans h.1 k, h.2⟩
theorem tOk.add {n m : Nat} {x y : Str} (h : tOk n x) (k : tOk m y) : tOk (n + m) (x ++ y) := by
  refine ⟨by rw [Str.length_append]; have := h.1; have := k.1; omega, ?_⟩
  have h2 := h.2
  have k2 := k.2
  unfold PyData.strOk at h2 k2 ⊢
  rw [Array.all_eq_true] at h2 k2 ⊢
  have e : (x ++ y).cps = x.cps ++ y.cps := Str.cps_append x y
  intro i hi
  rw [e, Array.size_append] at hi
  simp only [e]
  by_cases l : i < x.cps.size
  · rw [Array.getElem_append_left l]; exact h2 i l
  · rw [Array.getElem_append_right (by omega)]; exact k2 _ (by omega)
theorem tOk.join {n : Nat} {z : Str} (hz : tOk 1 z) : ∀ {ys : List Str}, (∀ y ∈ ys, tOk n y) → tOk (ys.length * (n + 1)) (Str.join z ys)
  | [], _ => ⟨Nat.zero_le _, by show PyData.strOk Str.empty = true; decide +kernel⟩
  | [x], h => (h x List.mem_cons_self).mono (by simp)
  | x :: y :: r, h => by
    have h1 := h x List.mem_cons_self
    have h2 := tOk.join hz (ys := y :: r) fun q hq => h q (List.mem_cons_of_mem _ hq)
    have h3 := (h1.add hz).add h2
    refine h3.mono ?_
    rw [List.length_cons, List.length_cons, List.length_cons, Nat.succ_mul (r.length + 1)]
    omega
end DL
/-! (Gt) -/
namespace DL
open PySem PySem.Spec PyProof.Rows L2

local macro_rules | `(tactic| fail "l") => `(tactic| first | exact Nat.le_of_ble_eq_true rfl | omega | (simp only [List.length_map, List.length_append, List.length_cons, List.length_nil]; omega))
local macro_rules | `(tactic| fail "aS") => `(tactic| with_reducible first | refine ws_seq ?_ | refine ws_if ?_ | refine ws_ret ?_ | refine ws_asg ?_ | refine ws_drop ?_ | refine ws_next ?_ | refine ws_retN ?_ | refine ws_fldF ?_ | refine ws_fldN ?_ | refine ws_dput ?_ | apply ws_asgG)
local macro_rules | `(tactic| fail "aO") => `(tactic| with_reducible first | refine we_ix ?_ | refine we_II ?_ | refine we_IB ?_ | refine we_eq ?_ | refine we_ne ?_ | refine we_add ?_ | refine we_addG ?_ | refine we_IC ?_ | refine we_eqD ?_ | refine we_neD ?_ | refine we_inD ?_ | refine we_notInD ?_ | refine we_in ?_ | refine we_inSg ?_)
local macro_rules | `(tactic| fail "aC") => `(tactic| with_reducible first | refine we_len ?_ | refine we_lenD ?_ | refine we_all ?_ | refine we_any ?_ | refine we_int1 ?_ | refine we_strI ?_ | refine we_listOf ?_ | refine we_tupOf ?_ | refine we_sum ?_ | refine we_abs ?_ | refine we_min2 ?_ | refine we_gcd ?_)
local macro_rules | `(tactic| fail "aE") => `(tactic| first
  | ((with_reducible apply we_var); rfl)
  | with_reducible refine we_int ?_ | with_reducible refine we_str ?_ | with_reducible refine we_non ?_ | with_reducible refine we_bl ?_
  | ((with_reducible show WE _ (tOp _ _ _) _ _ _); fail "aO")
  | ((with_reducible show WE _ (tCB _ _) _ _ _); fail "aC")
  | with_reducible refine we_call ?_ | with_reducible refine we_fld ?_ | with_reducible refine we_meth' ?_ | with_reducible refine we_tup ?_ | with_reducible refine we_isi (by decide) ?_ | with_reducible refine we_lst ?_ | with_reducible refine we_lstG ?_
  | with_reducible refine we_and ?_ | with_reducible refine we_or ?_ | with_reducible refine we_not ?_ | with_reducible refine we_chainI ?_ | with_reducible refine we_isN ?_ | with_reducible refine we_notN ?_ | with_reducible refine we_append ?_ | with_reducible refine we_extend ?_ | with_reducible refine we_index ?_
  | with_reducible refine we_slL ?_ | with_reducible refine we_slT ?_ | with_reducible refine we_dget ?_ | with_reducible refine we_din ?_ | with_reducible refine we_dnotin ?_ | with_reducible refine we_dictG ?_ | with_reducible refine we_prop ?_ | with_reducible refine we_join ?_ | with_reducible refine we_neg ?_ | with_reducible refine we_lenSet ?_)
local macro_rules | `(tactic| fail "aT") => `(tactic| with_reducible first | refine wt_val ?_ | refine wt_tst ?_ | refine wt_and ?_ | refine wt_or ?_ | refine wt_not ?_ | refine wt_yes ?_)
local macro_rules | `(tactic| fail "aD") => `(tactic| with_reducible first | refine dEq_ii ?_ | refine dEq_ss ?_ | refine dEq_bb ?_ | refine dEq_nn ?_ | refine dEq_ni ?_ | refine dEq_in ?_ | refine dAdd_ii ?_ | refine dInt_i ?_ | refine dInt_b ?_ | refine dLen_l ?_ | refine dLen_t ?_)
local macro_rules | `(tactic| fail "a") => `(tactic| first
  | ((with_reducible show WE _ _ _ _ _); fail "aE")
  | ((with_reducible show WA _ _ _ _ _); (with_reducible first | refine wa_cons ?_ | refine wa_nil ?_))
  | ((with_reducible show WS _ _ _ _ _); fail "aS")
  | ((with_reducible show WT _ _ _ _ _); fail "aT")
  | ((with_reducible show WG _ _ _ _ _ _ _); first | with_reducible refine wg_name ?_ | ((with_reducible refine wg_tup ?_ ?_); rfl))
  | ((with_reducible show WGs _ _ _ _ _ _ _); (with_reducible first | refine wgs_cons ?_ | refine wgs_nil ?_))
  | ((with_reducible show WO _ _ _ _ _); (with_reducible first | refine wo_none ?_ | refine wo_some ?_))
  | ((with_reducible show dIx _ _ _ _); first | ((with_reducible apply dIx_t); rfl) | ((with_reducible apply dIx_l); rfl))
  | ((with_reducible show dAdd _ _ _ _); first | with_reducible refine dAdd_ii ?_ | ((with_reducible refine dAdd_ll ?_ ?_); fail "l") | ((with_reducible apply dAdd_ol); (fail "h"); (fail "l")) | ((with_reducible refine dAdd_tt ?_ ?_); fail "l") | ((with_reducible refine dAdd_ss ?_ ?_); fail "l"))
  | fail "aD")
local macro_rules | `(tactic| fail "e") => `(tactic| ((fail_if_success (with_reducible show ∃ _ : NF, _)); (fail_if_success (with_reducible show ∃ _ : PF, _)); (fail_if_success (with_reducible show ∃ _ : DF, _)); (first | with_reducible refine ⟨_, _, rfl, rfl, ?_⟩ | with_reducible refine ⟨_, rfl, ?_⟩ | with_reducible refine ⟨rfl, ?_⟩ | with_reducible refine ⟨_, _, rfl, ?_⟩ | with_reducible refine ⟨_, _, _, rfl, ?_⟩ | with_reducible refine ⟨_, _, _, _, rfl, ?_⟩ | ((refine ⟨?l, ?_⟩); (case l => (with_reducible show _ < 1000000); fail "l")) | ((refine ⟨?l, ?_⟩); (case l => (with_reducible show _ ≤ 1000000); fail "l")))))
local macro_rules | `(tactic| fail "h") => `(tactic| first | assumption | exact updG_same | (rw [updG_ne (by assumption)]; assumption) | (rw [updG_ne (by assumption), updG_ne (by assumption)]; assumption) | (rw [updG_ne (by assumption), updG_ne (by assumption), updG_ne (by assumption)]; assumption))
local macro_rules | `(tactic| fail "z") => `(tactic| first | rfl | exact ⟨rfl, rfl⟩ | exact ⟨_, rfl, rfl⟩ | exact ⟨_, _, rfl, rfl⟩ | exact ⟨_, _, _, rfl, rfl⟩ | assumption)
local macro_rules | `(tactic| fail "f") => `(tactic| first
  | refine ⟨_, _, rfl, .inr (.inl rfl), ?_⟩ | refine ⟨_, _, rfl, .inl rfl, ?_⟩
  | (refine ⟨_, ?ds, rfl, .inr (.inr ⟨_, rfl, ?h1⟩), ?_⟩; (case h1 => fail "h"))
  | (refine ⟨_, ?ds, rfl, .inr ⟨_, rfl, ?h1⟩, ?_⟩; (case h1 => fail "h"))
  | ((with_reducible refine ⟨_, ?ds, ?d, rfl, ?h1, ?h2, ?_⟩); (case h1 => fail "h"); (case h2 => rfl))
  | ((with_reducible refine ⟨_, ?ds, rfl, ?h1, ?_⟩); (case h1 => fail "h"))
  | ((with_reducible refine ⟨_, ?ns, ?ds, rfl, ?h1, ?h2, ?_⟩); (case h1 => fail "h"); (case h2 => decide))
  | ((with_reducible refine ⟨_, rfl, ⟨?ys, ?h1⟩, ?_⟩); (case h1 => fail "h"))
  | ((with_reducible refine ⟨_, ?xs, rfl, ?h1, ?h2, ?_⟩); (case h1 => fail "h"); (case h2 => omega)))
local macro_rules | `(tactic| fail "y") => `(tactic| first
  | ((with_reducible refine ⟨fun _ => ?_, fun hbb => ?nope⟩); (case nope => first | exact Bool.noConfusion (show true = false from hbb) | exact Bool.noConfusion (show false = true from hbb) | exact absurd (of_decide_eq_true hbb) (by omega) | exact absurd (of_decide_eq_false hbb) (by omega) | (simp at hbb; done) | (simp at hbb; omega)))
  | ((with_reducible refine ⟨fun hbb => ?nope, fun _ => ?_⟩); (case nope => first | exact Bool.noConfusion (show true = false from hbb) | exact Bool.noConfusion (show false = true from hbb) | exact absurd (of_decide_eq_true hbb) (by omega) | exact absurd (of_decide_eq_false hbb) (by omega) | (simp at hbb; done) | (simp at hbb; omega))))
local macro_rules | `(tactic| fail "w") => `(tactic| repeat fail "a")
local macro_rules | `(tactic| fail "x") => `(tactic| repeat (first | fail "a" | fail "f" | fail "e" | fail "y"))

/-! ### the texts of games and rules -/
def six : List Rt := [(0, 1), (1, 6), (1, 3), (1, 2), (2, 3), (5, 6), (1, 1)]
def lots6 : List (List Rt) := [[(1, 1), (0, 1), (0, 1)], [(0, 1), (1, 1), (0, 1)], [(0, 1), (0, 1), (1, 1)], [(1, 6), (1, 3), (1, 2)], [(1, 2), (0, 1), (1, 2)], [(1, 3), (1, 3), (1, 3)]]
instance {n : Nat} {z : Str} : Decidable (tOk n z) := by unfold tOk; infer_instance
def okRat (a : Rt) : Prop := Sm a ∧ (showR a).length ≤ 40 ∧ tOk 40 (showR a)
instance (a : Rt) : Decidable (okRat a) := by unfold okRat; infer_instance
theorem ok_six : ∀ a ∈ six, okRat a := by decide +kernel
theorem ok_lots : ∀ l ∈ lots6, l.length = 3 ∧ ∀ a ∈ l, okRat a := by decide +kernel
theorem ok_int {i : Int} (h : 0 ≤ i) (h5 : i < 5) : okRat (i, 1) := by
  have : i = 0 ∨ i = 1 ∨ i = 2 ∨ i = 3 ∨ i = 4 := by omega
  rcases this with rfl | rfl | rfl | rfl | rfl <;> decide +kernel
abbrev rowD (r : List Str) : PyData := .list (r.map .str)
abbrev enD (n : Nat) (l : List Rt) : PyData := .tuple [.list (l.map rT), .list ((List.replicate n ((0, 1) : Rt)).map rT)]
structure okR (A : List Ag) (rl : List (List Rt)) : Prop where
  len : rl.length = (profs (msOf A)).length
  lots : ∀ l ∈ rl, l ∈ lots6
def okRow (r : List Str) : Prop := r.length ≤ 10 ∧ ∀ z ∈ r, tOk 40 z
instance (r : List Str) : Decidable (okRow r) := by unfold okRow; infer_instance
theorem goodW.tOk {z : Str} (h : goodW z) : tOk 40 z := by
  refine ⟨by have := h.2.1; omega, ?_⟩
  have key : ∀ c ∈ abc.cps.toList, c < 0x110000 := by decide +kernel
  unfold PyData.strOk
  rw [Array.all_eq_true]
  intro i hi
  exact decide_eq_true (key _ (h.2.2 _ (Array.getElem_mem_toList hi)))
theorem okRow_cons {z : Str} {r : List Str} (hz : tOk 40 z) (h : ∀ q ∈ r, tOk 40 q) (hl : r.length ≤ 9) : okRow (z :: r) := ⟨by rw [List.length_cons]; omega, fun q hq => by
  rcases List.mem_cons.mp hq with e | e
  · rw [e]; exact hz
  · exact h q e⟩
theorem okG.name {A : List Ag} (h : okG A) {a : Ag} (m : a ∈ A) : tOk 40 a.1 := (h.nm.2.2.2 a.1 (List.mem_map_of_mem m)).tOk
theorem okG.kname {A : List Ag} (h : okG A) {a : Ag} (m : a ∈ A) {k : Kd} (n : k ∈ a.2) : tOk 40 k.1 := ((h.kn a m).2.2.2 k.1 (List.mem_map_of_mem n)).tOk
theorem okKd.rats {k : Kd} (h : okKd k) : ∀ a ∈ k.2.1 :: k.2.2.1 :: k.2.2.2, okRat a := fun a ha => by
  rcases List.mem_cons.mp ha with e | ha
  · rw [e, h.1]; decide +kernel
  rcases List.mem_cons.mp ha with e | ha
  · rw [e, h.2.1]; decide +kernel
  obtain ⟨i, h0, h5, e⟩ := h.2.2.2 a ha
  rw [e]
  exact ok_int h0 h5
theorem okRow.text {r : List Str} (h : okRow r) : tOk 500 (Txt.join " " r ++ "\n") := by
  have e : Txt.join " " r = Str.join " " r := TL.join_eq _ _
  have h1 : tOk (r.length * (40 + 1)) (Str.join " " r) := tOk.join (by decide +kernel) h.2
  have h2 : tOk 1 (("\n" : String) : Str) := by decide +kernel
  rw [e]
  refine (h1.add h2).mono ?_
  have := h.1
  have h3 : r.length * (40 + 1) ≤ 10 * 41 := Nat.mul_le_mul this (Nat.le_refl _)
  omega
theorem sum_le {ys : List Str} {n : Nat} (h : ∀ y ∈ ys, tOk n y) : (ys.map (·.length)).sum ≤ ys.length * n := by
  induction ys with
  | nil => simp
  | cons y ys ih =>
    have h1 := (h y List.mem_cons_self).1
    have h2 := ih fun q hq => h q (List.mem_cons_of_mem _ hq)
    rw [List.map_cons, List.sum_cons, List.length_cons, Nat.succ_mul]
    omega
abbrev F_write_game (K : PySem.W.Frag) : FT := F1 fun x G Φ => ∃ g A, x = .obj g ∧ G g = some (gameO K A) ∧ okG A ∧ ∀ z, tOk 100000 z → Φ (.dat (.str z)) G
abbrev F_write_rule (K : PySem.W.Frag) : FT := F2 fun x y G Φ => ∃ g A rl, x = .obj g ∧ G g = some (gameO K A) ∧ okG A ∧ okR A rl ∧ y = .dat (.list (rl.map (enD A.length))) ∧ ∀ z, tOk 100000 z → Φ (.dat (.str z)) G

theorem updG_none {G : GH} {a b : Addr} {o : GO} (h : updG G a o b = none) : b ≠ a ∧ G b = none := by
  by_cases e : b = a
  · subst e; rw [updG_same] at h; cases h
  · rw [updG_ne e] at h; exact ⟨e, h⟩
theorem row_app {rows : List (List Str)} {r : List Str} (h : ∀ r ∈ rows, okRow r) (k : okRow r) : ∀ q ∈ rows ++ [r], okRow q := fun q hq => by
  rcases List.mem_append.mp hq with z | z
  · exact h q z
  · rw [List.mem_singleton.mp z]; exact k

theorem sc_write_game : FnScope ["game", "header", "rows", "name", "kinds", "kind_name", "weight", "alone", "worths", "numbers", "need", "number", "row"] ["game"] (defScope (top 56)) := ⟨rfl, rfl, rfl, by decide +kernel, rfl, by decide +kernel, by decide +kernel⟩
theorem n_write_game {P : Program} {w : World} {K : PySem.W.Frag} {mg : Str → Option Value} {base : Heap} {fd : FuncData} {dvs : List V} {kws : List (Str × V)} (e : Ev P w K mg base) (FD : FunD K "write_game" "write_game" (defArgs (top 56)) (defBody (top 56)) (defScope (top 56)) dvs kws (He.ga K "write_game") fd) : FnOk P w K mg base CX0 2 (He.ga K "write_game") fd ["game"] (spD K (F_write_game K)) := by
  have S := sc_write_game
  refine okD FD S (fun _ _ _ h => len1 h) fun cdv A outer s H E hr => ⟨_, (pss_cons (ps_set (i := 1) S.nd rfl (by first | exact Or.inl rfl | exact Or.inr rfl) (pe_lstG (pa_cons pe_str pa_nil)))
      (pss_cons (ps_if (pt_val (k_fld K e.f_Game_payments (pv 0))) pss_never pss_nil)
      (pss_cons (ps_if (pt_val (k_fld K e.f_Game_lots (pv 0))) (pss_one (ps_expr (k_bm K PySem.F.plainAttrs_list PySem.F.slot_list_append PySem.F.type_list_append mt_append (pv 1) (pa_cons pe_str pa_nil)))) pss_nil)
      (pss_cons (ps_set (i := 2) S.nd rfl (by first | exact Or.inl rfl | exact Or.inr rfl) (pe_lstG (pa_cons (pe_op (k_add K) (pv 1) (pe_lst (pa_cons (k_fld K e.f_Game_aim (pv 0)) pa_nil))) (pa_cons (pe_op (k_add K) (pe_lst (pa_cons pe_str pa_nil)) (k_fld K e.f_Game_outcomes (pv 0))) pa_nil))))
      (pss_cons (ps_for PassesOwn.never rfl (k_ilist K (k_fld K e.f_Game_agents (pv 0))) (k_gtup K (n := 2) rfl (pgs_cons (pg_name (i := 3) S.nd rfl (by first | exact Or.inl rfl | exact Or.inr rfl)) (pgs_cons (pg_name (i := 4) S.nd rfl (by first | exact Or.inl rfl | exact Or.inr rfl)) pgs_nil))) (pss_cons (ps_expr (k_bm K PySem.F.plainAttrs_list PySem.F.slot_list_append PySem.F.type_list_append mt_append (pv 2) (pa_cons (pe_lst (pa_cons pe_str (pa_cons (pv 3) pa_nil))) pa_nil)))
      (pss_one (ps_for PassesOwn.never rfl (k_ilist K (pv 4)) (k_gtup K (n := 4) rfl (pgs_cons (pg_name (i := 5) S.nd rfl (by first | exact Or.inl rfl | exact Or.inr rfl)) (pgs_cons (pg_name (i := 6) S.nd rfl (by first | exact Or.inl rfl | exact Or.inr rfl)) (pgs_cons (pg_name (i := 7) S.nd rfl (by first | exact Or.inl rfl | exact Or.inr rfl)) (pgs_cons (pg_name (i := 8) S.nd rfl (by first | exact Or.inl rfl | exact Or.inr rfl)) pgs_nil))))) (pss_cons (ps_setLc (i := 9) (own := [("number", 11)]) rfl S.nd rfl rfl (by rfl) (k_ilist K (pe_op (k_add K) (pe_lst (pa_cons (pv 6) (pa_cons (pv 7) pa_nil))) (pv 8))) (blkOk_by (by rfl)) (fun _ _ _ _ _ => (pg_name (i := 11) S.nd rfl (by first | exact Or.inl rfl | exact Or.inr rfl))) (fun _ _ _ _ _ => pts_nil) (fun _ _ _ _ _ => (k_cl K (o_show_ratio e) (hr.mono (by decide)) e.g_show_ratio (pa_cons (pv 11) pa_nil))))
      (pss_one (ps_expr (k_bm K PySem.F.plainAttrs_list PySem.F.slot_list_append PySem.F.type_list_append mt_append (pv 2) (pa_cons (pe_op (k_add K) (pe_lst (pa_cons pe_str (pa_cons (pv 5) pa_nil))) (pv 9)) pa_nil)))))))))
      (pss_cons (ps_for PassesOwn.never rfl (k_ilist K (k_fld K e.f_Game_needs (pv 0))) (pg_name (i := 10) S.nd rfl (by first | exact Or.inl rfl | exact Or.inr rfl)) pss_never)
      (pss_one (ps_ret (k_join K pe_str (pe_lc (own := [("row", 12)]) rfl S.nd (k_ilist K (pv 2)) (blkOk_by (by rfl)) (fun _ _ _ _ _ => (pg_name (i := 12) S.nd rfl (by first | exact Or.inl rfl | exact Or.inr rfl))) (fun _ _ _ _ _ => pts_nil) (fun _ _ _ _ _ => (pe_op (k_add K) (k_join K pe_str (pv 12)) pe_str)))))))))))), ?_⟩
  intro ds G Φ h
  try dsimp only [cxK, blkK]
  obtain ⟨x, rfl, g, A, rfl, hg, hA, k⟩ := h
  have h3 := hA.n3
  fail "x"
  intro hp hn
  have hne : g ≠ hp := neG_none hg hn
  fail "x"
  intro rp hrn
  rw [updG_updG] at hrn ⊢
  obtain ⟨hrh, hrn⟩ := updG_none hrn
  have hne2 : g ≠ rp := neG_none hg hrn
  fail "x"
  refine ws_for (wi_list ?_)
  fail "x"
  refine ⟨[3] ++ ([4] ++ []), fun i δ G' => ∃ (rows : List (List Str)) (y3 y4 y5 y6 y7 y8 y9 : Option Dt), δ = [some (.obj g), some (.obj hp), some (.obj rp), y3, y4, y5, y6, y7, y8, y9, none, none, none] ∧
    G' = updG (updG G hp (.lst [.str "game", .str "lots"])) rp (.lst (rows.map rowD)) ∧ (∀ r ∈ rows, okRow r) ∧ rows.length ≤ 2 + 3 * i, ?_, ?_, ?_⟩
  · refine ⟨[["game", "lots", "total"], "outs" :: outs], none, none, none, none, none, none, none, rfl, rfl, by decide +kernel, by decide⟩
  · rintro i x δ' G' hx ⟨rows, y3, y4, y5, y6, y7, y8, y9, rfl, rfl, hr, hl⟩
    obtain ⟨a, ha, rfl⟩ := map_get hx
    have am := List.mem_of_getElem? ha
    have hi : i < A.length := (List.getElem?_eq_some_iff.mp ha).1
    fail "x"
    refine ws_for (wi_list ?_)
    fail "x"
    refine ⟨[5] ++ ([6] ++ ([7] ++ ([8] ++ []))), fun j δ G' => ∃ (rows : List (List Str)) (y5 y6 y7 y8 y9 : Option Dt), δ = [some (.obj g), some (.obj hp), some (.obj rp), some (.dat (.str a.1)), some (.dat (.list (a.2.map kdD))), y5, y6, y7, y8, y9, none, none, none] ∧
      G' = updG (updG G hp (.lst [.str "game", .str "lots"])) rp (.lst (rows.map rowD)) ∧ (∀ r ∈ rows, okRow r) ∧ rows.length ≤ 2 + 3 * i + 1 + j, ?_, ?_, ?_⟩
    · refine ⟨rows ++ [[("agent" : Str), a.1]], y5, y6, y7, y8, y9, rfl, ?_, row_app hr (okRow_cons (by decide +kernel) (fun q hq => by rw [List.mem_singleton.mp hq]; exact hA.name am) (by show 1 ≤ 9; omega)), ?_⟩
      · rw [updG_updG, List.map_append]; rfl
      · rw [List.length_append]; show _ + 1 ≤ _; omega
    · rintro j x δ' G' hx ⟨rows, y5, y6, y7, y8, y9, rfl, rfl, hr, hl⟩
      obtain ⟨kk, hk, rfl⟩ := map_get hx
      have km := List.mem_of_getElem? hk
      have hkd := hA.kd a am kk km
      have hk3 := hkd.2.2.1
      have hj : j < a.2.length := (List.getElem?_eq_some_iff.mp hk).1
      have ak2 := hA.k2 a am
      fail "x"
      refine we_mapL (wi_list ?_)
      fail "x"
      refine ⟨[11], Rt, kk.2.1 :: kk.2.2.1 :: kk.2.2.2, rT, fun a => .str (showR a), rfl, by decide, by rw [List.length_cons, List.length_cons]; omega, fun b hb => ?_, ?_⟩
      · have hb := hkd.rats b hb
        fail "x"
        exact ⟨hb.1, hb.2.1, rfl, rfl⟩
      fail "x"
      refine ⟨rows ++ [("kind" : Str) :: kk.1 :: (kk.2.1 :: kk.2.2.1 :: kk.2.2.2).map showR], some (.dat (.str kk.1)), some (.dat (rT kk.2.1)), some (.dat (rT kk.2.2.1)), some (.dat (.list (kk.2.2.2.map rT))), some (.dat (.list ((kk.2.1 :: kk.2.2.1 :: kk.2.2.2).map fun a => .str (showR a)))), rfl, ?_, row_app hr (okRow_cons (by decide +kernel) (fun q hq => ?_) ?_), ?_⟩
      · rw [updG_updG, List.map_append]
        simp [rowD, List.map_map]
        rfl
      · rcases List.mem_cons.mp hq with e | hq
        · rw [e]; exact hA.kname am km
        · obtain ⟨b, hb, rfl⟩ := List.mem_map.mp hq
          exact (hkd.rats b hb).2.2
      · simp [hk3]
      · rw [List.length_append]; show _ + 1 ≤ _; omega
    · rintro δ' G' ⟨rows, y5, y6, y7, y8, y9, rfl, rfl, hr, hl⟩
      have ak2 := hA.k2 a am
      refine ⟨rows, _, _, y5, y6, y7, y8, y9, rfl, rfl, hr, ?_⟩
      rw [List.length_map] at hl
      omega
  · rintro δ' G' ⟨rows, y3, y4, y5, y6, y7, y8, y9, rfl, rfl, hr, hl⟩
    fail "x"
    refine ws_for (wi_list ?_)
    fail "x"
    refine ⟨[], fun i δ G' => i = 0 ∧ δ = [some (.obj g), some (.obj hp), some (.obj rp), y3, y4, y5, y6, y7, y8, y9, none, none, none] ∧ G' = updG (updG G hp (.lst [.str "game", .str "lots"])) rp (.lst (rows.map rowD)), ⟨rfl, rfl, rfl⟩, ?_, ?_⟩
    · intro i x δ' G' hx
      simp at hx
    rintro δ' G' ⟨_, rfl, rfl⟩
    refine ws_ret (we_forget (a := hp) ?_)
    fail "x"
    refine we_mapL (wi_list (we_let (a := rp) (xs := rows.map rowD) rfl updG_same ?_))
    rw [drop_same, drop_none (show updG G hp _ rp = none by rw [updG_ne hrh]; exact hrn)]
    refine ⟨_, rfl, ?_⟩
    rw [List.length_map] at hl
    refine ⟨[12], List Str, rows, rowD, fun r => .str (Txt.join " " r ++ "\n"), rfl, by decide, by omega, fun r hm => ?_, ?_⟩
    · have ht := (hr r hm).text
      have h1 := (hr r hm).1
      have h2 := sum_le (hr r hm).2
      have h4 : r.length * 40 ≤ 10 * 40 := Nat.mul_le_mul h1 (Nat.le_refl _)
      fail "x"
      refine ⟨r, .inr (.inl rfl), ?_, ?_⟩
      · have : (" " : Str).length = 1 := rfl
        rw [this]; omega
      have e := Str.length_append (Txt.join " " r) "\n"
      have e1 := ht.1
      refine we_str (dAdd_ss ?_ ?_)
      · rw [← e]
        omega
      · exact ⟨rfl, rfl⟩
    have ht : ∀ y ∈ rows.map fun r => Txt.join " " r ++ ("\n" : Str), tOk 500 y := fun y hy => by
      obtain ⟨r, hm, rfl⟩ := List.mem_map.mp hy
      exact (hr r hm).text
    have h5 : (rows.map fun r => Txt.join " " r ++ ("\n" : Str)).length * 500 ≤ 11 * 500 := Nat.mul_le_mul (by rw [List.length_map]; omega) (Nat.le_refl _)
    refine ⟨rows.map fun r => Txt.join " " r ++ ("\n" : Str), .inr (.inl (by rw [List.map_map]; rfl)), ?_, ?_⟩
    · have := sum_le ht
      have e0 : ("" : Str).length = 0 := rfl
      rw [e0]; omega
    have e : Txt.join "" (rows.map fun r => Txt.join " " r ++ ("\n" : Str)) = Str.join "" (rows.map fun r => Txt.join " " r ++ ("\n" : Str)) := TL.join_eq _ _
    rw [e, drop_same, drop_none hn]
    refine k _ ((tOk.join (by decide +kernel) ht).mono ?_)
    rw [List.length_map]
    have : rows.length * (500 + 1) ≤ 11 * 501 := Nat.mul_le_mul (by omega) (Nat.le_refl _)
    omega
theorem o_write_game {P : Program} {w : World} {K : PySem.W.Frag} {mg : Str → Option Value} {base : Heap} (e : Ev P w K mg base) : OkD P w K mg base 2 (He.ga K "write_game") ["game"] [] (F_write_game K) := by
  obtain ⟨fd, FD⟩ := e.d_write_game
  exact okN FD (n_write_game e FD) fun _ _ _ _ _ _ us hl => match us, hl with | [_], _ => rfl
end DL
/-! (Gu) -/
namespace DL
open PySem PySem.Spec PyProof.Rows L2

local macro_rules | `(tactic| fail "l") => `(tactic| first | exact Nat.le_of_ble_eq_true rfl | omega | (simp only [List.length_map, List.length_append, List.length_cons, List.length_nil]; omega))
local macro_rules | `(tactic| fail "aS") => `(tactic| with_reducible first | refine ws_seq ?_ | refine ws_if ?_ | refine ws_ret ?_ | refine ws_asg ?_ | refine ws_drop ?_ | refine ws_next ?_ | refine ws_retN ?_ | refine ws_fldF ?_ | refine ws_fldN ?_ | refine ws_dput ?_ | apply ws_asgG)
local macro_rules | `(tactic| fail "aO") => `(tactic| with_reducible first | refine we_ix ?_ | refine we_II ?_ | refine we_IB ?_ | refine we_eq ?_ | refine we_ne ?_ | refine we_add ?_ | refine we_addG ?_ | refine we_IC ?_ | refine we_eqD ?_ | refine we_neD ?_ | refine we_inD ?_ | refine we_notInD ?_ | refine we_in ?_ | refine we_inSg ?_)
local macro_rules | `(tactic| fail "aC") => `(tactic| with_reducible first | refine we_len ?_ | refine we_lenD ?_ | refine we_all ?_ | refine we_any ?_ | refine we_int1 ?_ | refine we_strI ?_ | refine we_listOf ?_ | refine we_tupOf ?_ | refine we_sum ?_ | refine we_abs ?_ | refine we_min2 ?_ | refine we_gcd ?_)
local macro_rules | `(tactic| fail "aE") => `(tactic| first
  | ((with_reducible apply we_var); rfl)
  | with_reducible refine we_int ?_ | with_reducible refine we_str ?_ | with_reducible refine we_non ?_ | with_reducible refine we_bl ?_
  | ((with_reducible show WE _ (tOp _ _ _) _ _ _); fail "aO")
  | ((with_reducible show WE _ (tCB _ _) _ _ _); fail "aC")
  | with_reducible refine we_call ?_ | with_reducible refine we_fld ?_ | with_reducible refine we_meth' ?_ | with_reducible refine we_tup ?_ | with_reducible refine we_isi (by decide) ?_ | with_reducible refine we_lst ?_ | with_reducible refine we_lstG ?_
  | with_reducible refine we_and ?_ | with_reducible refine we_or ?_ | with_reducible refine we_not ?_ | with_reducible refine we_chainI ?_ | with_reducible refine we_isN ?_ | with_reducible refine we_notN ?_ | with_reducible refine we_append ?_ | with_reducible refine we_extend ?_ | with_reducible refine we_index ?_
  | with_reducible refine we_slL ?_ | with_reducible refine we_slT ?_ | with_reducible refine we_dget ?_ | with_reducible refine we_din ?_ | with_reducible refine we_dnotin ?_ | with_reducible refine we_dictG ?_ | with_reducible refine we_prop ?_ | with_reducible refine we_join ?_ | with_reducible refine we_neg ?_ | with_reducible refine we_lenSet ?_)
local macro_rules | `(tactic| fail "aT") => `(tactic| with_reducible first | refine wt_val ?_ | refine wt_tst ?_ | refine wt_and ?_ | refine wt_or ?_ | refine wt_not ?_ | refine wt_yes ?_)
local macro_rules | `(tactic| fail "aD") => `(tactic| with_reducible first | refine dEq_ii ?_ | refine dEq_ss ?_ | refine dEq_bb ?_ | refine dEq_nn ?_ | refine dEq_ni ?_ | refine dEq_in ?_ | refine dAdd_ii ?_ | refine dInt_i ?_ | refine dInt_b ?_ | refine dLen_l ?_ | refine dLen_t ?_)
local macro_rules | `(tactic| fail "a") => `(tactic| first
  | ((with_reducible show WE _ _ _ _ _); fail "aE")
  | ((with_reducible show WA _ _ _ _ _); (with_reducible first | refine wa_cons ?_ | refine wa_nil ?_))
  | ((with_reducible show WS _ _ _ _ _); fail "aS")
  | ((with_reducible show WT _ _ _ _ _); fail "aT")
  | ((with_reducible show WG _ _ _ _ _ _ _); first | with_reducible refine wg_name ?_ | ((with_reducible refine wg_tup ?_ ?_); rfl))
  | ((with_reducible show WGs _ _ _ _ _ _ _); (with_reducible first | refine wgs_cons ?_ | refine wgs_nil ?_))
  | ((with_reducible show WO _ _ _ _ _); (with_reducible first | refine wo_none ?_ | refine wo_some ?_))
  | ((with_reducible show dIx _ _ _ _); first | ((with_reducible apply dIx_t); rfl) | ((with_reducible apply dIx_l); rfl))
  | ((with_reducible show dAdd _ _ _ _); first | with_reducible refine dAdd_ii ?_ | ((with_reducible refine dAdd_ll ?_ ?_); fail "l") | ((with_reducible apply dAdd_ol); (fail "h"); (fail "l")) | ((with_reducible refine dAdd_tt ?_ ?_); fail "l") | ((with_reducible refine dAdd_ss ?_ ?_); fail "l"))
  | fail "aD")
local macro_rules | `(tactic| fail "e") => `(tactic| ((fail_if_success (with_reducible show ∃ _ : NF, _)); (fail_if_success (with_reducible show ∃ _ : PF, _)); (fail_if_success (with_reducible show ∃ _ : DF, _)); (first | with_reducible refine ⟨_, _, rfl, rfl, ?_⟩ | with_reducible refine ⟨_, rfl, ?_⟩ | with_reducible refine ⟨rfl, ?_⟩ | with_reducible refine ⟨_, _, rfl, ?_⟩ | with_reducible refine ⟨_, _, _, rfl, ?_⟩ | with_reducible refine ⟨_, _, _, _, rfl, ?_⟩ | ((refine ⟨?l, ?_⟩); (case l => (with_reducible show _ < 1000000); fail "l")) | ((refine ⟨?l, ?_⟩); (case l => (with_reducible show _ ≤ 1000000); fail "l")))))
local macro_rules | `(tactic| fail "h") => `(tactic| first | assumption | exact updG_same | (rw [updG_ne (by assumption)]; assumption) | (rw [updG_ne (by assumption), updG_ne (by assumption)]; assumption) | (rw [updG_ne (by assumption), updG_ne (by assumption), updG_ne (by assumption)]; assumption))
local macro_rules | `(tactic| fail "z") => `(tactic| first | rfl | exact ⟨rfl, rfl⟩ | exact ⟨_, rfl, rfl⟩ | exact ⟨_, _, rfl, rfl⟩ | exact ⟨_, _, _, rfl, rfl⟩ | assumption)
local macro_rules | `(tactic| fail "f") => `(tactic| first
  | refine ⟨_, _, rfl, .inr (.inl rfl), ?_⟩ | refine ⟨_, _, rfl, .inl rfl, ?_⟩
  | (refine ⟨_, ?ds, rfl, .inr (.inr ⟨_, rfl, ?h1⟩), ?_⟩; (case h1 => fail "h"))
  | (refine ⟨_, ?ds, rfl, .inr ⟨_, rfl, ?h1⟩, ?_⟩; (case h1 => fail "h"))
  | ((with_reducible refine ⟨_, ?ds, ?d, rfl, ?h1, ?h2, ?_⟩); (case h1 => fail "h"); (case h2 => rfl))
  | ((with_reducible refine ⟨_, ?ds, rfl, ?h1, ?_⟩); (case h1 => fail "h"))
  | ((with_reducible refine ⟨_, ?ns, ?ds, rfl, ?h1, ?h2, ?_⟩); (case h1 => fail "h"); (case h2 => decide))
  | ((with_reducible refine ⟨_, rfl, ⟨?ys, ?h1⟩, ?_⟩); (case h1 => fail "h"))
  | ((with_reducible refine ⟨_, ?xs, rfl, ?h1, ?h2, ?_⟩); (case h1 => fail "h"); (case h2 => omega)))
local macro_rules | `(tactic| fail "y") => `(tactic| first
  | ((with_reducible refine ⟨fun _ => ?_, fun hbb => ?nope⟩); (case nope => first | exact Bool.noConfusion (show true = false from hbb) | exact Bool.noConfusion (show false = true from hbb) | exact absurd (of_decide_eq_true hbb) (by omega) | exact absurd (of_decide_eq_false hbb) (by omega) | (simp at hbb; done) | (simp at hbb; omega)))
  | ((with_reducible refine ⟨fun hbb => ?nope, fun _ => ?_⟩); (case nope => first | exact Bool.noConfusion (show true = false from hbb) | exact Bool.noConfusion (show false = true from hbb) | exact absurd (of_decide_eq_true hbb) (by omega) | exact absurd (of_decide_eq_false hbb) (by omega) | (simp at hbb; done) | (simp at hbb; omega))))
local macro_rules | `(tactic| fail "w") => `(tactic| repeat fail "a")
local macro_rules | `(tactic| fail "x") => `(tactic| repeat (first | fail "a" | fail "f" | fail "e" | fail "y"))

theorem profs_ok : ∀ {ms pre : List Nat} {rows : List (List Nat)} {r : List Nat}, (∀ q ∈ rows, q.length = pre.length ∧ ∀ p ∈ pre.zip q, p.2 < p.1) → r ∈ ms.foldl (fun rows m => rows.flatMap fun r => (List.range m).map fun k => r ++ [k]) rows →
    r.length = (pre ++ ms).length ∧ ∀ p ∈ (pre ++ ms).zip r, p.2 < p.1
  | [], pre, rows, r, h, hr => by rw [List.append_nil]; exact h r hr
  | m :: ms, pre, rows, r, h, hr => by
    have h1 : ∀ q ∈ (rows.flatMap fun r => (List.range m).map fun k => r ++ [k]), q.length = (pre ++ [m]).length ∧ ∀ p ∈ (pre ++ [m]).zip q, p.2 < p.1 := fun q hq => by
      obtain ⟨p, hp, hq⟩ := List.mem_flatMap.mp hq
      obtain ⟨k, hk, rfl⟩ := List.mem_map.mp hq
      obtain ⟨e1, e2⟩ := h p hp
      refine ⟨by rw [List.length_append, List.length_append, e1]; rfl, fun z hz => ?_⟩
      rw [List.zip_append e1.symm] at hz
      rcases List.mem_append.mp hz with hz | hz
      · exact e2 z hz
      · rw [List.zip_cons_cons, List.zip_nil_right] at hz
        rw [List.mem_singleton.mp hz]
        exact List.mem_range.mp hk
    have h2 := profs_ok (ms := ms) h1 hr
    rw [List.append_assoc] at h2
    exact h2
theorem prof_ok {ms r : List Nat} (h : r ∈ profs ms) : r.length = ms.length ∧ ∀ p ∈ ms.zip r, p.2 < p.1 := profs_ok (pre := []) (fun q hq => by rw [List.mem_singleton.mp hq]; exact ⟨rfl, fun p hp => by cases hp⟩) h

theorem sc_write_rule : FnScope ["game", "rule", "text", "profile", "entry", "words", "agent", "kind", "number"] ["game", "rule"] (defScope (top 57)) := ⟨rfl, rfl, rfl, by decide +kernel, rfl, by decide +kernel, by decide +kernel⟩
theorem n_write_rule {P : Program} {w : World} {K : PySem.W.Frag} {mg : Str → Option Value} {base : Heap} {fd : FuncData} {dvs : List V} {kws : List (Str × V)} (e : Ev P w K mg base) (FD : FunD K "write_rule" "write_rule" (defArgs (top 57)) (defBody (top 57)) (defScope (top 57)) dvs kws (He.ga K "write_rule") fd) : FnOk P w K mg base CX0 2 (He.ga K "write_rule") fd ["game", "rule"] (spD K (F_write_rule K)) := by
  have S := sc_write_rule
  refine okD FD S (fun _ _ _ h => len2 h) fun cdv A outer s H E hr => ⟨_, (pss_cons (ps_set (i := 2) S.nd rfl (by first | exact Or.inl rfl | exact Or.inr rfl) pe_str)
      (pss_cons (ps_for PassesOwn.never rfl (pi_zip rfl e.x_zip (pa_cons (k_cl K (o_profiles e) (hr.mono (by decide)) e.g_profiles (pa_cons (pv 0) pa_nil)) (pa_cons (pv 1) pa_nil))) (k_gtup K (n := 2) rfl (pgs_cons (pg_name (i := 3) S.nd rfl (by first | exact Or.inl rfl | exact Or.inr rfl)) (pgs_cons (pg_name (i := 4) S.nd rfl (by first | exact Or.inl rfl | exact Or.inr rfl)) pgs_nil))) (pss_cons (ps_set (i := 5) S.nd rfl (by first | exact Or.inl rfl | exact Or.inr rfl) (pe_op (k_addG K) (pe_lst (pa_cons pe_str pa_nil)) (pe_lc (own := [("agent", 6), ("kind", 7)]) rfl S.nd (k_enumT K rfl e.x_enumerate (pa_cons (pv 3) pa_nil)) (blkOk_by (by rfl)) (fun _ _ _ _ _ => (k_gtup K (n := 2) rfl (pgs_cons (pg_name (i := 6) S.nd rfl (by first | exact Or.inl rfl | exact Or.inr rfl)) (pgs_cons (pg_name (i := 7) S.nd rfl (by first | exact Or.inl rfl | exact Or.inr rfl)) pgs_nil)))) (fun _ _ _ _ _ => pts_nil) (fun _ _ _ _ _ => (pe_ix (k_ix K) (pe_ix (k_ix K) (pe_ix (k_ix K) (pe_ix (k_ix K) (k_fld K e.f_Game_agents (pv 0)) (pv 6) (fun _ _ => rfl)) pe_int (fun _ _ => rfl)) (pv 7) (fun _ _ => rfl)) pe_int (fun _ _ => rfl))))))
      (pss_cons (ps_expr (k_bm K PySem.F.plainAttrs_list PySem.F.slot_list_extend PySem.F.type_list_extend mt_extR (pv 5) (pa_cons (pe_lc (own := [("number", 8)]) rfl S.nd (k_ilist K (pe_ix (k_ix K) (pv 4) pe_int (fun _ _ => rfl))) (blkOk_by (by rfl)) (fun _ _ _ _ _ => (pg_name (i := 8) S.nd rfl (by first | exact Or.inl rfl | exact Or.inr rfl))) (fun _ _ _ _ _ => pts_nil) (fun _ _ _ _ _ => (k_cl K (o_show_ratio e) (hr.mono (by decide)) e.g_show_ratio (pa_cons (pv 8) pa_nil)))) pa_nil)))
      (pss_cons (ps_if (pt_val (k_fld K e.f_Game_payments (pv 0))) pss_never pss_nil)
      (pss_one (ps_set (i := 2) S.nd rfl (by first | exact Or.inl rfl | exact Or.inr rfl) (pe_op (k_add K) (pe_op (k_add K) (pv 2) (k_join K pe_str (pv 5))) pe_str)))))))
      (pss_one (ps_ret (pv 2))))), ?_⟩
  intro ds G Φ h
  try dsimp only [cxK, blkK]
  obtain ⟨x, y, rfl, g, A, rl, rfl, hg, hA, hR, rfl, k⟩ := h
  have h3 := hA.n3
  fail "x"
  refine ws_for (wi_zip ?_)
  fail "x"
  refine ⟨hA, ?_⟩
  fail "x"
  have hpl : (profs (msOf A)).length ≤ 8 := by
    have h1 := profs_len (ms := msOf A) (rows := [[]]) fun m hm => by
      obtain ⟨b, hb, rfl⟩ := List.mem_map.mp hm
      exact hA.k2 b hb
    have h2 : (msOf A).length ≤ 3 := by unfold msOf; rw [List.length_map]; omega
    have h4 : 2 ^ (msOf A).length ≤ 2 ^ 3 := Nat.pow_le_pow_right (by omega) h2
    have h5 : (profs (msOf A)).length ≤ 1 * 2 ^ (msOf A).length := h1
    omega
  refine ⟨[3] ++ ([4] ++ []), fun i δ G' => ∃ (z : Str) (y3 y4 y5 y6 y7 y8 : Option Dt), δ = [some (.obj g), some (.dat (.list (rl.map (enD A.length)))), some (.dat (.str z)), y3, y4, y5, y6, y7, y8] ∧ G' = G ∧ tOk (10 + i * 600) z, ⟨_, _, _, _, _, _, _, rfl, rfl, by decide +kernel⟩, ?_, ?_⟩
  · rintro i x δ' G' hx ⟨z, y3, y4, y5, y6, y7, y8, rfl, rfl, hz⟩
    obtain ⟨q, hq, rfl⟩ := map_get hx
    obtain ⟨hq1, hq2⟩ := List.getElem?_zip_eq_some.mp hq
    obtain ⟨r, hr, e1⟩ := map_get hq1
    obtain ⟨l, hl, e2⟩ := map_get hq2
    rw [← e1, ← e2]
    have hlo := ok_lots l (hR.lots l (List.mem_of_getElem? hl))
    have rm := List.mem_of_getElem? hr
    have hi : i < 8 := by have := (List.getElem?_eq_some_iff.mp hr).1; omega
    obtain ⟨rl1, rl2⟩ := prof_ok rm
    have rl3 : r.length = A.length := by rw [rl1]; unfold msOf; rw [List.length_map]
    fail "x"
    refine we_map (wi_enumT ?_)
    fail "x"
    refine ⟨[6] ++ ([7] ++ []), (A.zip r).map fun p => .str ((p.1.2[p.2]?.map (·.1)).getD ""), by decide, ?_, ?_, ?_, ?_⟩
    · rw [numD_length, List.length_map]; omega
    · rw [numD_length, List.length_map, List.length_map, List.length_zip]; omega
    · intro j x y hx hy
      obtain ⟨v, hv, rfl⟩ := numD_get.mp hx
      obtain ⟨k0, hk0, rfl⟩ := map_get hv
      obtain ⟨⟨a, k1⟩, hak, rfl⟩ := map_get hy
      obtain ⟨ha, hk1⟩ := List.getElem?_zip_eq_some.mp hak
      rw [hk0] at hk1
      obtain rfl : k0 = k1 := Option.some.inj hk1
      have hm : (msOf A)[j]? = some a.2.length := by unfold msOf; rw [List.getElem?_map, ha]; rfl
      have hlt : k0 < a.2.length := rl2 (a.2.length, k0) (List.mem_of_getElem? (i := j) (by rw [List.getElem?_zip_eq_some]; exact ⟨hm, hk0⟩))
      have hkk : a.2[k0]? = some a.2[k0] := List.getElem?_eq_getElem hlt
      fail "x"
      refine dIx_l (atI_nat (by rw [List.getElem?_map, ha]; rfl)) ?_
      fail "x"
      refine dIx_l (atI_nat (by rw [List.getElem?_map, hkk]; rfl)) ?_
      fail "x"
      refine ⟨?_, rfl⟩
      simp only [hkk, Option.map_some, Option.getD_some]
    · refine ⟨[.str "at"], (A.zip r).map fun p => .str ((p.1.2[p.2]?.map (·.1)).getD ""), .inl rfl, .inl rfl, ?_, fun p hp => ?_⟩
      · simp only [List.length_map, List.length_zip, List.length_cons, List.length_nil]; omega
      have hne : g ≠ p := neG_none hg hp
      refine ws_forget (a := p) ?_
      fail "x"
      refine we_mapL (wi_list ?_)
      fail "x"
      refine ⟨[8], Rt, l, rT, fun a => .str (showR a), rfl, by decide, by omega, fun b hb => ?_, ?_⟩
      · have hb := hlo.2 b hb
        fail "x"
        exact ⟨hb.1, hb.2.1, rfl, rfl⟩
      fail "x"
      refine ⟨_, l.map fun a => .str (showR a), _, rfl, .inl rfl, updG_same, by simp only [List.length_map, List.length_append, List.length_zip, List.length_cons, List.length_nil]; omega, ?_⟩
      have hW : okRow (("at" : Str) :: ((A.zip r).map fun p => (p.1.2[p.2]?.map (·.1)).getD "") ++ l.map showR) := by
        refine ⟨by simp only [List.length_map, List.length_append, List.length_zip, List.length_cons, List.length_nil]; omega, fun q hq => ?_⟩
        rcases List.mem_append.mp hq with hq | hq
        · rcases List.mem_cons.mp hq with e | hq
          · rw [e]; decide +kernel
          · obtain ⟨⟨a, k1⟩, ham, rfl⟩ := List.mem_map.mp hq
            have am : a ∈ A := (List.of_mem_zip ham).1
            show tOk 40 ((a.2[k1]?.map (·.1)).getD "")
            cases hk : a.2[k1]? with
            | none => decide +kernel
            | some kk => exact hA.kname am (List.mem_of_getElem? hk)
        · obtain ⟨b, hb, rfl⟩ := List.mem_map.mp hq
          exact (hlo.2 b hb).2.2
      have ht := hW.text
      have h1 := hW.1
      have h2 := sum_le hW.2
      have e := Str.length_append (Txt.join " " (("at" : Str) :: ((A.zip r).map fun p => (p.1.2[p.2]?.map (·.1)).getD "") ++ l.map showR)) "\n"
      have e3 := ht.1
      rw [updG_updG]
      fail "x"
      refine ⟨("at" : Str) :: ((A.zip r).map fun p => (p.1.2[p.2]?.map (·.1)).getD "") ++ l.map showR, .inr (.inr ⟨p, rfl, ?_⟩), ?_, ?_⟩
      · rw [updG_same, List.map_append, List.map_cons, List.map_map, List.map_map]; rfl
      · have : (" " : Str).length = 1 := rfl
        rw [this]
        generalize (("at" : Str) :: ((A.zip r).map fun p => (p.1.2[p.2]?.map (·.1)).getD "") ++ l.map showR) = W at h1 h2 ⊢
        have h4 : W.length * 40 ≤ 10 * 40 := Nat.mul_le_mul h1 (Nat.le_refl _)
        omega
      refine dAdd_ss (by have := hz.1; omega) (we_str (dAdd_ss (by rw [Str.length_append]; have := hz.1; omega) ?_))
      refine ⟨_, _, _, _, _, _, _, rfl, ?_, ?_⟩
      · rw [drop_same, drop_none hp]
      · rw [show ∀ a b c : Str, a ++ b ++ c = a ++ (b ++ c) from fun a b c => Str.append_assoc a b c]
        exact (hz.add ht).mono (by omega)
  · rintro δ' G' ⟨z, y3, y4, y5, y6, y7, y8, rfl, rfl, hz⟩
    fail "x"
    refine k z (hz.mono ?_)
    unfold zipD
    rw [List.length_map, List.length_zip, List.length_map, List.length_map]
    omega
theorem o_write_rule {P : Program} {w : World} {K : PySem.W.Frag} {mg : Str → Option Value} {base : Heap} (e : Ev P w K mg base) : OkD P w K mg base 2 (He.ga K "write_rule") ["game", "rule"] [] (F_write_rule K) := by
  obtain ⟨fd, FD⟩ := e.d_write_rule
  exact okN FD (n_write_rule e FD) fun _ _ _ _ _ _ us hl => match us, hl with | [_, _], _ => rfl
end DL
/-! (Ty) -/
namespace DL
open PySem PySem.Spec PyProof.Rows L2
/-! ### tame data: ints, texts, tuples of them, n deep -/
def cok : Nat → PyData → Bool
  | _, .int _ => true
  | _, .str s => PyData.strOk s
  | n + 1, .tuple xs => decide (xs.length ≤ 5) && xs.all (cok n)
  | _, _ => false
theorem cok_int {n : Nat} {i : Int} : cok n (.int i) = true := by cases n <;> rfl
theorem cok_str {n : Nat} {s : Str} : cok n (.str s) = PyData.strOk s := by cases n <;> rfl
theorem cok_mk {n : Nat} {xs : List PyData} (l : xs.length ≤ 5) (h : ∀ x ∈ xs, cok n x = true) : cok (n + 1) (.tuple xs) = true := by
  show (decide (xs.length ≤ 5) && xs.all (cok n)) = true
  rw [decide_eq_true l, List.all_eq_true.mpr h]; rfl
theorem cok_of {n : Nat} {xs : List PyData} (h : cok (n + 1) (.tuple xs) = true) : xs.length ≤ 5 ∧ ∀ x ∈ xs, cok n x = true := by
  obtain ⟨h1, h2⟩ := Bool.and_eq_true_iff.mp (show (decide (xs.length ≤ 5) && xs.all (cok n)) = true from h)
  exact ⟨of_decide_eq_true h1, List.all_eq_true.mp h2⟩
theorem cok_up : ∀ {n : Nat} {d : PyData}, cok n d = true → cok (n + 1) d = true
  | n, .int i, _ => cok_int
  | n, .str s, h => by rw [cok_str] at h ⊢; exact h
  | 0, .tuple xs, h => by cases h
  | n + 1, .tuple xs, h => by
    obtain ⟨l, h⟩ := cok_of h
    exact cok_mk l fun x hx => cok_up (h x hx)
  | 0, .none, h => by cases h
  | n + 1, .none, h => by cases h
  | 0, .bool _, h => by cases h
  | n + 1, .bool _, h => by cases h
  | 0, .list _, h => by cases h
  | n + 1, .list _, h => by cases h
  | 0, .dict _, h => by cases h
  | n + 1, .dict _, h => by cases h
theorem cok_le {n m : Nat} {d : PyData} (h : cok n d = true) (l : n ≤ m) : cok m d = true := by
  induction m with
  | zero => have : n = 0 := by omega
            subst this; exact h
  | succ m ih =>
    by_cases e : n = m + 1
    · subst e; exact h
    · exact cok_up (ih (by omega))
theorem lay_all {xs : List PyData} (h : ∀ x ∈ xs, x.canLay0 = true) : PyData.canLayAll0 xs = true := by
  induction xs with
  | nil => rfl
  | cons x xs ih =>
    show (x.canLay0 && PyData.canLayAll0 xs) = true
    rw [h x List.mem_cons_self, ih fun y hy => h y (List.mem_cons_of_mem _ hy)]; rfl
theorem depth_all {xs : List PyData} {n : Nat} (h : ∀ x ∈ xs, x.depth ≤ n) : PyData.depthAll xs ≤ n := by
  induction xs with
  | nil => exact Nat.zero_le _
  | cons x xs ih =>
    show max x.depth (PyData.depthAll xs) ≤ n
    have := h x List.mem_cons_self
    have := ih fun y hy => h y (List.mem_cons_of_mem _ hy)
    omega
theorem cok_lay : ∀ {n : Nat} {d : PyData}, cok n d = true → d.canLay0 = true ∧ d.depth ≤ n
  | n, .int i, _ => ⟨rfl, Nat.zero_le _⟩
  | n, .str s, h => by rw [cok_str] at h; exact ⟨h, Nat.zero_le _⟩
  | 0, .tuple xs, h => by cases h
  | n + 1, .tuple xs, h => by
    have h := (cok_of h).2
    exact ⟨lay_all fun x hx => (cok_lay (h x hx)).1, Nat.succ_le_succ (depth_all fun x hx => (cok_lay (h x hx)).2)⟩
  | 0, .none, h => by cases h
  | n + 1, .none, h => by cases h
  | 0, .bool _, h => by cases h
  | n + 1, .bool _, h => by cases h
  | 0, .list _, h => by cases h
  | n + 1, .list _, h => by cases h
  | 0, .dict _, h => by cases h
  | n + 1, .dict _, h => by cases h
theorem cok_shaped {n : Nat} {d : PyData} (h : cok n d = true) (l : n ≤ 64) : SeqAt.shaped d = true := by
  obtain ⟨h1, h2⟩ := cok_lay h
  unfold SeqAt.shaped
  rw [h1, decide_eq_true (Nat.le_trans h2 l)]; rfl
theorem cok_list {n : Nat} {ds : List PyData} (h : ∀ d ∈ ds, cok n d = true) (l : n ≤ 63) : SeqAt.shaped (.list ds) = true := by
  have h1 : (PyData.list ds).canLay0 = true := lay_all fun x hx => (cok_lay (h x hx)).1
  have h2 : (PyData.list ds).depth ≤ n + 1 := Nat.succ_le_succ (depth_all fun x hx => (cok_lay (h x hx)).2)
  unfold SeqAt.shaped
  rw [h1, decide_eq_true (Nat.le_trans h2 (by omega))]; rfl
theorem eqvAll_eq {f : PyData → Prop} : ∀ {xs ys : List PyData}, (∀ x ∈ xs, ∀ y ∈ ys, PyData.eqv x y = true → x = y) → PyData.eqvAll xs ys = true → xs = ys
  | [], [], _, _ => rfl
  | [], _ :: _, _, h => by cases h
  | _ :: _, [], _, h => by cases h
  | x :: xs, y :: ys, k, h => by
    have h' : (PyData.eqv x y && PyData.eqvAll xs ys) = true := by rw [PyData.eqvAll] at h; exact h
    obtain ⟨h1, h2⟩ := Bool.and_eq_true_iff.mp h'
    rw [k x List.mem_cons_self y List.mem_cons_self h1, eqvAll_eq (f := f) (fun a ha b hb => k a (List.mem_cons_of_mem _ ha) b (List.mem_cons_of_mem _ hb)) h2]
theorem eqv_cok : ∀ {n m : Nat} {a b : PyData}, cok n a = true → cok m b = true → PyData.eqv a b = true → a = b
  | n, m, .int i, b, _, hb, h => by
    cases b with
    | int j => rw [PyData.eqv] at h; rw [eq_of_beq h]
    | bool j => cases m <;> cases hb
    | _ => rw [PyData.eqv] at h; cases h
  | n, m, .str s, b, _, hb, h => by
    cases b with
    | str j => rw [PyData.eqv] at h; rw [eq_of_beq h]
    | _ => rw [PyData.eqv] at h; cases h
  | 0, m, .tuple xs, b, ha, hb, h => by cases ha
  | n + 1, m, .tuple xs, b, ha, hb, h => by
    cases b with
    | tuple ys =>
      cases m with
      | zero => cases hb
      | succ m =>
        rw [PyData.eqv] at h
        have ha := (cok_of ha).2
        have hb := (cok_of hb).2
        rw [eqvAll_eq (f := fun _ => True) (fun x hx y hy => eqv_cok (ha x hx) (hb y hy)) h]
    | _ => rw [PyData.eqv] at h; cases h
  | 0, _, .none, _, h, _, _ => by cases h
  | n + 1, _, .none, _, h, _, _ => by cases h
  | 0, _, .bool _, _, h, _, _ => by cases h
  | n + 1, _, .bool _, _, h, _, _ => by cases h
  | 0, _, .list _, _, h, _, _ => by cases h
  | n + 1, _, .list _, _, h, _, _ => by cases h
  | 0, _, .dict _, _, h, _, _ => by cases h
  | n + 1, _, .dict _, _, h, _, _ => by cases h
/-- tame data that stand for things -/
structure Tame {α : Type} (d : α → PyData) (ok : α → Prop) (n : Nat) : Prop where
  inj : ∀ a b, d a = d b → a = b
  cok : ∀ a, ok a → cok n (d a) = true
  le : n ≤ 62
section
variable {α : Type} [DecidableEq α] {d : α → PyData} {ok : α → Prop} {n : Nat}
theorem Tame.eqv (T : Tame d ok n) {a b : α} (ha : ok a) (hb : ok b) : PyData.eqv (d a) (d b) = decide (a = b) := by
  by_cases e : a = b
  · subst e; rw [decide_eq_true rfl]; exact SeqAt.eqv_refl _ (cok_lay (T.cok a ha)).1
  · rw [decide_eq_false e]
    cases h : PyData.eqv (d a) (d b) with
    | false => rfl
    | true => exact absurd (T.inj a b (eqv_cok (T.cok a ha) (T.cok b hb) h)) e
theorem Tame.shaped (T : Tame d ok n) {a : α} (ha : ok a) : SeqAt.shaped (d a) = true := cok_shaped (T.cok a ha) (by have := T.le; omega)
theorem Tame.shapedL (T : Tame d ok n) {xs : List α} (h : ∀ a ∈ xs, ok a) : SeqAt.shaped (.list (xs.map d)) = true := cok_list (fun x hx => by
  obtain ⟨a, ha, rfl⟩ := List.mem_map.mp hx
  exact T.cok a (h a ha)) (by have := T.le; omega)
theorem Tame.any (T : Tame d ok n) {xs : List α} {a : α} (h : ∀ a ∈ xs, ok a) (ha : ok a) : ((xs.map d).any fun z => PyData.eqv z (d a)) = decide (a ∈ xs) := by
  rw [List.any_map]
  induction xs with
  | nil => rfl
  | cons x xs ih =>
    rw [List.any_cons, ih fun y hy => h y (List.mem_cons_of_mem _ hy)]
    show (PyData.eqv (d x) (d a) || _) = _
    rw [T.eqv (h x List.mem_cons_self) ha]
    by_cases e : x = a
    · subst e; simp
    · have e' : ¬ a = x := fun z => e z.symm
      simp [e, e']
/-- the first place of a -/
def ix (a : α) : List α → Nat
  | [] => 0
  | x :: xs => if x = a then 0 else ix a xs + 1
theorem ix_at {a : α} : ∀ {xs : List α}, a ∈ xs → xs[ix a xs]? = some a ∧ ∀ m x, m < ix a xs → xs[m]? = some x → x ≠ a
  | [], h => by cases h
  | y :: ys, h => by
    unfold ix
    by_cases e : y = a
    · rw [if_pos e]; subst e; exact ⟨rfl, fun m x hm _ => absurd hm (Nat.not_lt_zero _)⟩
    · rw [if_neg e]
      have h' : a ∈ ys := (List.mem_cons.mp h).resolve_left fun z => e z.symm
      obtain ⟨h1, h2⟩ := ix_at h'
      refine ⟨by simpa using h1, fun m x hm hx => ?_⟩
      cases m with
      | zero => simp at hx; subst hx; exact e
      | succ m => exact h2 m x (by omega) (by simpa using hx)
theorem Tame.index (T : Tame d ok n) {xs : List α} {a : α} (h : ∀ a ∈ xs, ok a) (ha : ok a) (m : a ∈ xs) : (xs.map d)[ix a xs]? = some (d a) ∧ PyData.eqv (d a) (d a) = true ∧ ∀ m z', m < ix a xs → (xs.map d)[m]? = some z' → PyData.eqv z' (d a) = false := by
  obtain ⟨h1, h2⟩ := ix_at m
  refine ⟨by rw [List.getElem?_map, h1]; rfl, by rw [T.eqv ha ha, decide_eq_true rfl], fun j z hj hz => ?_⟩
  obtain ⟨x, hx, rfl⟩ := map_get hz
  rw [T.eqv (h x (List.mem_of_getElem? hx)) ha, decide_eq_false (h2 j x hj hx)]
def addc (a : α) (xs : List α) : List α := if a ∈ xs then xs else xs ++ [a]
theorem addc_mem {a : α} {xs : List α} : a ∈ addc a xs := by
  unfold addc
  by_cases h : a ∈ xs
  · rw [if_pos h]; exact h
  · rw [if_neg h]; simp
theorem addc_len {a : α} {xs : List α} : (addc a xs).length ≤ xs.length + 1 := by
  unfold addc
  by_cases h : a ∈ xs
  · rw [if_pos h]; omega
  · rw [if_neg h]; simp
theorem addc_ext {a : α} {xs : List α} : ∃ ys, addc a xs = xs ++ ys ∧ ∀ y ∈ ys, y = a := by
  unfold addc
  by_cases h : a ∈ xs
  · rw [if_pos h]; exact ⟨[], by simp, fun y hy => by cases hy⟩
  · rw [if_neg h]; exact ⟨[a], rfl, fun y hy => List.mem_singleton.mp hy⟩
theorem addc_ok {a : α} {xs : List α} (h : ∀ x ∈ xs, ok x) (ha : ok a) : ∀ x ∈ addc a xs, ok x := fun x hx => by
  obtain ⟨ys, e, hy⟩ := addc_ext (a := a) (xs := xs)
  rw [e] at hx
  rcases List.mem_append.mp hx with z | z
  · exact h x z
  · rw [hy x z]; exact ha
theorem addc_nodup {a : α} {xs : List α} (h : xs.Nodup) : (addc a xs).Nodup := by
  unfold addc
  by_cases e : a ∈ xs
  · rw [if_pos e]; exact h
  · rw [if_neg e]
    refine List.nodup_append.mpr ⟨h, by simp, fun x hx y hy => ?_⟩
    rw [List.mem_singleton.mp hy]
    exact fun z => e (z ▸ hx)
theorem nodup_at {xs : List α} (h : xs.Nodup) {i j : Nat} {a : α} (hi : xs[i]? = some a) (hj : xs[j]? = some a) : i = j := by
  obtain ⟨li, ei⟩ := List.getElem?_eq_some_iff.mp hi
  obtain ⟨lj, ej⟩ := List.getElem?_eq_some_iff.mp hj
  rcases Nat.lt_trichotomy i j with l | l | l
  · exact absurd (ei.trans ej.symm) ((List.pairwise_iff_getElem.mp h) i j li lj l)
  · exact l
  · exact absurd (ej.trans ei.symm) ((List.pairwise_iff_getElem.mp h) j i lj li l)
end
end DL
/-! (Tz) -/
namespace DL
open PySem PySem.Spec PyProof.Rows L2
section
variable {K : PySem.W.Frag} {δ : De} {G : GH} {Φ : Dt → GH → Prop} {td : TE} {t : TA}
/-- the first place in a list -/
theorem we_index (h : WE K td δ G fun x G1 => ((∃ xs, x = .dat (.list xs)) ∨ ∃ a xs, x = .obj a ∧ G1 a = some (.lst xs)) ∧ WA K t δ G1 fun es G2 => ∃ d ds, es = [.dat d] ∧ LsOf G2 x ds ∧ SeqAt.shaped d = true ∧ SeqAt.shaped (.list ds) = true ∧
      ∃ (j : Nat) (z : PyData), ds[j]? = some z ∧ PyData.eqv z d = true ∧ (∀ m z', m < j → ds[m]? = some z' → PyData.eqv z' d = false) ∧ Φ (.dat (.int (j : Nat))) G2) :
    WE K (tBM K "list" (rIndexD K) td t) δ G Φ := fun P σ H rr s Q q =>
  h P σ H rr s _ fun x dx G1 H1 s1 r1 v1 ⟨h0, h1⟩ => by
    refine ⟨?_, h1 P σ H1 r1 (s1.sr s) _ fun vs es G2 H2 s2 r2 v2 ⟨d, ds, e2, l, sd, sl, j, z, hz, he, hno, k⟩ => ?_⟩
    · rcases h0 with ⟨xs, e⟩ | ⟨a, xs, e, g⟩
      · subst e
        cases v1 with
        | lst n q1 w => exact .inl ⟨rfl, _, .inl q1⟩
      · subst e
        cases v1
        exact (r1.ob _ _ g).tyL (.inl ⟨_, rfl⟩)
    · subst e2
      cases v2 with
      | cons v2 t2 =>
        cases t2
        have vx := s2.vr v1
        obtain ⟨a, ws, e, q1, w⟩ := l.at_ r2 vx
        have dp := l.dp r2 vx
        subst e
        exact ⟨a, _, d, ds, j, z, rfl, rfl, dp, Dq.dp v2, sl, sd, hz, he, hno, q _ _ G2 H2 (s1.trans s2) r2 (.int _) k⟩
end
/-! ### what is sent and told -/
abbrev Opn := Int × Str × Int × Rt
abbrev prD2 (p : Int × Int) : PyData := .tuple [.int p.1, .int p.2]
abbrev opD (o : Opn) : PyData := .tuple [.int o.1, .str o.2.1, .int o.2.2.1, rT o.2.2.2]
abbrev obD (p : Opn × Int) : PyData := .tuple [opD p.1, .int p.2]
inductive By where
  | num (i : Int)
  | prs (l : List (Int × Int))
  | opn (o : Opn)
  | bks (b : Opn × Int) (l : List (Opn × Int))
deriving DecidableEq
abbrev By.d : By → PyData
  | .num i => .int i
  | .prs l => .tuple (l.map prD2)
  | .opn o => opD o
  | .bks b l => .tuple ((b :: l).map obD)
def ticks : List Rt := [(0, 1), (1, 2), (1, 3), (5, 6), (999, 1000), (1, 1)]
def okO (o : Opn) : Prop := PyData.strOk o.2.1 = true ∧ o.2.2.2 ∈ ticks
def By.ok : By → Prop
  | .num _ => True
  | .prs l => l.length ≤ 3
  | .opn o => okO o
  | .bks b l => l.length ≤ 2 ∧ okO b.1 ∧ ∀ p ∈ l, okO p.1
theorem map_inj {α β : Type} {f : α → β} (hf : ∀ x y, f x = f y → x = y) : ∀ {xs ys : List α}, xs.map f = ys.map f → xs = ys
  | [], [], _ => rfl
  | [], _ :: _, h => by cases h
  | _ :: _, [], h => by cases h
  | x :: xs, y :: ys, h => by
    obtain ⟨h1, h2⟩ := List.cons.inj h
    rw [hf x y h1, map_inj hf h2]
theorem prD2_inj (x y : Int × Int) (h : prD2 x = prD2 y) : x = y := by
  simp only [prD2, PyData.tuple.injEq, List.cons.injEq, PyData.int.injEq, and_true] at h
  exact Prod.ext h.1 h.2
theorem opD_inj (x y : Opn) (h : opD x = opD y) : x = y := by
  simp only [opD, rT, PyData.tuple.injEq, List.cons.injEq, PyData.int.injEq, PyData.str.injEq, and_true] at h
  obtain ⟨h1, h2, h3, h4, h5⟩ := h
  exact Prod.ext h1 (Prod.ext h2 (Prod.ext h3 (Prod.ext h4 h5)))
theorem obD_inj (x y : Opn × Int) (h : obD x = obD y) : x = y := by
  obtain ⟨x1, x2⟩ := x
  obtain ⟨y1, y2⟩ := y
  have h' : [opD x1, PyData.int x2] = [opD y1, PyData.int y2] := PyData.tuple.inj h
  obtain ⟨h1, h2⟩ := List.cons.inj h'
  obtain ⟨h3, _⟩ := List.cons.inj h2
  rw [opD_inj _ _ h1, PyData.int.inj h3]
theorem bks_head {b : Opn × Int} {l : List (Opn × Int)} : ∀ y : By, By.d (.bks b l) = y.d → By.bks b l = y
  | .num _, h => by cases h
  | .prs m, h => by
    have h' : (b :: l).map obD = m.map prD2 := PyData.tuple.inj h
    cases m with
    | nil => cases h'
    | cons p m => have h2 := PyData.tuple.inj (List.cons.inj h').1; cases (List.cons.inj h2).1
  | .opn o, h => by have h' := (List.cons.inj (PyData.tuple.inj h)).1; cases h'
  | .bks c m, h => by
    have h' := map_inj obD_inj (PyData.tuple.inj h)
    obtain ⟨h1, h2⟩ := List.cons.inj h'
    rw [h1, h2]
theorem By.d_inj (x y : By) (h : x.d = y.d) : x = y := by
  cases x with
  | num i =>
    cases y with
    | num j => rw [PyData.int.inj h]
    | _ => cases h
  | prs l =>
    cases y with
    | num j => cases h
    | prs m => rw [map_inj prD2_inj (PyData.tuple.inj h)]
    | opn o =>
      have h' : l.map prD2 = [.int o.1, .str o.2.1, .int o.2.2.1, rT o.2.2.2] := PyData.tuple.inj h
      cases l with
      | nil => cases h'
      | cons p l => cases (List.cons.inj h').1
    | bks b m => exact (bks_head _ h.symm).symm
  | opn o =>
    cases y with
    | num j => cases h
    | prs m =>
      have h' : m.map prD2 = [.int o.1, .str o.2.1, .int o.2.2.1, rT o.2.2.2] := (PyData.tuple.inj h).symm
      cases m with
      | nil => cases h'
      | cons p l => cases (List.cons.inj h').1
    | opn p => rw [opD_inj _ _ h]
    | bks b m => exact (bks_head _ h.symm).symm
  | bks b l => exact bks_head y h
theorem cok_op {n : Nat} {o : Opn} (h : okO o) : cok (n + 2) (opD o) = true := by
  refine cok_mk (Nat.le_of_ble_eq_true rfl) ?_
  intro x hx
  simp only [List.mem_cons, List.not_mem_nil, or_false] at hx
  rcases hx with rfl | rfl | rfl | rfl
  · exact cok_int
  · rw [cok_str]; exact h.1
  · exact cok_int
  · refine cok_mk (Nat.le_of_ble_eq_true rfl) ?_
    intro x hx
    simp only [List.mem_cons, List.not_mem_nil, or_false] at hx
    rcases hx with rfl | rfl <;> exact cok_int
theorem cok_ob {n : Nat} {p : Opn × Int} (h : okO p.1) : cok (n + 3) (obD p) = true := by
  refine cok_mk (Nat.le_of_ble_eq_true rfl) ?_
  intro x hx
  simp only [List.mem_cons, List.not_mem_nil, or_false] at hx
  rcases hx with rfl | rfl
  · exact cok_op h
  · exact cok_int
theorem By.cok : ∀ {b : By}, b.ok → cok 4 b.d = true
  | .num _, _ => cok_int
  | .prs l, h => by
    refine cok_mk (by rw [List.length_map]; exact Nat.le_trans h (by decide)) ?_
    intro x hx
    obtain ⟨p, _, rfl⟩ := List.mem_map.mp hx
    refine cok_mk (Nat.le_of_ble_eq_true rfl) ?_
    intro x hx
    simp only [List.mem_cons, List.not_mem_nil, or_false] at hx
    rcases hx with rfl | rfl <;> exact cok_int
  | .opn o, h => cok_op h
  | .bks b l, h => by
    refine cok_mk (by rw [List.length_map, List.length_cons]; have := h.1; omega) ?_
    intro x hx
    obtain ⟨p, hp, rfl⟩ := List.mem_map.mp hx
    rcases List.mem_cons.mp hp with e | hp
    · subst e; exact cok_ob h.2.1
    · exact cok_ob (h.2.2 p hp)
/-- what is numbered -/
inductive Ct where
  | terms (a b : Str)
  | rep (s : Str) (k : Int) (t : Rt)
  | lst (b : By)
deriving DecidableEq
abbrev Ct.d : Ct → PyData
  | .terms a b => .tuple [.str "terms", .str a, .str b]
  | .rep s k t => .tuple [.str "report", .str s, .int k, rT t]
  | .lst b => .tuple [.str "list", b.d]
def Ct.ok : Ct → Prop
  | .terms a b => PyData.strOk a = true ∧ PyData.strOk b = true
  | .rep s _ _ => PyData.strOk s = true
  | .lst b => b.ok
theorem Ct.tame : Tame Ct.d Ct.ok 6 where
  inj a b h := by
    cases a with
    | terms x y =>
      cases b with
      | terms z u =>
        have h1 := (List.cons.inj (PyData.tuple.inj h)).2
        rw [PyData.str.inj (List.cons.inj h1).1, PyData.str.inj (List.cons.inj (List.cons.inj h1).2).1]
      | rep s k t => have h1 := (List.cons.inj (PyData.tuple.inj h)).2; have h2 := (List.cons.inj (List.cons.inj h1).2).1; cases h2
      | lst c => have h1 := (List.cons.inj (PyData.tuple.inj h)).2; cases (List.cons.inj h1).2
    | rep s k t =>
      cases b with
      | terms x y => have h1 := (List.cons.inj (PyData.tuple.inj h)).2; have h2 := (List.cons.inj (List.cons.inj h1).2).1; cases h2
      | rep s' k' t' =>
        have h1 := (List.cons.inj (PyData.tuple.inj h)).2
        obtain ⟨e1, h2⟩ := List.cons.inj h1
        obtain ⟨e2, h3⟩ := List.cons.inj h2
        have h4 := PyData.tuple.inj (List.cons.inj h3).1
        have e3 := PyData.int.inj (List.cons.inj h4).1
        have e4 := PyData.int.inj (List.cons.inj (List.cons.inj h4).2).1
        rw [PyData.str.inj e1, PyData.int.inj e2, show t = t' from Prod.ext e3 e4]
      | lst c => have h1 := (List.cons.inj (PyData.tuple.inj h)).2; cases (List.cons.inj h1).2
    | lst c =>
      cases b with
      | terms x y => have h1 := (List.cons.inj (PyData.tuple.inj h)).2; cases (List.cons.inj h1).2
      | rep s k t => have h1 := (List.cons.inj (PyData.tuple.inj h)).2; cases (List.cons.inj h1).2
      | lst e =>
        have h1 := (List.cons.inj (PyData.tuple.inj h)).2
        rw [By.d_inj _ _ (List.cons.inj h1).1]
  cok a h := by
    cases a with
    | terms x y =>
      refine cok_mk (Nat.le_of_ble_eq_true rfl) ?_
      intro z hz
      simp only [List.mem_cons, List.not_mem_nil, or_false] at hz
      rcases hz with rfl | rfl | rfl
      · rw [cok_str]; decide +kernel
      · rw [cok_str]; exact h.1
      · rw [cok_str]; exact h.2
    | rep s k t =>
      refine cok_mk (Nat.le_of_ble_eq_true rfl) ?_
      intro z hz
      simp only [List.mem_cons, List.not_mem_nil, or_false] at hz
      rcases hz with rfl | rfl | rfl | rfl
      · rw [cok_str]; decide +kernel
      · rw [cok_str]; exact h
      · exact cok_int
      · refine cok_mk (Nat.le_of_ble_eq_true rfl) ?_
        intro x hx
        simp only [List.mem_cons, List.not_mem_nil, or_false] at hx
        rcases hx with rfl | rfl <;> exact cok_int
    | lst b =>
      refine cok_mk (Nat.le_of_ble_eq_true rfl) ?_
      intro z hz
      simp only [List.mem_cons, List.not_mem_nil, or_false] at hz
      rcases hz with rfl | rfl
      · rw [cok_str]; decide +kernel
      · exact cok_le (By.cok h) (by decide)
  le := by decide
/-- kind and body, in round 1 -/
abbrev Ms := Str × By
abbrev msD (m : Ms) : PyData := .tuple [.str m.1, .int 1, m.2.d]
def kinds5 : List Str := ["call", "commit", "list", "open", "book"]
def okM (m : Ms) : Prop := m.1 ∈ kinds5 ∧ m.2.ok
theorem kinds_ok {z : Str} (h : z ∈ kinds5) : PyData.strOk z = true := by
  have key : ∀ z ∈ kinds5, PyData.strOk z = true := by decide +kernel
  exact key z h
theorem ms_tame : Tame msD okM 5 where
  inj a b h := by
    have h1 := PyData.tuple.inj h
    have e1 := PyData.str.inj (List.cons.inj h1).1
    have e2 := (List.cons.inj (List.cons.inj (List.cons.inj h1).2).2).1
    exact Prod.ext e1 (By.d_inj _ _ e2)
  cok a h := by
    refine cok_mk (Nat.le_of_ble_eq_true rfl) ?_
    intro z hz
    simp only [List.mem_cons, List.not_mem_nil, or_false] at hz
    rcases hz with rfl | rfl | rfl
    · rw [cok_str]; exact kinds_ok h.1
    · exact cok_int
    · exact By.cok h.2
  le := by decide
/-- who signed what -/
abbrev Sg := Int × Ms
abbrev sgD (s : Sg) : PyData := .tuple [.int s.1, msD s.2]
def okS (s : Sg) : Prop := okM s.2
theorem sg_tame : Tame sgD okS 6 where
  inj a b h := by
    have h1 := PyData.tuple.inj h
    have e1 := PyData.int.inj (List.cons.inj h1).1
    have e2 := (List.cons.inj (List.cons.inj h1).2).1
    exact Prod.ext e1 (ms_tame.inj _ _ e2)
  cok a h := by
    refine cok_mk (Nat.le_of_ble_eq_true rfl) ?_
    intro z hz
    simp only [List.mem_cons, List.not_mem_nil, or_false] at hz
    rcases hz with rfl | rfl
    · exact cok_int
    · exact ms_tame.cok _ h
  le := by decide
/-- a letter of round 1: kind, sender, body, signature -/
abbrev Lt := Str × Int × By × Int
abbrev ltD (l : Lt) : PyData := .tuple [.str l.1, .int 1, .int l.2.1, l.2.2.1.d, .int l.2.2.2]
def okL (l : Lt) : Prop := l.1 ∈ kinds5 ∧ l.2.2.1.ok
theorem lt_tame : Tame ltD okL 5 where
  inj a b h := by
    have h1 := PyData.tuple.inj h
    have e1 := PyData.str.inj (List.cons.inj h1).1
    have h2 := (List.cons.inj (List.cons.inj h1).2).2
    have e2 := PyData.int.inj (List.cons.inj h2).1
    have h3 := (List.cons.inj h2).2
    have e3 := By.d_inj _ _ (List.cons.inj h3).1
    have e4 := PyData.int.inj (List.cons.inj (List.cons.inj h3).2).1
    exact Prod.ext e1 (Prod.ext e2 (Prod.ext e3 e4))
  cok a h := by
    refine cok_mk (Nat.le_of_ble_eq_true rfl) ?_
    intro z hz
    simp only [List.mem_cons, List.not_mem_nil, or_false] at hz
    rcases hz with rfl | rfl | rfl | rfl | rfl
    · rw [cok_str]; exact kinds_ok h.1
    · exact cok_int
    · exact cok_int
    · exact By.cok h.2
    · exact cok_int
  le := by decide
end DL
/-! (Na) -/
namespace DL
open PySem PySem.Spec PyProof.Rows L2

local macro_rules | `(tactic| fail "l") => `(tactic| first | exact Nat.le_of_ble_eq_true rfl | omega | (simp only [List.length_map, List.length_append, List.length_cons, List.length_nil]; omega))
local macro_rules | `(tactic| fail "aS") => `(tactic| with_reducible first | refine ws_seq ?_ | refine ws_if ?_ | refine ws_ret ?_ | refine ws_asg ?_ | refine ws_drop ?_ | refine ws_next ?_ | refine ws_retN ?_ | refine ws_fldF ?_ | refine ws_fldN ?_ | refine ws_dput ?_ | apply ws_asgG)
local macro_rules | `(tactic| fail "aO") => `(tactic| with_reducible first | refine we_ix ?_ | refine we_II ?_ | refine we_IB ?_ | refine we_eq ?_ | refine we_ne ?_ | refine we_add ?_ | refine we_addG ?_ | refine we_IC ?_ | refine we_eqD ?_ | refine we_neD ?_ | refine we_inD ?_ | refine we_notInD ?_ | refine we_in ?_ | refine we_inSg ?_)
local macro_rules | `(tactic| fail "aC") => `(tactic| with_reducible first | refine we_len ?_ | refine we_lenD ?_ | refine we_all ?_ | refine we_any ?_ | refine we_int1 ?_ | refine we_strI ?_ | refine we_listOf ?_ | refine we_tupOf ?_ | refine we_sum ?_ | refine we_abs ?_ | refine we_min2 ?_ | refine we_gcd ?_)
local macro_rules | `(tactic| fail "aE") => `(tactic| first
  | ((with_reducible apply we_var); rfl)
  | with_reducible refine we_int ?_ | with_reducible refine we_str ?_ | with_reducible refine we_non ?_ | with_reducible refine we_bl ?_
  | ((with_reducible show WE _ (tOp _ _ _) _ _ _); fail "aO")
  | ((with_reducible show WE _ (tCB _ _) _ _ _); fail "aC")
  | with_reducible refine we_call ?_ | with_reducible refine we_fld ?_ | with_reducible refine we_meth' ?_ | with_reducible refine we_tup ?_ | with_reducible refine we_isi (by decide) ?_ | with_reducible refine we_lst ?_ | with_reducible refine we_lstG ?_
  | with_reducible refine we_and ?_ | with_reducible refine we_or ?_ | with_reducible refine we_not ?_ | with_reducible refine we_chainI ?_ | with_reducible refine we_isN ?_ | with_reducible refine we_notN ?_ | with_reducible refine we_append ?_ | with_reducible refine we_extend ?_ | with_reducible refine we_index ?_
  | with_reducible refine we_slL ?_ | with_reducible refine we_slT ?_ | with_reducible refine we_dget ?_ | with_reducible refine we_din ?_ | with_reducible refine we_dnotin ?_ | with_reducible refine we_dictG ?_ | with_reducible refine we_prop ?_ | with_reducible refine we_join ?_ | with_reducible refine we_neg ?_ | with_reducible refine we_lenSet ?_)
local macro_rules | `(tactic| fail "aT") => `(tactic| with_reducible first | refine wt_val ?_ | refine wt_tst ?_ | refine wt_and ?_ | refine wt_or ?_ | refine wt_not ?_ | refine wt_yes ?_)
local macro_rules | `(tactic| fail "aD") => `(tactic| with_reducible first | refine dEq_ii ?_ | refine dEq_ss ?_ | refine dEq_bb ?_ | refine dEq_nn ?_ | refine dEq_ni ?_ | refine dEq_in ?_ | refine dAdd_ii ?_ | refine dInt_i ?_ | refine dInt_b ?_ | refine dLen_l ?_ | refine dLen_t ?_)
local macro_rules | `(tactic| fail "a") => `(tactic| first
  | ((with_reducible show WE _ _ _ _ _); fail "aE")
  | ((with_reducible show WA _ _ _ _ _); (with_reducible first | refine wa_cons ?_ | refine wa_nil ?_))
  | ((with_reducible show WS _ _ _ _ _); fail "aS")
  | ((with_reducible show WT _ _ _ _ _); fail "aT")
  | ((with_reducible show WG _ _ _ _ _ _ _); first | with_reducible refine wg_name ?_ | ((with_reducible refine wg_tup ?_ ?_); rfl))
  | ((with_reducible show WGs _ _ _ _ _ _ _); (with_reducible first | refine wgs_cons ?_ | refine wgs_nil ?_))
  | ((with_reducible show WO _ _ _ _ _); (with_reducible first | refine wo_none ?_ | refine wo_some ?_))
  | ((with_reducible show dIx _ _ _ _); first | ((with_reducible apply dIx_t); rfl) | ((with_reducible apply dIx_l); rfl))
  | ((with_reducible show dAdd _ _ _ _); first | with_reducible refine dAdd_ii ?_ | ((with_reducible refine dAdd_ll ?_ ?_); fail "l") | ((with_reducible apply dAdd_ol); (fail "h"); (fail "l")) | ((with_reducible refine dAdd_tt ?_ ?_); fail "l") | ((with_reducible refine dAdd_ss ?_ ?_); fail "l"))
  | fail "aD")
local macro_rules | `(tactic| fail "e") => `(tactic| ((fail_if_success (with_reducible show ∃ _ : NF, _)); (fail_if_success (with_reducible show ∃ _ : PF, _)); (fail_if_success (with_reducible show ∃ _ : DF, _)); (first | with_reducible refine ⟨_, _, rfl, rfl, ?_⟩ | with_reducible refine ⟨_, rfl, ?_⟩ | with_reducible refine ⟨rfl, ?_⟩ | with_reducible refine ⟨_, _, rfl, ?_⟩ | with_reducible refine ⟨_, _, _, rfl, ?_⟩ | with_reducible refine ⟨_, _, _, _, rfl, ?_⟩ | ((refine ⟨?l, ?_⟩); (case l => (with_reducible show _ < 1000000); fail "l")) | ((refine ⟨?l, ?_⟩); (case l => (with_reducible show _ ≤ 1000000); fail "l")))))
local macro_rules | `(tactic| fail "h") => `(tactic| first | assumption | exact updG_same | (rw [updG_ne (by assumption)]; assumption) | (rw [updG_ne (by assumption), updG_ne (by assumption)]; assumption) | (rw [updG_ne (by assumption), updG_ne (by assumption), updG_ne (by assumption)]; assumption))
local macro_rules | `(tactic| fail "z") => `(tactic| first | rfl | exact ⟨rfl, rfl⟩ | exact ⟨_, rfl, rfl⟩ | exact ⟨_, _, rfl, rfl⟩ | exact ⟨_, _, _, rfl, rfl⟩ | assumption)
local macro_rules | `(tactic| fail "f") => `(tactic| first
  | refine ⟨_, _, rfl, .inr (.inl rfl), ?_⟩ | refine ⟨_, _, rfl, .inl rfl, ?_⟩
  | (refine ⟨_, ?ds, rfl, .inr (.inr ⟨_, rfl, ?h1⟩), ?_⟩; (case h1 => fail "h"))
  | (refine ⟨_, ?ds, rfl, .inr ⟨_, rfl, ?h1⟩, ?_⟩; (case h1 => fail "h"))
  | ((with_reducible refine ⟨_, ?ds, ?d, rfl, ?h1, ?h2, ?_⟩); (case h1 => fail "h"); (case h2 => rfl))
  | ((with_reducible refine ⟨_, ?ds, rfl, ?h1, ?_⟩); (case h1 => fail "h"))
  | ((with_reducible refine ⟨_, ?ns, ?ds, rfl, ?h1, ?h2, ?_⟩); (case h1 => fail "h"); (case h2 => decide))
  | ((with_reducible refine ⟨_, rfl, ⟨?ys, ?h1⟩, ?_⟩); (case h1 => fail "h"))
  | ((with_reducible refine ⟨_, ?xs, rfl, ?h1, ?h2, ?_⟩); (case h1 => fail "h"); (case h2 => omega)))
local macro_rules | `(tactic| fail "y") => `(tactic| first
  | ((with_reducible refine ⟨fun _ => ?_, fun hbb => ?nope⟩); (case nope => first | exact Bool.noConfusion (show true = false from hbb) | exact Bool.noConfusion (show false = true from hbb) | exact absurd (of_decide_eq_true hbb) (by omega) | exact absurd (of_decide_eq_false hbb) (by omega) | (simp at hbb; done) | (simp at hbb; omega)))
  | ((with_reducible refine ⟨fun hbb => ?nope, fun _ => ?_⟩); (case nope => first | exact Bool.noConfusion (show true = false from hbb) | exact Bool.noConfusion (show false = true from hbb) | exact absurd (of_decide_eq_true hbb) (by omega) | exact absurd (of_decide_eq_false hbb) (by omega) | (simp at hbb; done) | (simp at hbb; omega))))
local macro_rules | `(tactic| fail "w") => `(tactic| repeat fail "a")
local macro_rules | `(tactic| fail "x") => `(tactic| repeat (first | fail "a" | fail "f" | fail "e" | fail "y"))

/-! ### the notary -/
abbrev F_is_content_within (n : Nat) : FT := F2 fun x y G Φ => ∃ d, x = .dat d ∧ y = .dat (.int (n : Nat)) ∧ cok n d = true ∧ Φ (.dat (.bool true)) G
abbrev F_is_content : FT := F1 fun x G Φ => ∃ d, x = .dat d ∧ cok 6 d = true ∧ Φ (.dat (.bool true)) G
abbrev F_check_content : FT := F1 fun x G Φ => ∃ d, x = .dat d ∧ cok 6 d = true ∧ Φ (.dat .none) G
structure NotAt (K : PySem.W.Frag) (ks : List Str) (n c s : Addr) (cs : List Ct) (sg : List Sg) (G : GH) : Prop where
  nt : G n = some (.ins (He.ga K "Notary") ns_Notary [.dat (.list (ks.map .str)), .obj c, .obj s])
  hc : G c = some (.lst (cs.map Ct.d))
  hs : G s = some (.lst (sg.map sgD))
  okc : ∀ x ∈ cs, x.ok
  oks : ∀ x ∈ sg, okS x
def knownD (ct : Ct) (cs : List Ct) : PyData := if ct ∈ cs then .int (ix ct cs : Nat) else .none
abbrev F_Notary_members (K : PySem.W.Frag) : FT := F1 fun x G Φ => ∃ ks n c s cs sg, x = .obj n ∧ NotAt K ks n c s cs sg G ∧ Φ (.dat (.int (ks.length : Nat))) G
abbrev F_Notary_known (K : PySem.W.Frag) : FT := F2 fun x y G Φ => ∃ ks n c s cs sg ct, x = .obj n ∧ NotAt K ks n c s cs sg G ∧ y = .dat (Ct.d ct) ∧ ct.ok ∧ Φ (.dat (knownD ct cs)) G
abbrev F_Notary_number (K : PySem.W.Frag) : FT := F2 fun x y G Φ => ∃ ks n c s cs sg ct, x = .obj n ∧ NotAt K ks n c s cs sg G ∧ y = .dat (Ct.d ct) ∧ ct.ok ∧ cs.length < 900000 ∧ Φ (.dat (.int (ix ct (addc ct cs) : Nat))) (updG G c (.lst ((addc ct cs).map Ct.d)))
abbrev F_Notary_is_key (K : PySem.W.Frag) : FT := F3 fun x y z G Φ => ∃ ks n c s cs sg, ∃ (i : Nat) (k : Str), x = .obj n ∧ NotAt K ks n c s cs sg G ∧ y = .dat (.int (i : Nat)) ∧ z = .dat (.str k) ∧ ks[i]? = some k ∧ Φ (.dat (.bool true)) G

theorem sc_is_content_within : FnScope ["value", "nesting", "part"] ["value", "nesting"] (defScope (top 61)) := ⟨rfl, rfl, rfl, by decide +kernel, rfl, by decide +kernel, by decide +kernel⟩
theorem n_is_content_within {P : Program} {w : World} {K : PySem.W.Frag} {mg : Str → Option Value} {base : Heap} {fd : FuncData} {dvs : List V} {kws : List (Str × V)} {n kr : Nat} {FR : FT} (e : Ev P w K mg base) (O : OkD P w K mg base kr (He.ga K "is_content_within") ["value", "nesting"] [] FR) (hF : ∀ m, n = m + 1 → FR = F_is_content_within m) (FD : FunD K "is_content_within" "is_content_within" (defArgs (top 61)) (defBody (top 61)) (defScope (top 61)) dvs kws (He.ga K "is_content_within") fd) : FnOk P w K mg base CX0 (kr + 1 + 1) (He.ga K "is_content_within") fd ["value", "nesting"] (spD K (F_is_content_within n)) := by
  have S := sc_is_content_within
  refine okD FD S (fun _ _ _ h => len2 h) fun cdv A outer s H E hr => ⟨_, (pss_cons (ps_if (PW.pt (pw_or (pt_val (k_cl K (o_is_integer e) (hr.mono (by omega)) e.g_is_integer (pa_cons (pv 0) pa_nil))) (pw_or1 (pt_val (k_isi K (T := "str") rfl e.x_isinstance rfl e.x_str (by decide +kernel) (pv 0)))))) (pss_one (ps_ret pe_bl)) pss_nil)
      (pss_cons (ps_if (PW.pt (pw_or (pt_not (pt_val (k_isi K (T := "tuple") rfl e.x_isinstance rfl e.x_tuple (by decide +kernel) (pv 0)))) (pw_or1 (pt_cmpR op_eq (pv 1) pe_int (nomark _))))) (pss_one (ps_ret pe_bl)) pss_nil)
      (pss_one (ps_ret (pe_callB (k_all K rfl) rfl e.x_all (by decide +kernel) (pa_cons (pe_lc (own := [("part", 2)]) rfl S.nd (k_itup K (pv 0)) (blkOk_by (by rfl)) (fun _ _ _ _ _ => (pg_name (i := 2) S.nd rfl (by first | exact Or.inl rfl | exact Or.inr rfl))) (fun _ _ _ _ _ => pts_nil) (fun _ _ _ _ _ => (k_cl K O (hr.mono (by omega)) e.g_is_content_within (pa_cons (pv 2) (pa_cons (pe_op op_sub (pv 1) pe_int) pa_nil))))) pa_nil)))))), ?_⟩
  intro ds G Φ h
  try dsimp only [cxK, blkK]
  obtain ⟨x, y, rfl, d, rfl, rfl, hd, k⟩ := h
  cases d with
  | int i =>
    fail "x"
    exact k
  | str z =>
    fail "x"
    exact k
  | tuple xs =>
    cases n with
    | zero => cases hd
    | succ n =>
      have e := hF n rfl
      subst e
      obtain ⟨hd0, hd⟩ := cok_of hd
      have e1 : (((n + 1 : Nat) : Int)) - 1 = (n : Nat) := by omega
      fail "x"
      refine we_mapL (wi_tup ?_)
      fail "x"
      refine ⟨[2], PyData, xs, id, fun _ => .bool true, by simp, by decide, ?_, fun a ha => ?_, ?_⟩
      · omega
      · fail "x"
        rw [e1]
        exact ⟨rfl, hd a ha, rfl, rfl⟩
      fail "x"
      refine ⟨_, xs.map fun _ => true, rfl, .inl (by rw [bools_eq]), ?_⟩
      rw [all_true]
      exact k
  | none => cases n <;> cases hd
  | bool _ => cases n <;> cases hd
  | list _ => cases n <;> cases hd
  | dict _ => cases n <;> cases hd
theorem r_is_content_within {P : Program} {w : World} {K : PySem.W.Frag} {mg : Str → Option Value} {base : Heap} (e : Ev P w K mg base) : ∀ n : Nat, OkD P w K mg base ((n + 1) * (1 + 1)) (He.ga K "is_content_within") ["value", "nesting"] [] (F_is_content_within n)
  | 0 => by
    obtain ⟨fd, FD⟩ := e.d_is_content_within
    have bn := FD.bindsN (ps := ["value", "nesting"]) fun _ _ _ _ _ _ us hl => match us, hl with | [_, _], _ => rfl
    have O : OkD P w K mg base 0 (He.ga K "is_content_within") ["value", "nesting"] [] (fun _ _ _ => False) := ⟨fd, [], FD.kp, bn, .nil, ⟨fun _ _ _ _ ⟨_, _, _, _, _, _, h, _⟩ => h.elim, fun _ _ _ _ _ _ _ _ _ _ _ _ _ ⟨_, _, _, _, _, _, h, _⟩ => h.elim⟩⟩
    have F := n_is_content_within (n := 0) e O (fun m h => by omega) FD
    exact (okN FD F fun _ _ _ _ _ _ us hl => match us, hl with | [_, _], _ => rfl).mono (by omega)
  | n + 1 => by
    obtain ⟨fd, FD⟩ := e.d_is_content_within
    have F := n_is_content_within (n := n + 1) e (r_is_content_within e n) (fun m h => congrArg F_is_content_within (Nat.succ.inj h)) FD
    exact (okN FD F fun _ _ _ _ _ _ us hl => match us, hl with | [_, _], _ => rfl).mono (by omega)
theorem o_is_content_within {P : Program} {w : World} {K : PySem.W.Frag} {mg : Str → Option Value} {base : Heap} (e : Ev P w K mg base) : OkD P w K mg base 14 (He.ga K "is_content_within") ["value", "nesting"] [] (F_is_content_within 6) := r_is_content_within e 6
theorem sc_is_content : FnScope ["value"] ["value"] (defScope (top 62)) := ⟨rfl, rfl, rfl, by decide +kernel, rfl, by decide +kernel, by decide +kernel⟩
theorem n_is_content {P : Program} {w : World} {K : PySem.W.Frag} {mg : Str → Option Value} {base : Heap} {fd : FuncData} {dvs : List V} {kws : List (Str × V)} (e : Ev P w K mg base) (FD : FunD K "is_content" "is_content" (defArgs (top 62)) (defBody (top 62)) (defScope (top 62)) dvs kws (He.ga K "is_content") fd) : FnOk P w K mg base CX0 15 (He.ga K "is_content") fd ["value"] (spD K F_is_content) := by
  have S := sc_is_content
  refine okD FD S (fun _ _ _ h => len1 h) fun cdv A outer s H E hr => ⟨_, (pss_one (ps_ret (k_cl K (o_is_content_within e) (hr.mono (by decide)) e.g_is_content_within (pa_cons (pv 0) (pa_cons (pe_gI e.i_MOST_NESTING) pa_nil))))), ?_⟩
  intro ds G Φ h
  try dsimp only [cxK, blkK]
  obtain ⟨x, rfl, d, rfl, hd, k⟩ := h
  fail "x"
  exact ⟨hd, k⟩
theorem o_is_content {P : Program} {w : World} {K : PySem.W.Frag} {mg : Str → Option Value} {base : Heap} (e : Ev P w K mg base) : OkD P w K mg base 15 (He.ga K "is_content") ["value"] [] F_is_content := by
  obtain ⟨fd, FD⟩ := e.d_is_content
  exact okN FD (n_is_content e FD) fun _ _ _ _ _ _ us hl => match us, hl with | [_], _ => rfl
theorem sc_check_content : FnScope ["value"] ["value"] (defScope (top 63)) := ⟨rfl, rfl, rfl, by decide +kernel, rfl, by decide +kernel, by decide +kernel⟩
theorem n_check_content {P : Program} {w : World} {K : PySem.W.Frag} {mg : Str → Option Value} {base : Heap} {fd : FuncData} {dvs : List V} {kws : List (Str × V)} (e : Ev P w K mg base) (FD : FunD K "check_content" "check_content" (defArgs (top 63)) (defBody (top 63)) (defScope (top 63)) dvs kws (He.ga K "check_content") fd) : FnOk P w K mg base CX0 16 (He.ga K "check_content") fd ["value"] (spD K F_check_content) := by
  have S := sc_check_content
  refine okD FD S (fun _ _ _ h => len1 h) fun cdv A outer s H E hr => ⟨_, (pss_one (ps_if (pt_not (pt_val (k_cl K (o_is_content e) (hr.mono (by decide)) e.g_is_content (pa_cons (pv 0) pa_nil)))) pss_never pss_nil)), ?_⟩
  intro ds G Φ h
  try dsimp only [cxK, blkK]
  obtain ⟨x, rfl, d, rfl, hd, k⟩ := h
  fail "x"
  refine ⟨hd, ?_⟩
  fail "x"
  exact k
theorem o_check_content {P : Program} {w : World} {K : PySem.W.Frag} {mg : Str → Option Value} {base : Heap} (e : Ev P w K mg base) : OkD P w K mg base 16 (He.ga K "check_content") ["value"] [] F_check_content := by
  obtain ⟨fd, FD⟩ := e.d_check_content
  exact okN FD (n_check_content e FD) fun _ _ _ _ _ _ us hl => match us, hl with | [_], _ => rfl
theorem sc_Notary_members : FnScope ["self"] ["self"] (defScope (inClass (top 64) 1)) := ⟨rfl, rfl, rfl, by decide +kernel, rfl, by decide +kernel, by decide +kernel⟩
theorem n_Notary_members {P : Program} {w : World} {K : PySem.W.Frag} {mg : Str → Option Value} {base : Heap} {fd : FuncData} {dvs : List V} {kws : List (Str × V)} (e : Ev P w K mg base) (FD : FunD K "members" "Notary.members" (defArgs (inClass (top 64) 1)) (defBody (inClass (top 64) 1)) (defScope (inClass (top 64) 1)) dvs kws (geA K "Notary" "members") fd) : FnOk P w K mg base CX0 1 (geA K "Notary" "members") fd ["self"] (spD K (F_Notary_members K)) := by
  have S := sc_Notary_members
  refine okD FD S (fun _ _ _ h => len1 h) fun cdv A outer s H E hr => ⟨_, (pss_one (ps_ret (pe_callB (k_len K) rfl e.x_len (by decide +kernel) (pa_cons (k_fld K e.f_Notary_known_keys (pv 0)) pa_nil)))), ?_⟩
  intro ds G Φ h
  try dsimp only [cxK, blkK]
  obtain ⟨x, rfl, ks, n, c, s, cs, sg, rfl, ⟨h1, h2, h3, h4, h5⟩, k⟩ := h
  fail "x"
  rw [List.length_map]
  exact k
theorem o_Notary_members {P : Program} {w : World} {K : PySem.W.Frag} {mg : Str → Option Value} {base : Heap} (e : Ev P w K mg base) : OkD P w K mg base 1 (geA K "Notary" "members") ["self"] [] (F_Notary_members K) := by
  obtain ⟨fd, FD⟩ := e.d_Notary_members
  exact okN FD (n_Notary_members e FD) fun _ _ _ _ _ _ us hl => match us, hl with | [_], _ => rfl
theorem sc_Notary_known : FnScope ["self", "content"] ["self", "content"] (defScope (inClass (top 64) 2)) := ⟨rfl, rfl, rfl, by decide +kernel, rfl, by decide +kernel, by decide +kernel⟩
theorem n_Notary_known {P : Program} {w : World} {K : PySem.W.Frag} {mg : Str → Option Value} {base : Heap} {fd : FuncData} {dvs : List V} {kws : List (Str × V)} (e : Ev P w K mg base) (FD : FunD K "known" "Notary.known" (defArgs (inClass (top 64) 2)) (defBody (inClass (top 64) 2)) (defScope (inClass (top 64) 2)) dvs kws (He.ma K (He.ga K "Notary") "known") fd) : FnOk P w K mg base CX0 17 (He.ma K (He.ga K "Notary") "known") fd ["self", "content"] (spD K (F_Notary_known K)) := by
  have S := sc_Notary_known
  refine okD FD S (fun _ _ _ h => len2 h) fun cdv A outer s H E hr => ⟨_, (pss_cons (ps_expr (k_cl K (o_check_content e) (hr.mono (by decide)) e.g_check_content (pa_cons (pv 1) pa_nil)))
      (pss_cons (ps_if (pt_cmpR (k_inD K hr) (pv 1) (k_fld K e.f_Notary_contents (pv 0)) (by with_unfolding_all rfl)) (pss_one (ps_ret (k_bm K PySem.F.plainAttrs_list PySem.F.slot_list_index PySem.F.type_list_index (k_index K hr) (k_fld K e.f_Notary_contents (pv 0)) (pa_cons (pv 1) pa_nil)))) pss_nil)
      (pss_one (ps_ret pe_non)))), ?_⟩
  intro ds G Φ h
  try dsimp only [cxK, blkK]
  obtain ⟨x, y, rfl, ks, n, c, s, cs, sg, ct, rfl, ⟨h1, h2, h3, h4, h5⟩, rfl, ho, k⟩ := h
  unfold knownD at k
  fail "x"
  refine ⟨Ct.tame.cok _ ho, ?_⟩
  fail "x"
  refine ⟨Ct.tame.shaped ho, Ct.tame.shapedL h4, ?_⟩
  rw [Ct.tame.any h4 ho]
  fail "x"
  refine ⟨fun hb => ?_, fun hb => ?_⟩
  · have hm := of_decide_eq_true hb
    rw [if_pos hm] at k
    obtain ⟨i1, i2, i3⟩ := Ct.tame.index h4 ho hm
    refine ws_ret (we_index ?_)
    fail "x"
    refine ⟨.inr ⟨_, _, rfl, h2⟩, ?_⟩
    fail "x"
    exact ⟨Ct.tame.shaped ho, Ct.tame.shapedL h4, _, _, i1, i2, i3, k⟩
  · rw [if_neg (of_decide_eq_false hb)] at k
    fail "x"
    exact k
theorem o_Notary_known {P : Program} {w : World} {K : PySem.W.Frag} {mg : Str → Option Value} {base : Heap} (e : Ev P w K mg base) : OkD P w K mg base 17 (He.ma K (He.ga K "Notary") "known") ["self", "content"] [] (F_Notary_known K) := by
  obtain ⟨fd, FD⟩ := e.d_Notary_known
  exact okN FD (n_Notary_known e FD) fun _ _ _ _ _ _ us hl => match us, hl with | [_, _], _ => rfl
theorem sc_Notary_number : FnScope ["self", "content"] ["self", "content"] (defScope (inClass (top 64) 3)) := ⟨rfl, rfl, rfl, by decide +kernel, rfl, by decide +kernel, by decide +kernel⟩
theorem n_Notary_number {P : Program} {w : World} {K : PySem.W.Frag} {mg : Str → Option Value} {base : Heap} {fd : FuncData} {dvs : List V} {kws : List (Str × V)} (e : Ev P w K mg base) (FD : FunD K "number" "Notary.number" (defArgs (inClass (top 64) 3)) (defBody (inClass (top 64) 3)) (defScope (inClass (top 64) 3)) dvs kws (He.ma K (He.ga K "Notary") "number") fd) : FnOk P w K mg base CX0 17 (He.ma K (He.ga K "Notary") "number") fd ["self", "content"] (spD K (F_Notary_number K)) := by
  have S := sc_Notary_number
  refine okD FD S (fun _ _ _ h => len2 h) fun cdv A outer s H E hr => ⟨_, (pss_cons (ps_expr (k_cl K (o_check_content e) (hr.mono (by decide)) e.g_check_content (pa_cons (pv 1) pa_nil)))
      (pss_cons (ps_if (pt_cmpR (k_notinD K hr) (pv 1) (k_fld K e.f_Notary_contents (pv 0)) (by with_unfolding_all rfl)) (pss_one (ps_expr (k_bm K PySem.F.plainAttrs_list PySem.F.slot_list_append PySem.F.type_list_append mt_append (k_fld K e.f_Notary_contents (pv 0)) (pa_cons (pv 1) pa_nil)))) pss_nil)
      (pss_one (ps_ret (k_bm K PySem.F.plainAttrs_list PySem.F.slot_list_index PySem.F.type_list_index (k_index K hr) (k_fld K e.f_Notary_contents (pv 0)) (pa_cons (pv 1) pa_nil)))))), ?_⟩
  intro ds G Φ h
  try dsimp only [cxK, blkK]
  obtain ⟨x, y, rfl, ks, n, c, s, cs, sg, ct, rfl, ⟨h1, h2, h3, h4, h5⟩, rfl, ho, hl, k⟩ := h
  have hnc : n ≠ c := neG h1 h2 (by intro z; cases z)
  fail "x"
  refine ⟨Ct.tame.cok _ ho, ?_⟩
  fail "x"
  refine ⟨Ct.tame.shaped ho, Ct.tame.shapedL h4, ?_⟩
  rw [Ct.tame.any h4 ho]
  have h4' : ∀ x ∈ addc ct cs, x.ok := addc_ok h4 ho
  obtain ⟨i1, i2, i3⟩ := Ct.tame.index h4' ho addc_mem
  unfold addc at k h4' i1 i3
  fail "x"
  refine ⟨fun hb => ?_, fun hb => ?_⟩
  · have hm : ¬ ct ∈ cs := by simpa using hb
    rw [if_neg hm] at k h4' i1 i3
    fail "x"
    refine ⟨.inr ⟨_, _, rfl, updG_same⟩, ?_⟩
    fail "x"
    have hs := Ct.tame.shapedL h4'
    rw [List.map_append] at hs k i1 i3
    exact ⟨Ct.tame.shaped ho, hs, _, _, i1, i2, i3, k⟩
  · have hm : ct ∈ cs := by simpa using hb
    rw [if_pos hm] at k h4' i1 i3
    rw [updG_self h2] at k
    fail "x"
    refine ⟨.inr ⟨_, _, rfl, h2⟩, ?_⟩
    fail "x"
    exact ⟨Ct.tame.shaped ho, Ct.tame.shapedL h4, _, _, i1, i2, i3, k⟩
theorem o_Notary_number {P : Program} {w : World} {K : PySem.W.Frag} {mg : Str → Option Value} {base : Heap} (e : Ev P w K mg base) : OkD P w K mg base 17 (He.ma K (He.ga K "Notary") "number") ["self", "content"] [] (F_Notary_number K) := by
  obtain ⟨fd, FD⟩ := e.d_Notary_number
  exact okN FD (n_Notary_number e FD) fun _ _ _ _ _ _ us hl => match us, hl with | [_, _], _ => rfl
theorem sc_Notary_is_key : FnScope ["self", "member", "key"] ["self", "member", "key"] (defScope (inClass (top 64) 4)) := ⟨rfl, rfl, rfl, by decide +kernel, rfl, by decide +kernel, by decide +kernel⟩
theorem n_Notary_is_key {P : Program} {w : World} {K : PySem.W.Frag} {mg : Str → Option Value} {base : Heap} {fd : FuncData} {dvs : List V} {kws : List (Str × V)} (e : Ev P w K mg base) (FD : FunD K "is_key" "Notary.is_key" (defArgs (inClass (top 64) 4)) (defBody (inClass (top 64) 4)) (defScope (inClass (top 64) 4)) dvs kws (He.ma K (He.ga K "Notary") "is_key") fd) : FnOk P w K mg base CX0 2 (He.ma K (He.ga K "Notary") "is_key") fd ["self", "member", "key"] (spD K (F_Notary_is_key K)) := by
  have S := sc_Notary_is_key
  refine okD FD S (fun _ _ _ h => len3 h) fun cdv A outer s H E hr => ⟨_, (pss_one (ps_ret (pe_and (k_cl K (o_is_integer e) (hr.mono (by decide)) e.g_is_integer (pa_cons (pv 1) pa_nil)) (pe_and (pe_chain op_le op_lt pe_int (pv 1) (pe_callB (k_len K) rfl e.x_len (by decide +kernel) (pa_cons (k_fld K e.f_Notary_known_keys (pv 0)) pa_nil))) (pe_one (pe_cmpR op_eq (pe_ix (k_ix K) (k_fld K e.f_Notary_known_keys (pv 0)) (pv 1) (fun _ _ => rfl)) (pv 2) (nomark _))))))), ?_⟩
  intro ds G Φ h
  try dsimp only [cxK, blkK]
  obtain ⟨x, y, z, rfl, ks, n, c, s, cs, sg, i, kk, rfl, ⟨h1, h2, h3, h4, h5⟩, rfl, rfl, hk, k⟩ := h
  have hi : i < ks.length := (List.getElem?_eq_some_iff.mp hk).1
  have hl : ((ks.map PyData.str).length : Int) = (ks.length : Int) := by rw [List.length_map]
  fail "x"
  refine dIx_l (atI_nat (by rw [List.getElem?_map, hk]; rfl)) ?_
  fail "x"
  rw [decide_eq_true rfl]
  exact k
theorem o_Notary_is_key {P : Program} {w : World} {K : PySem.W.Frag} {mg : Str → Option Value} {base : Heap} (e : Ev P w K mg base) : OkD P w K mg base 2 (He.ma K (He.ga K "Notary") "is_key") ["self", "member", "key"] [] (F_Notary_is_key K) := by
  obtain ⟨fd, FD⟩ := e.d_Notary_is_key
  exact okN FD (n_Notary_is_key e FD) fun _ _ _ _ _ _ us hl => match us, hl with | [_, _, _], _ => rfl
end DL
/-! (Dl15) -/
namespace DL
open PySem PySem.Spec PyProof.Rows L2
section
variable {K : PySem.W.Frag} {δ : De} {G : GH} {te : TE} {E : DE} {i1 i2 i3 i4 i5 : Nat}
theorem ws_asgT3 (h : WE K te δ G fun x G1 => ∃ x1 x2 x3, x = .dat (.tuple [x1, x2, x3]) ∧ E.nx (((δ.set i1 (some (.dat x1))).set i2 (some (.dat x2))).set i3 (some (.dat x3))) G1) :
    WS K (tAsg te (gTup K 3 (gCons (gName i1) (gCons (gName i2) (gCons (gName i3) gNil))))) δ G E := ws_asgG (ts := [i1] ++ ([i2] ++ ([i3] ++ []))) (h.mono fun x G1 ⟨x1, x2, x3, e, k⟩ => by
  subst e
  exact wg_tup rfl (wgs_cons (wg_name (wgs_cons (wg_name (wgs_cons (wg_name (wgs_nil k))))))))
theorem ws_asgT4 (h : WE K te δ G fun x G1 => ∃ x1 x2 x3 x4, x = .dat (.tuple [x1, x2, x3, x4]) ∧ E.nx ((((δ.set i1 (some (.dat x1))).set i2 (some (.dat x2))).set i3 (some (.dat x3))).set i4 (some (.dat x4))) G1) :
    WS K (tAsg te (gTup K 4 (gCons (gName i1) (gCons (gName i2) (gCons (gName i3) (gCons (gName i4) gNil)))))) δ G E := ws_asgG (ts := [i1] ++ ([i2] ++ ([i3] ++ ([i4] ++ [])))) (h.mono fun x G1 ⟨x1, x2, x3, x4, e, k⟩ => by
  subst e
  exact wg_tup rfl (wgs_cons (wg_name (wgs_cons (wg_name (wgs_cons (wg_name (wgs_cons (wg_name (wgs_nil k))))))))))
theorem ws_asgT5 (h : WE K te δ G fun x G1 => ∃ x1 x2 x3 x4 x5, x = .dat (.tuple [x1, x2, x3, x4, x5]) ∧ E.nx (((((δ.set i1 (some (.dat x1))).set i2 (some (.dat x2))).set i3 (some (.dat x3))).set i4 (some (.dat x4))).set i5 (some (.dat x5))) G1) :
    WS K (tAsg te (gTup K 5 (gCons (gName i1) (gCons (gName i2) (gCons (gName i3) (gCons (gName i4) (gCons (gName i5) gNil))))))) δ G E := ws_asgG (ts := [i1] ++ ([i2] ++ ([i3] ++ ([i4] ++ ([i5] ++ []))))) (h.mono fun x G1 ⟨x1, x2, x3, x4, x5, e, k⟩ => by
  subst e
  exact wg_tup rfl (wgs_cons (wg_name (wgs_cons (wg_name (wgs_cons (wg_name (wgs_cons (wg_name (wgs_cons (wg_name (wgs_nil k))))))))))))
end
theorem phi_eq {Φ : Dt → GH → Prop} {d : Dt} {G G' : GH} (h : Φ d G) (e : G = G') : Φ d G' := e ▸ h
end DL
/-! (Nb) -/
namespace DL
open PySem PySem.Spec PyProof.Rows L2

local macro_rules | `(tactic| fail "l") => `(tactic| first | exact Nat.le_of_ble_eq_true rfl | omega | (simp only [List.length_map, List.length_append, List.length_cons, List.length_nil]; omega))
local macro_rules | `(tactic| fail "aS") => `(tactic| with_reducible first | refine ws_seq ?_ | refine ws_if ?_ | refine ws_ret ?_ | refine ws_asg ?_ | refine ws_drop ?_ | refine ws_next ?_ | refine ws_retN ?_ | refine ws_fldF ?_ | refine ws_fldN ?_ | refine ws_dput ?_ | refine ws_asgT5 ?_ | refine ws_asgT4 ?_ | refine ws_asgT3 ?_)
local macro_rules | `(tactic| fail "aO") => `(tactic| with_reducible first | refine we_ix ?_ | refine we_II ?_ | refine we_IB ?_ | refine we_eq ?_ | refine we_ne ?_ | refine we_add ?_ | refine we_addG ?_ | refine we_IC ?_ | refine we_eqD ?_ | refine we_neD ?_ | refine we_inD ?_ | refine we_notInD ?_ | refine we_in ?_ | refine we_inSg ?_)
local macro_rules | `(tactic| fail "aC") => `(tactic| with_reducible first | refine we_len ?_ | refine we_lenD ?_ | refine we_all ?_ | refine we_any ?_ | refine we_int1 ?_ | refine we_strI ?_ | refine we_listOf ?_ | refine we_tupOf ?_ | refine we_sum ?_ | refine we_abs ?_ | refine we_min2 ?_ | refine we_gcd ?_)
local macro_rules | `(tactic| fail "aE") => `(tactic| first
  | ((with_reducible apply we_var); rfl)
  | with_reducible refine we_int ?_ | with_reducible refine we_str ?_ | with_reducible refine we_non ?_ | with_reducible refine we_bl ?_
  | ((with_reducible show WE _ (tOp _ _ _) _ _ _); fail "aO")
  | ((with_reducible show WE _ (tCB _ _) _ _ _); fail "aC")
  | with_reducible refine we_call ?_ | with_reducible refine we_fld ?_ | with_reducible refine we_meth' ?_ | with_reducible refine we_tup ?_ | with_reducible refine we_isi (by decide) ?_ | with_reducible refine we_lst ?_ | with_reducible refine we_lstG ?_
  | with_reducible refine we_and ?_ | with_reducible refine we_or ?_ | with_reducible refine we_not ?_ | with_reducible refine we_chainI ?_ | with_reducible refine we_isN ?_ | with_reducible refine we_notN ?_ | with_reducible refine we_append ?_ | with_reducible refine we_extend ?_ | with_reducible refine we_index ?_
  | with_reducible refine we_slL ?_ | with_reducible refine we_slT ?_ | with_reducible refine we_dget ?_ | with_reducible refine we_din ?_ | with_reducible refine we_dnotin ?_ | with_reducible refine we_dictG ?_ | with_reducible refine we_prop ?_ | with_reducible refine we_join ?_ | with_reducible refine we_neg ?_ | with_reducible refine we_lenSet ?_)
local macro_rules | `(tactic| fail "aT") => `(tactic| with_reducible first | refine wt_val ?_ | refine wt_tst ?_ | refine wt_and ?_ | refine wt_or ?_ | refine wt_not ?_ | refine wt_yes ?_)
local macro_rules | `(tactic| fail "aD") => `(tactic| with_reducible first | refine dEq_ii ?_ | refine dEq_ss ?_ | refine dEq_bb ?_ | refine dEq_nn ?_ | refine dEq_ni ?_ | refine dEq_in ?_ | refine dAdd_ii ?_ | refine dInt_i ?_ | refine dInt_b ?_ | refine dLen_l ?_ | refine dLen_t ?_)
local macro_rules | `(tactic| fail "a") => `(tactic| first
  | ((with_reducible show WE _ _ _ _ _); fail "aE")
  | ((with_reducible show WA _ _ _ _ _); (with_reducible first | refine wa_cons ?_ | refine wa_nil ?_))
  | ((with_reducible show WS _ _ _ _ _); fail "aS")
  | ((with_reducible show WT _ _ _ _ _); fail "aT")
  | ((with_reducible show WG _ _ _ _ _ _ _); first | with_reducible refine wg_name ?_ | ((with_reducible refine wg_tup ?_ ?_); rfl))
  | ((with_reducible show WGs _ _ _ _ _ _ _); (with_reducible first | refine wgs_cons ?_ | refine wgs_nil ?_))
  | ((with_reducible show WO _ _ _ _ _); (with_reducible first | refine wo_none ?_ | refine wo_some ?_))
  | ((with_reducible show dIx _ _ _ _); first | ((with_reducible apply dIx_t); rfl) | ((with_reducible apply dIx_l); rfl))
  | ((with_reducible show dAdd _ _ _ _); first | with_reducible refine dAdd_ii ?_ | ((with_reducible refine dAdd_ll ?_ ?_); fail "l") | ((with_reducible apply dAdd_ol); (fail "h"); (fail "l")) | ((with_reducible refine dAdd_tt ?_ ?_); fail "l") | ((with_reducible refine dAdd_ss ?_ ?_); fail "l"))
  | fail "aD")
local macro_rules | `(tactic| fail "e") => `(tactic| ((fail_if_success (with_reducible show ∃ _ : NF, _)); (fail_if_success (with_reducible show ∃ _ : PF, _)); (fail_if_success (with_reducible show ∃ _ : DF, _)); (first | with_reducible refine ⟨_, _, rfl, rfl, ?_⟩ | with_reducible refine ⟨_, rfl, ?_⟩ | with_reducible refine ⟨rfl, ?_⟩ | with_reducible refine ⟨_, _, rfl, ?_⟩ | with_reducible refine ⟨_, _, _, rfl, ?_⟩ | with_reducible refine ⟨_, _, _, _, rfl, ?_⟩ | with_reducible refine ⟨_, _, _, _, _, rfl, ?_⟩ | ((refine ⟨?l, ?_⟩); (case l => (with_reducible show _ < 1000000); fail "l")) | ((refine ⟨?l, ?_⟩); (case l => (with_reducible show _ ≤ 1000000); fail "l")))))
local macro_rules | `(tactic| fail "g") => `(tactic| ((funext gb; simp only [updG, dropG]; repeat' split) <;> first | rfl | (exfalso; simp_all; done) | (simp_all; done)))
local macro_rules | `(tactic| fail "q") => `(tactic| first | assumption | exact Ne.symm (by assumption))
local macro_rules | `(tactic| fail "h") => `(tactic| first | assumption | exact updG_same | ((rw [updG_ne]); (fail "h"); (fail "q")))
local macro_rules | `(tactic| fail "z") => `(tactic| first | rfl | exact ⟨rfl, rfl⟩ | exact ⟨_, rfl, rfl⟩ | exact ⟨_, _, rfl, rfl⟩ | exact ⟨_, _, _, rfl, rfl⟩ | assumption)
local macro_rules | `(tactic| fail "f") => `(tactic| first
  | refine ⟨_, _, rfl, .inr (.inl rfl), ?_⟩ | refine ⟨_, _, rfl, .inl rfl, ?_⟩
  | (refine ⟨_, ?ds, rfl, .inr (.inr ⟨_, rfl, ?h1⟩), ?_⟩; (case h1 => fail "h"))
  | (refine ⟨_, ?ds, rfl, .inr ⟨_, rfl, ?h1⟩, ?_⟩; (case h1 => fail "h"))
  | ((with_reducible refine ⟨_, ?ds, ?d, rfl, ?h1, ?h2, ?_⟩); (case h1 => fail "h"); (case h2 => rfl))
  | ((with_reducible refine ⟨_, ?ds, rfl, ?h1, ?_⟩); (case h1 => fail "h"))
  | ((with_reducible refine ⟨_, ?ns, ?ds, rfl, ?h1, ?h2, ?_⟩); (case h1 => fail "h"); (case h2 => decide))
  | ((with_reducible refine ⟨_, ?ns, ?ds, rfl, (?h1 : _ = some (GO.ins _ ?ns ?ds)), ?_⟩); (case h1 => fail "h"))
  | ((with_reducible refine ⟨_, rfl, ⟨?ys, ?h1⟩, ?_⟩); (case h1 => fail "h"))
  | ((with_reducible refine ⟨_, ?xs, rfl, ?h1, ?h2, ?_⟩); (case h1 => fail "h"); (case h2 => omega)))
local macro_rules | `(tactic| fail "y") => `(tactic| first
  | ((with_reducible refine ⟨fun _ => ?_, fun hbb => ?nope⟩); (case nope => first | exact Bool.noConfusion (show true = false from hbb) | exact Bool.noConfusion (show false = true from hbb) | exact absurd (of_decide_eq_true hbb) (by omega) | exact absurd (of_decide_eq_false hbb) (by omega) | (simp at hbb; done) | (simp at hbb; omega)))
  | ((with_reducible refine ⟨fun hbb => ?nope, fun _ => ?_⟩); (case nope => first | exact Bool.noConfusion (show true = false from hbb) | exact Bool.noConfusion (show false = true from hbb) | exact absurd (of_decide_eq_true hbb) (by omega) | exact absurd (of_decide_eq_false hbb) (by omega) | (simp at hbb; done) | (simp at hbb; omega))))
local macro_rules | `(tactic| fail "w") => `(tactic| repeat fail "a")
local macro_rules | `(tactic| fail "x") => `(tactic| repeat (first | fail "a" | fail "f" | fail "e" | fail "y"))

abbrev F_Notary_sign (K : PySem.W.Frag) : FT := F4 fun x y z u G Φ => ∃ ks n c s cs sg, ∃ (i : Nat) (k : Str) (m : Ms), x = .obj n ∧ NotAt K ks n c s cs sg G ∧ y = .dat (.int (i : Nat)) ∧ z = .dat (.str k) ∧ u = .dat (msD m) ∧ ks[i]? = some k ∧ okM m ∧ sg.length < 900000 ∧
  Φ (.dat (.int (ix (((i : Nat) : Int), m) (addc (((i : Nat) : Int), m) sg) : Nat))) (updG G s (.lst ((addc (((i : Nat) : Int), m) sg).map sgD)))
/-- the entry at j is who signed what -/
def validB (sg : List Sg) (i : Int) (m : Ms) (j : Int) : Bool := decide (0 ≤ j) && decide (sg[j.toNat]? = some (i, m))
abbrev F_Notary_is_valid (K : PySem.W.Frag) : FT := F4 fun x y z u G Φ => ∃ ks n c s cs sg, ∃ (i j : Int) (m : Ms), x = .obj n ∧ NotAt K ks n c s cs sg G ∧ y = .dat (.int i) ∧ z = .dat (msD m) ∧ u = .dat (.int j) ∧ okM m ∧ Φ (.dat (.bool (validB sg i m j))) G
abbrev F_is_letter : FT := F1 fun x G Φ => ∃ l : Lt, x = .dat (ltD l) ∧ okL l ∧ Φ (.dat (.bool true)) G
abbrev F_is_signed (K : PySem.W.Frag) : FT := F2 fun x y G Φ => ∃ ks n c s cs sg, ∃ l : Lt, x = .obj n ∧ NotAt K ks n c s cs sg G ∧ y = .dat (ltD l) ∧ okL l ∧ Φ (.dat (.bool (validB sg l.2.1 (l.1, l.2.2.1) l.2.2.2))) G
def okKeys (ks : List Str) : Prop := 2 ≤ ks.length ∧ ks.length ≤ 10 ∧ ks.Nodup ∧ ∀ k ∈ ks, k ≠ ""
abbrev F_Notary_init (K : PySem.W.Frag) : FT := F2 fun x y G Φ => ∃ (ks : List Str) (n : Addr), x = .obj n ∧ G n = some (.ins (He.ga K "Notary") [] []) ∧ y = .dat (.list (ks.map .str)) ∧ okKeys ks ∧
  ∀ c s, G c = none → G s = none → c ≠ s → Φ (.dat .none) (updG (updG (updG G c (.lst [])) s (.lst [])) n (.ins (He.ga K "Notary") ns_Notary [.dat (.list (ks.map .str)), .obj c, .obj s]))

theorem sc_Notary_sign : FnScope ["self", "member", "key", "content", "entry"] ["self", "member", "key", "content"] (defScope (inClass (top 64) 5)) := ⟨rfl, rfl, rfl, by decide +kernel, rfl, by decide +kernel, by decide +kernel⟩
theorem n_Notary_sign {P : Program} {w : World} {K : PySem.W.Frag} {mg : Str → Option Value} {base : Heap} {fd : FuncData} {dvs : List V} {kws : List (Str × V)} (e : Ev P w K mg base) (FD : FunD K "sign" "Notary.sign" (defArgs (inClass (top 64) 5)) (defBody (inClass (top 64) 5)) (defScope (inClass (top 64) 5)) dvs kws (He.ma K (He.ga K "Notary") "sign") fd) : FnOk P w K mg base CX0 17 (He.ma K (He.ga K "Notary") "sign") fd ["self", "member", "key", "content"] (spD K (F_Notary_sign K)) := by
  have S := sc_Notary_sign
  refine okD FD S (fun _ _ _ h => len4 h) fun cdv A outer s H E hr => ⟨_, (pss_cons (ps_expr (k_cl K (o_check_content e) (hr.mono (by decide)) e.g_check_content (pa_cons (pv 3) pa_nil)))
      (pss_cons (ps_if (pt_not (pt_val (k_me K e.c_Notary e.h_Notary_is_key (o_Notary_is_key e) (hr.mono (by decide)) (pv 0) (pa_cons (pv 1) (pa_cons (pv 2) pa_nil))))) pss_never pss_nil)
      (pss_cons (ps_set (i := 4) S.nd rfl (by first | exact Or.inl rfl | exact Or.inr rfl) (pe_tup (pa_cons (pv 1) (pa_cons (pv 3) pa_nil))))
      (pss_cons (ps_if (pt_cmpR (k_notinD K hr) (pv 4) (k_fld K e.f_Notary_signed (pv 0)) (by with_unfolding_all rfl)) (pss_one (ps_expr (k_bm K PySem.F.plainAttrs_list PySem.F.slot_list_append PySem.F.type_list_append mt_append (k_fld K e.f_Notary_signed (pv 0)) (pa_cons (pv 4) pa_nil)))) pss_nil)
      (pss_one (ps_ret (k_bm K PySem.F.plainAttrs_list PySem.F.slot_list_index PySem.F.type_list_index (k_index K hr) (k_fld K e.f_Notary_signed (pv 0)) (pa_cons (pv 4) pa_nil)))))))), ?_⟩
  intro ds G Φ h
  try dsimp only [cxK, blkK]
  obtain ⟨x, y, z, u, rfl, ks, n, c, s, cs, sg, i, kk, m, rfl, N, rfl, rfl, rfl, hk, hm, hl, k⟩ := h
  obtain ⟨h1, h2, h3, h4, h5⟩ := id N
  have hns : n ≠ s := neG h1 h3 (by intro z; cases z)
  have hoS : okS (((i : Nat) : Int), m) := hm
  fail "x"
  refine ⟨cok_le (ms_tame.cok _ hm) (by decide), ?_⟩
  fail "x"
  refine ⟨ks, _, c, s, cs, sg, i, kk, rfl, N, rfl, rfl, hk, ?_⟩
  fail "x"
  refine ⟨sg_tame.shaped hoS, sg_tame.shapedL h5, ?_⟩
  rw [sg_tame.any (a := (((i : Nat) : Int), m)) h5 hoS]
  have h5' : ∀ x ∈ addc (((i : Nat) : Int), m) sg, okS x := addc_ok h5 hoS
  obtain ⟨i1, i2, i3⟩ := sg_tame.index h5' hoS addc_mem
  unfold addc at k h5' i1 i3
  fail "x"
  refine ⟨fun hb => ?_, fun hb => ?_⟩
  · have hm' : ¬ (((i : Nat) : Int), m) ∈ sg := by simpa using hb
    rw [if_neg hm'] at k h5' i1 i3
    fail "x"
    refine ⟨.inr ⟨_, _, rfl, updG_same⟩, ?_⟩
    fail "x"
    have hs := sg_tame.shapedL h5'
    rw [List.map_append] at hs k i1 i3
    exact ⟨sg_tame.shaped hoS, hs, _, _, i1, i2, i3, k⟩
  · have hm' : (((i : Nat) : Int), m) ∈ sg := by simpa using hb
    rw [if_pos hm'] at k h5' i1 i3
    rw [updG_self h3] at k
    fail "x"
    refine ⟨.inr ⟨_, _, rfl, h3⟩, ?_⟩
    fail "x"
    exact ⟨sg_tame.shaped hoS, sg_tame.shapedL h5, _, _, i1, i2, i3, k⟩
theorem o_Notary_sign {P : Program} {w : World} {K : PySem.W.Frag} {mg : Str → Option Value} {base : Heap} (e : Ev P w K mg base) : OkD P w K mg base 17 (He.ma K (He.ga K "Notary") "sign") ["self", "member", "key", "content"] [] (F_Notary_sign K) := by
  obtain ⟨fd, FD⟩ := e.d_Notary_sign
  exact okN FD (n_Notary_sign e FD) fun _ _ _ _ _ _ us hl => match us, hl with | [_, _, _, _], _ => rfl
theorem sc_Notary_is_valid : FnScope ["self", "member", "content", "signature"] ["self", "member", "content", "signature"] (defScope (inClass (top 64) 6)) := ⟨rfl, rfl, rfl, by decide +kernel, rfl, by decide +kernel, by decide +kernel⟩
theorem n_Notary_is_valid {P : Program} {w : World} {K : PySem.W.Frag} {mg : Str → Option Value} {base : Heap} {fd : FuncData} {dvs : List V} {kws : List (Str × V)} (e : Ev P w K mg base) (FD : FunD K "is_valid" "Notary.is_valid" (defArgs (inClass (top 64) 6)) (defBody (inClass (top 64) 6)) (defScope (inClass (top 64) 6)) dvs kws (He.ma K (He.ga K "Notary") "is_valid") fd) : FnOk P w K mg base CX0 16 (He.ma K (He.ga K "Notary") "is_valid") fd ["self", "member", "content", "signature"] (spD K (F_Notary_is_valid K)) := by
  have S := sc_Notary_is_valid
  refine okD FD S (fun _ _ _ h => len4 h) fun cdv A outer s H E hr => ⟨_, (pss_cons (ps_if (PW.pt (pw_or (pt_not (pt_val (k_cl K (o_is_integer e) (hr.mono (by decide)) e.g_is_integer (pa_cons (pv 1) pa_nil)))) (pw_or (pt_not (pt_val (k_cl K (o_is_content e) (hr.mono (by decide)) e.g_is_content (pa_cons (pv 2) pa_nil)))) (pw_or1 (pt_not (pt_val (k_cl K (o_is_integer e) (hr.mono (by decide)) e.g_is_integer (pa_cons (pv 3) pa_nil)))))))) (pss_one (ps_ret pe_bl)) pss_nil)
      (pss_one (ps_ret (pe_and (pe_chain op_le op_lt pe_int (pv 3) (pe_callB (k_len K) rfl e.x_len (by decide +kernel) (pa_cons (k_fld K e.f_Notary_signed (pv 0)) pa_nil))) (pe_one (pe_cmpR (k_eqD K hr) (pe_ix (k_ix K) (k_fld K e.f_Notary_signed (pv 0)) (pv 3) (fun _ _ => rfl)) (pe_tup (pa_cons (pv 1) (pa_cons (pv 2) pa_nil))) (nomark _))))))), ?_⟩
  intro ds G Φ h
  try dsimp only [cxK, blkK]
  obtain ⟨x, y, z, u, rfl, ks, n, c, s, cs, sg, i, j, m, rfl, ⟨h1, h2, h3, h4, h5⟩, rfl, rfl, rfl, hm, k⟩ := h
  unfold validB at k
  fail "x"
  refine ⟨cok_le (ms_tame.cok _ hm) (by decide), ?_⟩
  fail "x"
  refine ⟨fun hb => ?_, fun hb => ?_⟩
  · have h0 := of_decide_eq_true hb
    rw [hb, Bool.true_and] at k
    fail "x"
    refine dLen_o h3 ?_
    fail "x"
    refine ⟨fun hb2 => ?_, fun hb2 => ?_⟩
    · have hl := of_decide_eq_true hb2
      rw [List.length_map] at hl
      have hj : j.toNat < sg.length := by omega
      have he : sg[j.toNat]? = some sg[j.toNat] := List.getElem?_eq_getElem hj
      have hoe : okS sg[j.toNat] := h5 _ (List.getElem_mem hj)
      have hoS : okS (i, m) := hm
      fail "x"
      refine dIx_o h3 (atI_int (k := j.toNat) (by omega) (by rw [List.getElem?_map, he]; rfl)) ?_
      fail "x"
      refine ⟨sg_tame.shaped hoe, sg_tame.shaped hoS, ?_⟩
      have e := sg_tame.eqv hoe hoS
      rw [he] at k
      have e2 : decide (some sg[j.toNat] = some (i, m)) = decide (sg[j.toNat] = (i, m)) := by simp
      rw [e2, ← e] at k
      exact k
    · have hl := of_decide_eq_false hb2
      rw [List.length_map] at hl
      rw [List.getElem?_eq_none (by omega)] at k
      exact k
  · rw [hb, Bool.false_and] at k
    exact ⟨false, rfl, fun z => (by cases z), fun _ => k⟩
theorem o_Notary_is_valid {P : Program} {w : World} {K : PySem.W.Frag} {mg : Str → Option Value} {base : Heap} (e : Ev P w K mg base) : OkD P w K mg base 16 (He.ma K (He.ga K "Notary") "is_valid") ["self", "member", "content", "signature"] [] (F_Notary_is_valid K) := by
  obtain ⟨fd, FD⟩ := e.d_Notary_is_valid
  exact okN FD (n_Notary_is_valid e FD) fun _ _ _ _ _ _ us hl => match us, hl with | [_, _, _, _], _ => rfl
theorem sc_is_letter : FnScope ["value", "kind", "round_number", "sender", "body", "signature"] ["value"] (defScope (top 65)) := ⟨rfl, rfl, rfl, by decide +kernel, rfl, by decide +kernel, by decide +kernel⟩
theorem n_is_letter {P : Program} {w : World} {K : PySem.W.Frag} {mg : Str → Option Value} {base : Heap} {fd : FuncData} {dvs : List V} {kws : List (Str × V)} (e : Ev P w K mg base) (FD : FunD K "is_letter" "is_letter" (defArgs (top 65)) (defBody (top 65)) (defScope (top 65)) dvs kws (He.ga K "is_letter") fd) : FnOk P w K mg base CX0 16 (He.ga K "is_letter") fd ["value"] (spD K F_is_letter) := by
  have S := sc_is_letter
  refine okD FD S (fun _ _ _ h => len1 h) fun cdv A outer s H E hr => ⟨_, (pss_cons (ps_if (PW.pt (pw_or (pt_not (pt_val (k_isi K (T := "tuple") rfl e.x_isinstance rfl e.x_tuple (by decide +kernel) (pv 0)))) (pw_or1 (pt_cmpR op_ne (pe_callB (k_len K) rfl e.x_len (by decide +kernel) (pa_cons (pv 0) pa_nil)) pe_int (nomark _))))) (pss_one (ps_ret pe_bl)) pss_nil)
      (pss_cons (ps_asg (pv 0) (k_gtup K (n := 5) rfl (pgs_cons (pg_name (i := 1) S.nd rfl (by first | exact Or.inl rfl | exact Or.inr rfl)) (pgs_cons (pg_name (i := 2) S.nd rfl (by first | exact Or.inl rfl | exact Or.inr rfl)) (pgs_cons (pg_name (i := 3) S.nd rfl (by first | exact Or.inl rfl | exact Or.inr rfl)) (pgs_cons (pg_name (i := 4) S.nd rfl (by first | exact Or.inl rfl | exact Or.inr rfl)) (pgs_cons (pg_name (i := 5) S.nd rfl (by first | exact Or.inl rfl | exact Or.inr rfl)) pgs_nil)))))))
      (pss_cons (ps_if (PW.pt (pw_or (pt_not (pt_val (k_isi K (T := "str") rfl e.x_isinstance rfl e.x_str (by decide +kernel) (pv 1)))) (pw_or (pt_cmpR (k_notin K) (pv 1) (pe_gR e.g_KINDS) (by with_unfolding_all rfl)) (pw_or1 (pt_not (pt_val (k_cl K (o_is_content e) (hr.mono (by decide)) e.g_is_content (pa_cons (pv 4) pa_nil)))))))) (pss_one (ps_ret pe_bl)) pss_nil)
      (pss_one (ps_ret (pe_and (k_cl K (o_is_integer e) (hr.mono (by decide)) e.g_is_integer (pa_cons (pv 2) pa_nil)) (pe_and (k_cl K (o_is_integer e) (hr.mono (by decide)) e.g_is_integer (pa_cons (pv 3) pa_nil)) (pe_one (k_cl K (o_is_integer e) (hr.mono (by decide)) e.g_is_integer (pa_cons (pv 5) pa_nil)))))))))), ?_⟩
  intro ds G Φ h
  try dsimp only [cxK, blkK]
  obtain ⟨x, rfl, l, rfl, ⟨h1, h2⟩, k⟩ := h
  fail "x"
  refine we_gT e.t_KINDS (fun _ _ => .cons (.str _) (.cons (.str _) (.cons (.str _) (.cons (.str _) (.cons (.str _) .nil))))) ?_
  refine ⟨_, _, _, _, rfl, .inl rfl, rfl, rfl, ?_⟩
  have e1 : inV (V.str l.1) [V.str "call", V.str "commit", V.str "list", V.str "open", V.str "book"] = true := by
    have key : ∀ z ∈ kinds5, inV (V.str z) [V.str "call", V.str "commit", V.str "list", V.str "open", V.str "book"] = true := by decide +kernel
    exact key _ h1
  rw [e1]
  fail "x"
  refine ⟨cok_le (By.cok h2) (by decide), ?_⟩
  fail "x"
  exact k
theorem o_is_letter {P : Program} {w : World} {K : PySem.W.Frag} {mg : Str → Option Value} {base : Heap} (e : Ev P w K mg base) : OkD P w K mg base 16 (He.ga K "is_letter") ["value"] [] F_is_letter := by
  obtain ⟨fd, FD⟩ := e.d_is_letter
  exact okN FD (n_is_letter e FD) fun _ _ _ _ _ _ us hl => match us, hl with | [_], _ => rfl
theorem sc_is_signed : FnScope ["notary", "letter", "kind", "round_number", "sender", "body", "signature"] ["notary", "letter"] (defScope (top 66)) := ⟨rfl, rfl, rfl, by decide +kernel, rfl, by decide +kernel, by decide +kernel⟩
theorem n_is_signed {P : Program} {w : World} {K : PySem.W.Frag} {mg : Str → Option Value} {base : Heap} {fd : FuncData} {dvs : List V} {kws : List (Str × V)} (e : Ev P w K mg base) (FD : FunD K "is_signed" "is_signed" (defArgs (top 66)) (defBody (top 66)) (defScope (top 66)) dvs kws (He.ga K "is_signed") fd) : FnOk P w K mg base CX0 17 (He.ga K "is_signed") fd ["notary", "letter"] (spD K (F_is_signed K)) := by
  have S := sc_is_signed
  refine okD FD S (fun _ _ _ h => len2 h) fun cdv A outer s H E hr => ⟨_, (pss_cons (ps_if (pt_not (pt_val (k_cl K (o_is_letter e) (hr.mono (by decide)) e.g_is_letter (pa_cons (pv 1) pa_nil)))) (pss_one (ps_ret pe_bl)) pss_nil)
      (pss_cons (ps_asg (pv 1) (k_gtup K (n := 5) rfl (pgs_cons (pg_name (i := 2) S.nd rfl (by first | exact Or.inl rfl | exact Or.inr rfl)) (pgs_cons (pg_name (i := 3) S.nd rfl (by first | exact Or.inl rfl | exact Or.inr rfl)) (pgs_cons (pg_name (i := 4) S.nd rfl (by first | exact Or.inl rfl | exact Or.inr rfl)) (pgs_cons (pg_name (i := 5) S.nd rfl (by first | exact Or.inl rfl | exact Or.inr rfl)) (pgs_cons (pg_name (i := 6) S.nd rfl (by first | exact Or.inl rfl | exact Or.inr rfl)) pgs_nil)))))))
      (pss_one (ps_ret (k_me K e.c_Notary e.h_Notary_is_valid (o_Notary_is_valid e) (hr.mono (by decide)) (pv 0) (pa_cons (pv 4) (pa_cons (pe_tup (pa_cons (pv 2) (pa_cons (pv 3) (pa_cons (pv 5) pa_nil)))) (pa_cons (pv 6) pa_nil)))))))), ?_⟩
  intro ds G Φ h
  try dsimp only [cxK, blkK]
  obtain ⟨x, y, rfl, ks, n, c, s, cs, sg, l, rfl, N, rfl, hl, k⟩ := h
  have h1 := N.nt
  fail "x"
  refine ⟨hl, ?_⟩
  fail "x"
  exact ⟨ks, n, c, s, cs, sg, l.2.1, l.2.2.2, (l.1, l.2.2.1), rfl, N, rfl, rfl, rfl, hl, k⟩
theorem o_is_signed {P : Program} {w : World} {K : PySem.W.Frag} {mg : Str → Option Value} {base : Heap} (e : Ev P w K mg base) : OkD P w K mg base 17 (He.ga K "is_signed") ["notary", "letter"] [] (F_is_signed K) := by
  obtain ⟨fd, FD⟩ := e.d_is_signed
  exact okN FD (n_is_signed e FD) fun _ _ _ _ _ _ us hl => match us, hl with | [_, _], _ => rfl
theorem strs_fl (ws : List Str) : flVs (ws.map PyData.str) = some (ws.map V.str) := by
  induction ws with
  | nil => rfl
  | cons w ws ih =>
    rw [List.map_cons, List.map_cons]
    unfold flVs
    rw [ih]
    rfl
theorem cut_to {xs : List PyData} {i : Nat} (h : i ≤ xs.length) : cutD xs none (some (i : Int)) = xs.take i := by
  unfold cutD
  rw [HT.sIx_none, HT.sIx_nat, List.drop_zero, Nat.sub_zero, Nat.min_eq_left h]
theorem inV_strs {z : Str} {ws : List Str} (h : z ∉ ws) : inV (V.str z) (ws.map V.str) = false := by
  unfold inV
  rw [List.any_eq_false]
  intro v hv e
  obtain ⟨w, hw, rfl⟩ := List.mem_map.mp hv
  have e2 : w = z := by
    have e3 : (w == z) = true := e
    exact eq_of_beq e3
  exact h (e2 ▸ hw)

theorem sc_Notary_init : FnScope ["self", "keys", "index", "key"] ["self", "keys"] (defScope (inClass (top 64) 0)) := ⟨rfl, rfl, rfl, by decide +kernel, rfl, by decide +kernel, by decide +kernel⟩
theorem n_Notary_init {P : Program} {w : World} {K : PySem.W.Frag} {mg : Str → Option Value} {base : Heap} {fd : FuncData} {dvs : List V} {kws : List (Str × V)} (e : Ev P w K mg base) (FD : FunD K "__init__" "Notary.__init__" (defArgs (inClass (top 64) 0)) (defBody (inClass (top 64) 0)) (defScope (inClass (top 64) 0)) dvs kws (He.ma K (He.ga K "Notary") "__init__") fd) : FnOk P w K mg base CX0 1 (He.ma K (He.ga K "Notary") "__init__") fd ["self", "keys"] (spD K (F_Notary_init K)) := by
  have S := sc_Notary_init
  refine okD FD S (fun _ _ _ h => len2 h) fun cdv A outer s H E hr => ⟨_, (pss_cons (ps_for PassesOwn.never rfl (k_enum K rfl e.x_enumerate (pa_cons (pv 1) pa_nil)) (k_gtup K (n := 2) rfl (pgs_cons (pg_name (i := 2) S.nd rfl (by first | exact Or.inl rfl | exact Or.inr rfl)) (pgs_cons (pg_name (i := 3) S.nd rfl (by first | exact Or.inl rfl | exact Or.inr rfl)) pgs_nil))) (pss_one (ps_if (PW.pt (pw_or (pt_cmpR op_eq (pv 3) pe_str (nomark _)) (pw_or1 (pt_cmpR (k_in K) (pv 3) (pe_slice (k_slL K) (pv 1) po_none (po_some (pv 2))) (by with_unfolding_all rfl))))) pss_never pss_nil)))
      (pss_cons (ps_if (pt_cmpR op_lt (pe_callB (k_len K) rfl e.x_len (by decide +kernel) (pa_cons (pv 1) pa_nil)) pe_int (nomark _)) pss_never pss_nil)
      (pss_cons (ps_fldN (ns := []) e.c_Notary e.a_Notary_known_keys (by decide) (by decide) (pv 0) (pe_callTy (k_list K) rfl e.x_list (by decide +kernel) (pa_cons (pv 1) pa_nil)))
      (pss_cons (ps_fldN (ns := ["known_keys"]) e.c_Notary e.a_Notary_contents (by decide) (by decide) (pv 0) (pe_lstG pa_nil))
      (pss_one (ps_fldN (ns := ["known_keys", "contents"]) e.c_Notary e.a_Notary_signed (by decide) (by decide) (pv 0) (pe_lstG pa_nil))))))), ?_⟩
  intro ds G Φ h
  try dsimp only [cxK, blkK]
  obtain ⟨x, y, rfl, ks, n, rfl, hn, rfl, ⟨h1, h2, h3, h4⟩, k⟩ := h
  fail "x"
  refine ws_for (wi_enum ?_)
  fail "x"
  refine ⟨[2] ++ ([3] ++ []), fun i δ G' => ∃ y z : Option Dt, δ = [some (.obj n), some (.dat (.list (ks.map .str))), y, z] ∧ G' = G, ⟨none, none, rfl, rfl⟩, ?_, ?_⟩
  · rintro i x δ' G' hx ⟨y, z, rfl, rfl⟩
    obtain ⟨q, hq, rfl⟩ := numD_get.mp hx
    obtain ⟨kk, hk, rfl⟩ := map_get hq
    have hne : kk ≠ "" := h4 _ (List.mem_of_getElem? hk)
    have hi : i < ks.length := (List.getElem?_eq_some_iff.mp hk).1
    fail "x"
    refine ⟨_, .inl rfl, ?_⟩
    rw [cut_to (by rw [List.length_map]; omega), ← List.map_take]
    fail "x"
    refine ⟨_, _, V.str kk, (ks.take i).map V.str, rfl, .inr (.inl rfl), rfl, strs_fl _, ?_⟩
    have e1 : inV (V.str kk) ((ks.take i).map V.str) = false := inV_strs fun hm => by
      obtain ⟨j, hj, ej⟩ := List.mem_iff_getElem.mp hm
      rw [List.length_take] at hj
      rw [List.getElem_take] at ej
      obtain ⟨hi2, ek⟩ := List.getElem?_eq_some_iff.mp hk
      exact (List.pairwise_iff_getElem.mp h3) j i (by omega) hi2 (by omega) (ej.trans ek.symm)
    rw [if_neg (by decide), e1]
    fail "x"
    fail "z"
  · rintro δ' G' ⟨y, z, rfl, rfl⟩
    have hl : ((ks.map PyData.str).length : Int) = (ks.length : Int) := by rw [List.length_map]
    fail "x"
    intro c hc
    obtain ⟨hcn, hc⟩ := updG_none hc
    fail "x"
    intro t ht
    obtain ⟨htn, ht⟩ := updG_none ht
    obtain ⟨htc, ht⟩ := updG_none ht
    obtain ⟨_, ht⟩ := updG_none ht
    fail "x"
    exact phi_eq (k c t hc ht htc.symm) (by fail "g")
theorem o_Notary_init {P : Program} {w : World} {K : PySem.W.Frag} {mg : Str → Option Value} {base : Heap} (e : Ev P w K mg base) : OkD P w K mg base 1 (He.ma K (He.ga K "Notary") "__init__") ["self", "keys"] [] (F_Notary_init K) := by
  obtain ⟨fd, FD⟩ := e.d_Notary_init
  exact okN FD (n_Notary_init e FD) fun _ _ _ _ _ _ us hl => match us, hl with | [_, _], _ => rfl
end DL
/-! (Dd) -/
namespace DL
open PySem PySem.Spec PyProof.Rows L2

local macro_rules | `(tactic| fail "l") => `(tactic| first | exact Nat.le_of_ble_eq_true rfl | omega | (simp only [List.length_map, List.length_append, List.length_cons, List.length_nil]; omega))
local macro_rules | `(tactic| fail "aS") => `(tactic| with_reducible first | refine ws_seq ?_ | refine ws_if ?_ | refine ws_ret ?_ | refine ws_asg ?_ | refine ws_drop ?_ | refine ws_next ?_ | refine ws_retN ?_ | refine ws_fldF ?_ | refine ws_fldN ?_ | refine ws_dput ?_ | refine ws_asgT5 ?_ | refine ws_asgT4 ?_ | refine ws_asgT3 ?_)
local macro_rules | `(tactic| fail "aO") => `(tactic| with_reducible first | refine we_ix ?_ | refine we_II ?_ | refine we_IB ?_ | refine we_eq ?_ | refine we_ne ?_ | refine we_add ?_ | refine we_addG ?_ | refine we_IC ?_ | refine we_eqD ?_ | refine we_neD ?_ | refine we_inD ?_ | refine we_notInD ?_ | refine we_in ?_ | refine we_inSg ?_)
local macro_rules | `(tactic| fail "aC") => `(tactic| with_reducible first | refine we_len ?_ | refine we_lenD ?_ | refine we_all ?_ | refine we_any ?_ | refine we_int1 ?_ | refine we_strI ?_ | refine we_listOf ?_ | refine we_tupOf ?_ | refine we_sum ?_ | refine we_abs ?_ | refine we_min2 ?_ | refine we_gcd ?_)
local macro_rules | `(tactic| fail "aE") => `(tactic| first
  | ((with_reducible apply we_var); rfl)
  | with_reducible refine we_int ?_ | with_reducible refine we_str ?_ | with_reducible refine we_non ?_ | with_reducible refine we_bl ?_
  | ((with_reducible show WE _ (tOp _ _ _) _ _ _); fail "aO")
  | ((with_reducible show WE _ (tCB _ _) _ _ _); fail "aC")
  | with_reducible refine we_call ?_ | with_reducible refine we_fld ?_ | with_reducible refine we_meth' ?_ | with_reducible refine we_tup ?_ | with_reducible refine we_isi (by decide) ?_ | with_reducible refine we_lst ?_ | with_reducible refine we_lstG ?_
  | with_reducible refine we_and ?_ | with_reducible refine we_or ?_ | with_reducible refine we_not ?_ | with_reducible refine we_chainI ?_ | with_reducible refine we_isN ?_ | with_reducible refine we_notN ?_ | with_reducible refine we_append ?_ | with_reducible refine we_extend ?_ | with_reducible refine we_index ?_
  | with_reducible refine we_slL ?_ | with_reducible refine we_slT ?_ | with_reducible refine we_dget ?_ | with_reducible refine we_din ?_ | with_reducible refine we_dnotin ?_ | with_reducible refine we_dictG ?_ | with_reducible refine we_prop ?_ | with_reducible refine we_join ?_ | with_reducible refine we_neg ?_ | with_reducible refine we_lenSet ?_)
local macro_rules | `(tactic| fail "aT") => `(tactic| with_reducible first | refine wt_val ?_ | refine wt_tst ?_ | refine wt_and ?_ | refine wt_or ?_ | refine wt_not ?_ | refine wt_yes ?_)
local macro_rules | `(tactic| fail "aD") => `(tactic| with_reducible first | refine dEq_ii ?_ | refine dEq_ss ?_ | refine dEq_bb ?_ | refine dEq_nn ?_ | refine dEq_ni ?_ | refine dEq_in ?_ | refine dAdd_ii ?_ | refine dInt_i ?_ | refine dInt_b ?_ | refine dLen_l ?_ | refine dLen_t ?_)
local macro_rules | `(tactic| fail "a") => `(tactic| first
  | ((with_reducible show WE _ _ _ _ _); fail "aE")
  | ((with_reducible show WA _ _ _ _ _); (with_reducible first | refine wa_cons ?_ | refine wa_nil ?_))
  | ((with_reducible show WS _ _ _ _ _); fail "aS")
  | ((with_reducible show WT _ _ _ _ _); fail "aT")
  | ((with_reducible show WG _ _ _ _ _ _ _); first | with_reducible refine wg_name ?_ | ((with_reducible refine wg_tup ?_ ?_); rfl))
  | ((with_reducible show WGs _ _ _ _ _ _ _); (with_reducible first | refine wgs_cons ?_ | refine wgs_nil ?_))
  | ((with_reducible show WO _ _ _ _ _); (with_reducible first | refine wo_none ?_ | refine wo_some ?_))
  | ((with_reducible show dIx _ _ _ _); first | ((with_reducible apply dIx_t); rfl) | ((with_reducible apply dIx_l); rfl))
  | ((with_reducible show dAdd _ _ _ _); first | with_reducible refine dAdd_ii ?_ | ((with_reducible refine dAdd_ll ?_ ?_); fail "l") | ((with_reducible apply dAdd_ol); (fail "h"); (fail "l")) | ((with_reducible refine dAdd_tt ?_ ?_); fail "l") | ((with_reducible refine dAdd_ss ?_ ?_); fail "l"))
  | fail "aD")
local macro_rules | `(tactic| fail "e") => `(tactic| ((fail_if_success (with_reducible show ∃ _ : NF, _)); (fail_if_success (with_reducible show ∃ _ : PF, _)); (fail_if_success (with_reducible show ∃ _ : DF, _)); (first | with_reducible refine ⟨_, _, rfl, rfl, ?_⟩ | with_reducible refine ⟨_, rfl, ?_⟩ | with_reducible refine ⟨rfl, ?_⟩ | with_reducible refine ⟨_, _, rfl, ?_⟩ | with_reducible refine ⟨_, _, _, rfl, ?_⟩ | with_reducible refine ⟨_, _, _, _, rfl, ?_⟩ | with_reducible refine ⟨_, _, _, _, _, rfl, ?_⟩ | ((refine ⟨?l, ?_⟩); (case l => (with_reducible show _ < 1000000); fail "l")) | ((refine ⟨?l, ?_⟩); (case l => (with_reducible show _ ≤ 1000000); fail "l")))))
local macro_rules | `(tactic| fail "g") => `(tactic| ((funext gb; simp only [updG, dropG]; repeat' split) <;> first | rfl | (exfalso; simp_all; done) | (simp_all; done)))
local macro_rules | `(tactic| fail "q") => `(tactic| first | assumption | exact Ne.symm (by assumption))
local macro_rules | `(tactic| fail "h") => `(tactic| first | assumption | exact updG_same | ((rw [updG_ne]); (fail "h"); (fail "q")))
local macro_rules | `(tactic| fail "z") => `(tactic| first | rfl | exact ⟨rfl, rfl⟩ | exact ⟨_, rfl, rfl⟩ | exact ⟨_, _, rfl, rfl⟩ | exact ⟨_, _, _, rfl, rfl⟩ | assumption)
local macro_rules | `(tactic| fail "f") => `(tactic| first
  | refine ⟨_, _, rfl, .inr (.inl rfl), ?_⟩ | refine ⟨_, _, rfl, .inl rfl, ?_⟩
  | (refine ⟨_, ?ds, rfl, .inr (.inr ⟨_, rfl, ?h1⟩), ?_⟩; (case h1 => fail "h"))
  | (refine ⟨_, ?ds, rfl, .inr ⟨_, rfl, ?h1⟩, ?_⟩; (case h1 => fail "h"))
  | ((with_reducible refine ⟨_, ?ds, ?d, rfl, ?h1, ?h2, ?_⟩); (case h1 => fail "h"); (case h2 => rfl))
  | ((with_reducible refine ⟨_, ?ds, rfl, ?h1, ?_⟩); (case h1 => fail "h"))
  | ((with_reducible refine ⟨_, ?ns, ?ds, rfl, ?h1, ?h2, ?_⟩); (case h1 => fail "h"); (case h2 => decide))
  | ((with_reducible refine ⟨_, ?ns, ?ds, rfl, (?h1 : _ = some (GO.ins _ ?ns ?ds)), ?_⟩); (case h1 => fail "h"))
  | ((with_reducible refine ⟨_, rfl, ⟨?ys, ?h1⟩, ?_⟩); (case h1 => fail "h"))
  | ((with_reducible refine ⟨_, ?xs, rfl, ?h1, ?h2, ?_⟩); (case h1 => fail "h"); (case h2 => omega)))
local macro_rules | `(tactic| fail "y") => `(tactic| first
  | ((with_reducible refine ⟨fun _ => ?_, fun hbb => ?nope⟩); (case nope => first | exact Bool.noConfusion (show true = false from hbb) | exact Bool.noConfusion (show false = true from hbb) | exact absurd (of_decide_eq_true hbb) (by omega) | exact absurd (of_decide_eq_false hbb) (by omega) | (simp at hbb; done) | (simp at hbb; omega)))
  | ((with_reducible refine ⟨fun hbb => ?nope, fun _ => ?_⟩); (case nope => first | exact Bool.noConfusion (show true = false from hbb) | exact Bool.noConfusion (show false = true from hbb) | exact absurd (of_decide_eq_true hbb) (by omega) | exact absurd (of_decide_eq_false hbb) (by omega) | (simp at hbb; done) | (simp at hbb; omega))))
local macro_rules | `(tactic| fail "w") => `(tactic| repeat fail "a")
local macro_rules | `(tactic| fail "x") => `(tactic| repeat (first | fail "a" | fail "f" | fail "e" | fail "y"))

/-! ### what the desk and the parties look at -/
abbrev F_terms (K : PySem.W.Frag) : FT := F2 fun x y G Φ => ∃ g A rl, x = .obj g ∧ G g = some (gameO K A) ∧ okG A ∧ okR A rl ∧ y = .dat (.list (rl.map (enD A.length))) ∧ ∀ a b, (Ct.terms a b).ok → Φ (.dat (Ct.d (.terms a b))) G
abbrev F_is_ticket : FT := F1 fun x G Φ => ∃ a : Rt, x = .dat (rT a) ∧ a ∈ ticks ∧ Φ (.dat (.bool (decide (a ≠ (1, 1))))) G
abbrev F_is_kind (K : PySem.W.Frag) : FT := F3 fun x y z G Φ => ∃ g A, ∃ (j : Nat) (a : Ag) (v : Int), x = .obj g ∧ G g = some (gameO K A) ∧ okG A ∧ A[j]? = some a ∧ y = .dat (.int ((j : Nat) + 1)) ∧ z = .dat (.int v) ∧ Φ (.dat (.bool (decide (0 ≤ v) && decide (v < (a.2.length : Int))))) G
def pairsB (n : Nat) : By → Bool
  | .prs l => decide (l.length = n)
  | .bks _ l => decide (l.length + 1 = n)
  | _ => false
abbrev F_are_pairs (K : PySem.W.Frag) : FT := F2 fun x y G Φ => ∃ g A, ∃ b : By, x = .obj g ∧ G g = some (gameO K A) ∧ okG A ∧ y = .dat b.d ∧ b.ok ∧ Φ (.dat (.bool (pairsB A.length b))) G
abbrev F_check_round (K : PySem.W.Frag) : FT := F3 fun x y z G Φ => ∃ g A ks n c s cs sg, x = .obj g ∧ G g = some (gameO K A) ∧ okG A ∧ y = .obj n ∧ NotAt K ks n c s cs sg G ∧ ks.length = A.length + 1 ∧ z = .dat (.int 1) ∧ Φ (.dat .none) G
def StandsP (sg : List Sg) (N : Nat) (b : By) : Prop := ∃ l, b = .prs l ∧ l.length = N ∧ ∀ i p, l[i]? = some p → validB sg ((i : Nat) + 1) ("commit", .num p.1) p.2 = true
abbrev F_stands (K : PySem.W.Frag) : FT := F4 fun x y z u G Φ => ∃ g A ks n c s cs sg, ∃ b : By, x = .obj n ∧ y = .obj g ∧ G g = some (gameO K A) ∧ okG A ∧ NotAt K ks n c s cs sg G ∧ z = .dat (.int 1) ∧ u = .dat b.d ∧ b.ok ∧
  ∀ r, (r = true → StandsP sg A.length b) → Φ (.dat (.bool r)) G
/-- an open that fits the list L in the j-th place -/
structure FitsO (A : List Ag) (cs : List Ct) (L : List (Int × Int)) (j : Nat) (o : Opn) : Prop where
  k0 : 0 ≤ o.2.2.1
  k1 : ∃ a, A[j]? = some a ∧ o.2.2.1 < (a.2.length : Int)
  tk : o.2.2.2 ∈ ticks ∧ o.2.2.2 ≠ (1, 1)
  ls : ∃ i : Nat, o.1 = (i : Int) ∧ cs[i]? = some (.lst (.prs L))
  rp : ∃ q, ∃ i : Nat, L[j]? = some q ∧ q.1 = (i : Int) ∧ cs[i]? = some (.rep o.2.1 o.2.2.1 o.2.2.2)
abbrev F_open_fits (K : PySem.W.Frag) : FT := F6 fun x y z p u v G Φ => ∃ g A ks n c s cs sg, ∃ (j : Nat) (L : List (Int × Int)) (b : By), x = .obj n ∧ y = .obj g ∧ G g = some (gameO K A) ∧ okG A ∧ NotAt K ks n c s cs sg G ∧ z = .dat (.int 1) ∧ p = .dat (.int ((j : Nat) + 1)) ∧ j < A.length ∧ L.length = A.length ∧
  u = .dat (By.d (.prs L)) ∧ v = .dat b.d ∧ b.ok ∧ ∀ r, (r = true → ∃ o, b = .opn o ∧ FitsO A cs L j o) → Φ (.dat (.bool r)) G
def BookP (A : List Ag) (cs : List Ct) (sg : List Sg) (L : List (Int × Int)) (l : List (Opn × Int)) : Prop := l.length = A.length ∧ ∀ i p, l[i]? = some p → validB sg ((i : Nat) + 1) ("open", .opn p.1) p.2 = true ∧ FitsO A cs L i p.1
abbrev F_book_fits (K : PySem.W.Frag) : FT := F5 fun x y z u v G Φ => ∃ g A ks n c s cs sg, ∃ (L : List (Int × Int)) (b : By), x = .obj n ∧ y = .obj g ∧ G g = some (gameO K A) ∧ okG A ∧ NotAt K ks n c s cs sg G ∧ z = .dat (.int 1) ∧ L.length = A.length ∧
  u = .dat (By.d (.prs L)) ∧ v = .dat b.d ∧ b.ok ∧ ∀ r, (r = true → ∃ p l, b = .bks p l ∧ BookP A cs sg L (p :: l)) → Φ (.dat (.bool r)) G
def drawF (t : Rt) : List Rt → Nat → Rt → Nat → Nat
  | [], _, _, q => q
  | c :: cs, i, r, q => drawF t cs (i + 1) (addR r c) (if cmpR r t ≤ 0 then i else q)
def drawnD (lot : List Rt) (t : Rt) : Nat := drawF t lot 0 (0, 1) 0
abbrev F_drawn : FT := F2 fun x y G Φ => ∃ (lot : List Rt) (t : Rt), x = .dat (.list (lot.map rT)) ∧ y = .dat (rT t) ∧ lot ∈ lots6 ∧ Sm t ∧ 0 ≤ cmpR t (0, 1) ∧ cmpR t (1, 1) < 0 ∧ Φ (.dat (.int (drawnD lot t : Nat))) G

theorem sc_terms : FnScope ["game", "rule"] ["game", "rule"] (defScope (top 68)) := ⟨rfl, rfl, rfl, by decide +kernel, rfl, by decide +kernel, by decide +kernel⟩
theorem n_terms {P : Program} {w : World} {K : PySem.W.Frag} {mg : Str → Option Value} {base : Heap} {fd : FuncData} {dvs : List V} {kws : List (Str × V)} (e : Ev P w K mg base) (FD : FunD K "terms" "terms" (defArgs (top 68)) (defBody (top 68)) (defScope (top 68)) dvs kws (He.ga K "terms") fd) : FnOk P w K mg base CX0 3 (He.ga K "terms") fd ["game", "rule"] (spD K (F_terms K)) := by
  have S := sc_terms
  refine okD FD S (fun _ _ _ h => len2 h) fun cdv A outer s H E hr => ⟨_, (pss_one (ps_ret (pe_tup (pa_cons pe_str (pa_cons (k_cl K (o_write_game e) (hr.mono (by decide)) e.g_write_game (pa_cons (pv 0) pa_nil)) (pa_cons (k_cl K (o_write_rule e) (hr.mono (by decide)) e.g_write_rule (pa_cons (pv 0) (pa_cons (pv 1) pa_nil))) pa_nil)))))), ?_⟩
  intro ds G Φ h
  try dsimp only [cxK, blkK]
  obtain ⟨x, y, rfl, g, A, rl, rfl, hg, hA, hR, rfl, k⟩ := h
  fail "x"
  refine ⟨hA, fun a ha => ?_⟩
  fail "x"
  refine ⟨g, A, rl, rfl, hg, hA, hR, rfl, fun b hb => ?_⟩
  fail "x"
  exact k a b ⟨ha.2, hb.2⟩
theorem o_terms {P : Program} {w : World} {K : PySem.W.Frag} {mg : Str → Option Value} {base : Heap} (e : Ev P w K mg base) : OkD P w K mg base 3 (He.ga K "terms") ["game", "rule"] [] (F_terms K) := by
  obtain ⟨fd, FD⟩ := e.d_terms
  exact okN FD (n_terms e FD) fun _ _ _ _ _ _ us hl => match us, hl with | [_, _], _ => rfl
theorem tick_all : ∀ a ∈ ticks, isRat a = true ∧ Sm a ∧ decide (0 ≤ cmpR a (0, 1)) = true ∧ decide (cmpR a (1, 1) < 0) = decide (a ≠ (1, 1)) := by decide +kernel

theorem sc_is_ticket : FnScope ["value"] ["value"] (defScope (top 69)) := ⟨rfl, rfl, rfl, by decide +kernel, rfl, by decide +kernel, by decide +kernel⟩
theorem n_is_ticket {P : Program} {w : World} {K : PySem.W.Frag} {mg : Str → Option Value} {base : Heap} {fd : FuncData} {dvs : List V} {kws : List (Str × V)} (e : Ev P w K mg base) (FD : FunD K "is_ticket" "is_ticket" (defArgs (top 69)) (defBody (top 69)) (defScope (top 69)) dvs kws (He.ga K "is_ticket") fd) : FnOk P w K mg base CX0 3 (He.ga K "is_ticket") fd ["value"] (spD K F_is_ticket) := by
  have S := sc_is_ticket
  refine okD FD S (fun _ _ _ h => len1 h) fun cdv A outer s H E hr => ⟨_, (pss_one (ps_ret (pe_and (k_cl K (o_is_ratio e) (hr.mono (by decide)) e.g_is_ratio (pa_cons (pv 0) pa_nil)) (pe_and (pe_cmpR op_ge (k_cl K (o_compare e) (hr.mono (by decide)) e.g_compare (pa_cons (pv 0) (pa_cons (pe_gR e.g_ZERO) pa_nil))) pe_int (nomark _)) (pe_one (pe_cmpR op_lt (k_cl K (o_compare e) (hr.mono (by decide)) e.g_compare (pa_cons (pv 0) (pa_cons (pe_gR e.g_ONE) pa_nil))) pe_int (nomark _))))))), ?_⟩
  intro ds G Φ h
  try dsimp only [cxK, blkK]
  obtain ⟨x, rfl, a, rfl, ha, k⟩ := h
  obtain ⟨t1, t2, t3, t4⟩ := tick_all a ha
  fail "x"
  rw [t1]
  fail "x"
  refine we_gT e.t_ZERO (fun _ _ => .cons (.int 0) (.cons (.int 1) .nil)) ?_
  fail "x"
  refine ⟨a, (0, 1), rfl, rfl, t2, by decide, ?_⟩
  fail "x"
  rw [t3]
  fail "x"
  refine we_gT e.t_ONE (fun _ _ => .cons (.int 1) (.cons (.int 1) .nil)) ?_
  fail "x"
  refine ⟨a, (1, 1), rfl, rfl, t2, by decide, ?_⟩
  fail "x"
  rw [t4]
  exact k
theorem o_is_ticket {P : Program} {w : World} {K : PySem.W.Frag} {mg : Str → Option Value} {base : Heap} (e : Ev P w K mg base) : OkD P w K mg base 3 (He.ga K "is_ticket") ["value"] [] F_is_ticket := by
  obtain ⟨fd, FD⟩ := e.d_is_ticket
  exact okN FD (n_is_ticket e FD) fun _ _ _ _ _ _ us hl => match us, hl with | [_], _ => rfl
theorem sc_is_kind : FnScope ["game", "party", "value"] ["game", "party", "value"] (defScope (top 70)) := ⟨rfl, rfl, rfl, by decide +kernel, rfl, by decide +kernel, by decide +kernel⟩
theorem n_is_kind {P : Program} {w : World} {K : PySem.W.Frag} {mg : Str → Option Value} {base : Heap} {fd : FuncData} {dvs : List V} {kws : List (Str × V)} (e : Ev P w K mg base) (FD : FunD K "is_kind" "is_kind" (defArgs (top 70)) (defBody (top 70)) (defScope (top 70)) dvs kws (He.ga K "is_kind") fd) : FnOk P w K mg base CX0 2 (He.ga K "is_kind") fd ["game", "party", "value"] (spD K (F_is_kind K)) := by
  have S := sc_is_kind
  refine okD FD S (fun _ _ _ h => len3 h) fun cdv A outer s H E hr => ⟨_, (pss_one (ps_ret (pe_and (k_cl K (o_is_integer e) (hr.mono (by decide)) e.g_is_integer (pa_cons (pv 2) pa_nil)) (pe_one (pe_chain op_le op_lt pe_int (pv 2) (pe_callB (k_len K) rfl e.x_len (by decide +kernel) (pa_cons (pe_ix (k_ix K) (pe_ix (k_ix K) (k_fld K e.f_Game_agents (pv 0)) (pe_op op_sub (pv 1) pe_int) (fun _ _ => rfl)) pe_int (fun _ _ => rfl)) pa_nil))))))), ?_⟩
  intro ds G Φ h
  try dsimp only [cxK, blkK]
  obtain ⟨x, y, z, rfl, g, A, j, a, v, rfl, hg, hA, ha, rfl, rfl, k⟩ := h
  fail "x"
  refine ⟨fun hb => ?_, fun hb => ?_⟩
  · rw [hb, Bool.true_and] at k
    fail "x"
    refine dIx_l (atI_int (k := j) (by omega) (by rw [List.getElem?_map, ha]; rfl)) ?_
    fail "x"
    rw [List.length_map]
    exact k
  · rw [hb, Bool.false_and] at k
    exact k
theorem o_is_kind {P : Program} {w : World} {K : PySem.W.Frag} {mg : Str → Option Value} {base : Heap} (e : Ev P w K mg base) : OkD P w K mg base 2 (He.ga K "is_kind") ["game", "party", "value"] [] (F_is_kind K) := by
  obtain ⟨fd, FD⟩ := e.d_is_kind
  exact okN FD (n_is_kind e FD) fun _ _ _ _ _ _ us hl => match us, hl with | [_, _, _], _ => rfl
theorem sc_are_pairs : FnScope ["game", "body", "pair"] ["game", "body"] (defScope (top 71)) := ⟨rfl, rfl, rfl, by decide +kernel, rfl, by decide +kernel, by decide +kernel⟩
theorem n_are_pairs {P : Program} {w : World} {K : PySem.W.Frag} {mg : Str → Option Value} {base : Heap} {fd : FuncData} {dvs : List V} {kws : List (Str × V)} (e : Ev P w K mg base) (FD : FunD K "are_pairs" "are_pairs" (defArgs (top 71)) (defBody (top 71)) (defScope (top 71)) dvs kws (He.ga K "are_pairs") fd) : FnOk P w K mg base CX0 1 (He.ga K "are_pairs") fd ["game", "body"] (spD K (F_are_pairs K)) := by
  have S := sc_are_pairs
  refine okD FD S (fun _ _ _ h => len2 h) fun cdv A outer s H E hr => ⟨_, (pss_cons (ps_if (PW.pt (pw_or (pt_not (pt_val (k_isi K (T := "tuple") rfl e.x_isinstance rfl e.x_tuple (by decide +kernel) (pv 1)))) (pw_or1 (pt_cmpR op_ne (pe_callB (k_len K) rfl e.x_len (by decide +kernel) (pa_cons (pv 1) pa_nil)) (pe_callB (k_len K) rfl e.x_len (by decide +kernel) (pa_cons (k_fld K e.f_Game_agents (pv 0)) pa_nil)) (nomark _))))) (pss_one (ps_ret pe_bl)) pss_nil)
      (pss_one (ps_ret (pe_callB (k_all K rfl) rfl e.x_all (by decide +kernel) (pa_cons (pe_lc (own := [("pair", 2)]) rfl S.nd (k_itup K (pv 1)) (blkOk_by (by rfl)) (fun _ _ _ _ _ => (pg_name (i := 2) S.nd rfl (by first | exact Or.inl rfl | exact Or.inr rfl))) (fun _ _ _ _ _ => pts_nil) (fun _ _ _ _ _ => (pe_and (k_isi K (T := "tuple") rfl e.x_isinstance rfl e.x_tuple (by decide +kernel) (pv 2)) (pe_one (pe_cmpR op_eq (pe_callB (k_len K) rfl e.x_len (by decide +kernel) (pa_cons (pv 2) pa_nil)) pe_int (nomark _)))))) pa_nil))))), ?_⟩
  intro ds G Φ h
  try dsimp only [cxK, blkK]
  obtain ⟨x, y, rfl, g, A, b, rfl, hg, hA, rfl, hb, k⟩ := h
  have h1 := hA.n1
  have h3 := hA.n3
  have hl : ((A.map agD).length : Int) = (A.length : Int) := by rw [List.length_map]
  cases b with
  | num i =>
    fail "x"
    exact k
  | opn o =>
    fail "x"
    exact k
  | prs l =>
    have k : Φ (.dat (.bool (decide (l.length = A.length)))) G := k
    have hl2 : ((l.map prD2).length : Int) = (l.length : Int) := by rw [List.length_map]
    fail "x"
    refine ⟨fun hb2 => ?_, fun hb2 => ?_⟩
    · rw [decide_eq_false (by simp at hb2; omega)] at k
      fail "x"
      exact k
    · have e : l.length = A.length := by simp at hb2; omega
      rw [decide_eq_true e] at k
      fail "x"
      refine we_mapL (wi_tup ?_)
      fail "x"
      refine ⟨[2], Int × Int, l, prD2, fun _ => .bool true, rfl, by decide, by omega, fun a ha => ?_, ?_⟩
      · fail "x"
        fail "z"
      fail "x"
      refine ⟨_, l.map fun _ => true, rfl, .inl (by rw [bools_eq]), ?_⟩
      rw [all_true]
      exact k
  | bks p l =>
    have k : Φ (.dat (.bool (decide (l.length + 1 = A.length)))) G := k
    have hl2 : (((p :: l).map obD).length : Int) = (l.length : Int) + 1 := by rw [List.length_map, List.length_cons]; omega
    fail "x"
    refine ⟨fun hb2 => ?_, fun hb2 => ?_⟩
    · rw [decide_eq_false (by simp at hb2; omega)] at k
      fail "x"
      exact k
    · have e : l.length + 1 = A.length := by simp at hb2; omega
      rw [decide_eq_true e] at k
      fail "x"
      refine we_mapL (wi_tup ?_)
      fail "x"
      refine ⟨[2], Opn × Int, p :: l, obD, fun _ => .bool true, rfl, by decide, by rw [List.length_cons]; omega, fun a ha => ?_, ?_⟩
      · fail "x"
        fail "z"
      fail "x"
      refine ⟨_, (p :: l).map fun _ => true, rfl, .inl (by rw [bools_eq]), ?_⟩
      rw [all_true]
      exact k
theorem o_are_pairs {P : Program} {w : World} {K : PySem.W.Frag} {mg : Str → Option Value} {base : Heap} (e : Ev P w K mg base) : OkD P w K mg base 1 (He.ga K "are_pairs") ["game", "body"] [] (F_are_pairs K) := by
  obtain ⟨fd, FD⟩ := e.d_are_pairs
  exact okN FD (n_are_pairs e FD) fun _ _ _ _ _ _ us hl => match us, hl with | [_, _], _ => rfl
theorem sc_check_round : FnScope ["game", "notary", "round_number"] ["game", "notary", "round_number"] (defScope (top 75)) := ⟨rfl, rfl, rfl, by decide +kernel, rfl, by decide +kernel, by decide +kernel⟩
theorem n_check_round {P : Program} {w : World} {K : PySem.W.Frag} {mg : Str → Option Value} {base : Heap} {fd : FuncData} {dvs : List V} {kws : List (Str × V)} (e : Ev P w K mg base) (FD : FunD K "check_round" "check_round" (defArgs (top 75)) (defBody (top 75)) (defScope (top 75)) dvs kws (He.ga K "check_round") fd) : FnOk P w K mg base CX0 3 (He.ga K "check_round") fd ["game", "notary", "round_number"] (spD K (F_check_round K)) := by
  have S := sc_check_round
  refine okD FD S (fun _ _ _ h => len3 h) fun cdv A outer s H E hr => ⟨_, (pss_cons (ps_if (PW.pt (pw_or (pt_not (pt_val (k_cl K (o_is_integer e) (hr.mono (by decide)) e.g_is_integer (pa_cons (pv 2) pa_nil)))) (pw_or1 (pt_cmpR op_lt (pv 2) pe_int (nomark _))))) pss_never pss_nil)
      (pss_one (ps_if (pt_cmpR op_ne (k_pr K e.c_Notary e.p_Notary_members (o_Notary_members e) (hr.mono (by decide)) (pv 1)) (pe_op (k_add K) (pe_callB (k_len K) rfl e.x_len (by decide +kernel) (pa_cons (k_fld K e.f_Game_agents (pv 0)) pa_nil)) pe_int) (nomark _)) pss_never pss_nil))), ?_⟩
  intro ds G Φ h
  try dsimp only [cxK, blkK]
  obtain ⟨x, y, z, rfl, g, A, ks, n, c, s, cs, sg, rfl, hg, hA, rfl, N, hl, rfl, k⟩ := h
  have h1 := N.nt
  have hl2 : ((A.map agD).length : Int) = (A.length : Int) := by rw [List.length_map]
  fail "x"
  refine ⟨ks, n, c, s, cs, sg, rfl, N, ?_⟩
  fail "x"
  exact k
theorem o_check_round {P : Program} {w : World} {K : PySem.W.Frag} {mg : Str → Option Value} {base : Heap} (e : Ev P w K mg base) : OkD P w K mg base 3 (He.ga K "check_round") ["game", "notary", "round_number"] [] (F_check_round K) := by
  obtain ⟨fd, FD⟩ := e.d_check_round
  exact okN FD (n_check_round e FD) fun _ _ _ _ _ _ us hl => match us, hl with | [_, _, _], _ => rfl
end DL
/-! (De) -/
namespace DL
open PySem PySem.Spec PyProof.Rows L2

local macro_rules | `(tactic| fail "l") => `(tactic| first | exact Nat.le_of_ble_eq_true rfl | omega | (simp only [List.length_map, List.length_append, List.length_cons, List.length_nil]; omega))
local macro_rules | `(tactic| fail "aS") => `(tactic| with_reducible first | refine ws_seq ?_ | refine ws_if ?_ | refine ws_ret ?_ | refine ws_asg ?_ | refine ws_drop ?_ | refine ws_next ?_ | refine ws_retN ?_ | refine ws_fldF ?_ | refine ws_fldN ?_ | refine ws_dput ?_ | refine ws_asgT5 ?_ | refine ws_asgT4 ?_ | refine ws_asgT3 ?_)
local macro_rules | `(tactic| fail "aO") => `(tactic| with_reducible first | refine we_ix ?_ | refine we_II ?_ | refine we_IB ?_ | refine we_eq ?_ | refine we_ne ?_ | refine we_add ?_ | refine we_addG ?_ | refine we_IC ?_ | refine we_eqD ?_ | refine we_neD ?_ | refine we_inD ?_ | refine we_notInD ?_ | refine we_in ?_ | refine we_inSg ?_)
local macro_rules | `(tactic| fail "aC") => `(tactic| with_reducible first | refine we_len ?_ | refine we_lenD ?_ | refine we_all ?_ | refine we_any ?_ | refine we_int1 ?_ | refine we_strI ?_ | refine we_listOf ?_ | refine we_tupOf ?_ | refine we_sum ?_ | refine we_abs ?_ | refine we_min2 ?_ | refine we_gcd ?_)
local macro_rules | `(tactic| fail "aE") => `(tactic| first
  | ((with_reducible apply we_var); rfl)
  | with_reducible refine we_int ?_ | with_reducible refine we_str ?_ | with_reducible refine we_non ?_ | with_reducible refine we_bl ?_
  | ((with_reducible show WE _ (tOp _ _ _) _ _ _); fail "aO")
  | ((with_reducible show WE _ (tCB _ _) _ _ _); fail "aC")
  | with_reducible refine we_call ?_ | with_reducible refine we_fld ?_ | with_reducible refine we_meth' ?_ | with_reducible refine we_tup ?_ | with_reducible refine we_isi (by decide) ?_ | with_reducible refine we_lst ?_ | with_reducible refine we_lstG ?_
  | with_reducible refine we_and ?_ | with_reducible refine we_or ?_ | with_reducible refine we_not ?_ | with_reducible refine we_chainI ?_ | with_reducible refine we_isN ?_ | with_reducible refine we_notN ?_ | with_reducible refine we_append ?_ | with_reducible refine we_extend ?_ | with_reducible refine we_index ?_
  | with_reducible refine we_slL ?_ | with_reducible refine we_slT ?_ | with_reducible refine we_dget ?_ | with_reducible refine we_din ?_ | with_reducible refine we_dnotin ?_ | with_reducible refine we_dictG ?_ | with_reducible refine we_prop ?_ | with_reducible refine we_join ?_ | with_reducible refine we_neg ?_ | with_reducible refine we_lenSet ?_)
local macro_rules | `(tactic| fail "aT") => `(tactic| with_reducible first | refine wt_val ?_ | refine wt_tst ?_ | refine wt_and ?_ | refine wt_or ?_ | refine wt_not ?_ | refine wt_yes ?_)
local macro_rules | `(tactic| fail "aD") => `(tactic| with_reducible first | refine dEq_ii ?_ | refine dEq_ss ?_ | refine dEq_bb ?_ | refine dEq_nn ?_ | refine dEq_ni ?_ | refine dEq_in ?_ | refine dAdd_ii ?_ | refine dInt_i ?_ | refine dInt_b ?_ | refine dLen_l ?_ | refine dLen_t ?_)
local macro_rules | `(tactic| fail "a") => `(tactic| first
  | ((with_reducible show WE _ _ _ _ _); fail "aE")
  | ((with_reducible show WA _ _ _ _ _); (with_reducible first | refine wa_cons ?_ | refine wa_nil ?_))
  | ((with_reducible show WS _ _ _ _ _); fail "aS")
  | ((with_reducible show WT _ _ _ _ _); fail "aT")
  | ((with_reducible show WG _ _ _ _ _ _ _); first | with_reducible refine wg_name ?_ | ((with_reducible refine wg_tup ?_ ?_); rfl))
  | ((with_reducible show WGs _ _ _ _ _ _ _); (with_reducible first | refine wgs_cons ?_ | refine wgs_nil ?_))
  | ((with_reducible show WO _ _ _ _ _); (with_reducible first | refine wo_none ?_ | refine wo_some ?_))
  | ((with_reducible show dIx _ _ _ _); first | ((with_reducible apply dIx_t); rfl) | ((with_reducible apply dIx_l); rfl))
  | ((with_reducible show dAdd _ _ _ _); first | with_reducible refine dAdd_ii ?_ | ((with_reducible refine dAdd_ll ?_ ?_); fail "l") | ((with_reducible apply dAdd_ol); (fail "h"); (fail "l")) | ((with_reducible refine dAdd_tt ?_ ?_); fail "l") | ((with_reducible refine dAdd_ss ?_ ?_); fail "l"))
  | fail "aD")
local macro_rules | `(tactic| fail "e") => `(tactic| ((fail_if_success (with_reducible show ∃ _ : NF, _)); (fail_if_success (with_reducible show ∃ _ : PF, _)); (fail_if_success (with_reducible show ∃ _ : DF, _)); (first | with_reducible refine ⟨_, _, rfl, rfl, ?_⟩ | with_reducible refine ⟨_, rfl, ?_⟩ | with_reducible refine ⟨rfl, ?_⟩ | with_reducible refine ⟨_, _, rfl, ?_⟩ | with_reducible refine ⟨_, _, _, rfl, ?_⟩ | with_reducible refine ⟨_, _, _, _, rfl, ?_⟩ | with_reducible refine ⟨_, _, _, _, _, rfl, ?_⟩ | ((refine ⟨?l, ?_⟩); (case l => (with_reducible show _ < 1000000); fail "l")) | ((refine ⟨?l, ?_⟩); (case l => (with_reducible show _ ≤ 1000000); fail "l")))))
local macro_rules | `(tactic| fail "g") => `(tactic| ((funext gb; simp only [updG, dropG]; repeat' split) <;> first | rfl | (exfalso; simp_all; done) | (simp_all; done)))
local macro_rules | `(tactic| fail "q") => `(tactic| first | assumption | exact Ne.symm (by assumption))
local macro_rules | `(tactic| fail "h") => `(tactic| first | assumption | exact updG_same | ((rw [updG_ne]); (fail "h"); (fail "q")))
local macro_rules | `(tactic| fail "z") => `(tactic| first | rfl | exact ⟨rfl, rfl⟩ | exact ⟨_, rfl, rfl⟩ | exact ⟨_, _, rfl, rfl⟩ | exact ⟨_, _, _, rfl, rfl⟩ | assumption)
local macro_rules | `(tactic| fail "f") => `(tactic| first
  | refine ⟨_, _, rfl, .inr (.inl rfl), ?_⟩ | refine ⟨_, _, rfl, .inl rfl, ?_⟩
  | (refine ⟨_, ?ds, rfl, .inr (.inr ⟨_, rfl, ?h1⟩), ?_⟩; (case h1 => fail "h"))
  | (refine ⟨_, ?ds, rfl, .inr ⟨_, rfl, ?h1⟩, ?_⟩; (case h1 => fail "h"))
  | ((with_reducible refine ⟨_, ?ds, ?d, rfl, ?h1, ?h2, ?_⟩); (case h1 => fail "h"); (case h2 => rfl))
  | ((with_reducible refine ⟨_, ?ds, rfl, ?h1, ?_⟩); (case h1 => fail "h"))
  | ((with_reducible refine ⟨_, ?ns, ?ds, rfl, ?h1, ?h2, ?_⟩); (case h1 => fail "h"); (case h2 => decide))
  | ((with_reducible refine ⟨_, ?ns, ?ds, rfl, (?h1 : _ = some (GO.ins _ ?ns ?ds)), ?_⟩); (case h1 => fail "h"))
  | ((with_reducible refine ⟨_, rfl, ⟨?ys, ?h1⟩, ?_⟩); (case h1 => fail "h"))
  | ((with_reducible refine ⟨_, ?xs, rfl, ?h1, ?h2, ?_⟩); (case h1 => fail "h"); (case h2 => omega)))
local macro_rules | `(tactic| fail "y") => `(tactic| first
  | ((with_reducible refine ⟨fun _ => ?_, fun hbb => ?nope⟩); (case nope => first | exact Bool.noConfusion (show true = false from hbb) | exact Bool.noConfusion (show false = true from hbb) | exact absurd (of_decide_eq_true hbb) (by omega) | exact absurd (of_decide_eq_false hbb) (by omega) | (simp at hbb; done) | (simp at hbb; omega)))
  | ((with_reducible refine ⟨fun hbb => ?nope, fun _ => ?_⟩); (case nope => first | exact Bool.noConfusion (show true = false from hbb) | exact Bool.noConfusion (show false = true from hbb) | exact absurd (of_decide_eq_true hbb) (by omega) | exact absurd (of_decide_eq_false hbb) (by omega) | (simp at hbb; done) | (simp at hbb; omega))))
local macro_rules | `(tactic| fail "w") => `(tactic| repeat fail "a")
local macro_rules | `(tactic| fail "x") => `(tactic| repeat (first | fail "a" | fail "f" | fail "e" | fail "y"))

theorem sc_stands : FnScope ["notary", "game", "round_number", "body", "index", "pair"] ["notary", "game", "round_number", "body"] (defScope (top 72)) := ⟨rfl, rfl, rfl, by decide +kernel, rfl, by decide +kernel, by decide +kernel⟩
theorem n_stands {P : Program} {w : World} {K : PySem.W.Frag} {mg : Str → Option Value} {base : Heap} {fd : FuncData} {dvs : List V} {kws : List (Str × V)} (e : Ev P w K mg base) (FD : FunD K "stands" "stands" (defArgs (top 72)) (defBody (top 72)) (defScope (top 72)) dvs kws (He.ga K "stands") fd) : FnOk P w K mg base CX0 18 (He.ga K "stands") fd ["notary", "game", "round_number", "body"] (spD K (F_stands K)) := by
  have S := sc_stands
  refine okD FD S (fun _ _ _ h => len4 h) fun cdv A outer s H E hr => ⟨_, (pss_cons (ps_if (pt_not (pt_val (k_cl K (o_are_pairs e) (hr.mono (by decide)) e.g_are_pairs (pa_cons (pv 1) (pa_cons (pv 3) pa_nil))))) (pss_one (ps_ret pe_bl)) pss_nil)
      (pss_cons (ps_for PassesOwn.never rfl (k_enumT K rfl e.x_enumerate (pa_cons (pv 3) pa_nil)) (k_gtup K (n := 2) rfl (pgs_cons (pg_name (i := 4) S.nd rfl (by first | exact Or.inl rfl | exact Or.inr rfl)) (pgs_cons (pg_name (i := 5) S.nd rfl (by first | exact Or.inl rfl | exact Or.inr rfl)) pgs_nil))) (pss_cons (ps_if (pt_not (pt_val (k_cl K (o_is_integer e) (hr.mono (by decide)) e.g_is_integer (pa_cons (pe_ix (k_ix K) (pv 5) pe_int (fun _ _ => rfl)) pa_nil)))) (pss_one (ps_ret pe_bl)) pss_nil)
      (pss_one (ps_if (pt_not (pt_val (k_cl K (o_is_signed e) (hr.mono (by decide)) e.g_is_signed (pa_cons (pv 0) (pa_cons (pe_tup (pa_cons pe_str (pa_cons (pv 2) (pa_cons (pe_op (k_add K) (pv 4) pe_int) (pa_cons (pe_ix (k_ix K) (pv 5) pe_int (fun _ _ => rfl)) (pa_cons (pe_ix (k_ix K) (pv 5) pe_int (fun _ _ => rfl)) pa_nil)))))) pa_nil))))) (pss_one (ps_ret pe_bl)) pss_nil))))
      (pss_one (ps_ret pe_bl)))), ?_⟩
  intro ds G Φ h
  try dsimp only [cxK, blkK]
  obtain ⟨x, y, z, u, rfl, g, A, ks, n, c, s, cs, sg, b, rfl, rfl, hg, hA, N, rfl, rfl, hb, k⟩ := h
  have h3 := hA.n3
  have h1 := hA.n1
  fail "x"
  refine ⟨g, A, b, rfl, hg, hA, rfl, hb, ?_⟩
  fail "x"
  refine ⟨fun hb2 => ?_, fun hb2 => ?_⟩
  · fail "x"
    exact k false fun e => by cases e
  cases b with
  | num i => cases hb2
  | opn o => cases hb2
  | prs l =>
    have el : l.length = A.length := of_decide_eq_true (by simpa [pairsB] using hb2)
    fail "x"
    refine ws_for (wi_enumT ?_)
    fail "x"
    refine ⟨[4] ++ ([5] ++ []), fun i δ G' => ∃ y4 y5 : Option Dt, δ = [some (.obj n), some (.obj g), some (.dat (.int 1)), some (.dat (By.d (.prs l))), y4, y5] ∧ G' = G ∧ ∀ j p, j < i → l[j]? = some p → validB sg ((j : Nat) + 1) ("commit", .num p.1) p.2 = true, ⟨none, none, rfl, rfl, fun j p hj => by omega⟩, ?_, ?_⟩
    · rintro i x δ' G' hx ⟨y4, y5, rfl, rfl, hv⟩
      obtain ⟨q, hq, rfl⟩ := numD_get.mp hx
      obtain ⟨p, hp, rfl⟩ := map_get hq
      fail "x"
      refine ⟨ks, n, c, s, cs, sg, ("commit", (i : Int) + 1, .num p.1, p.2), rfl, N, rfl, ⟨show ("commit" : Str) ∈ kinds5 by decide +kernel, trivial⟩, ?_⟩
      fail "x"
      refine ⟨fun hv2 => ?_, fun hv2 => ?_⟩
      · fail "x"
        exact k false fun e => by cases e
      · fail "x"
        intro j q hj hq2
        by_cases e : j = i
        · subst e
          rw [hp] at hq2
          cases hq2
          simpa using hv2
        · exact hv j q (by omega) hq2
    · rintro δ' G' ⟨y4, y5, rfl, rfl, hv⟩
      fail "x"
      refine k true fun _ => ⟨l, rfl, el, fun i p hp => hv i p ?_ hp⟩
      rw [numD_length, List.length_map]
      exact (List.getElem?_eq_some_iff.mp hp).1
  | bks p l =>
    fail "x"
    refine ws_for (wi_enumT ?_)
    fail "x"
    refine ⟨[4] ++ ([5] ++ []), fun i δ G' => i = 0 ∧ (∃ y4 y5 : Option Dt, δ = [some (.obj n), some (.obj g), some (.dat (.int 1)), some (.dat (By.d (.bks p l))), y4, y5]) ∧ G' = G, ⟨rfl, ⟨none, none, rfl⟩, rfl⟩, ?_, ?_⟩
    · rintro i x δ' G' hx ⟨rfl, ⟨y4, y5, rfl⟩, rfl⟩
      obtain ⟨q, hq, rfl⟩ := numD_get.mp hx
      obtain ⟨p, hp, rfl⟩ := map_get hq
      fail "x"
      exact k false fun e => by cases e
    · rintro δ' G' ⟨e, _, _⟩
      rw [numD_length, List.length_map] at e
      cases e
theorem o_stands {P : Program} {w : World} {K : PySem.W.Frag} {mg : Str → Option Value} {base : Heap} (e : Ev P w K mg base) : OkD P w K mg base 18 (He.ga K "stands") ["notary", "game", "round_number", "body"] [] (F_stands K) := by
  obtain ⟨fd, FD⟩ := e.d_stands
  exact okN FD (n_stands e FD) fun _ _ _ _ _ _ us hl => match us, hl with | [_, _, _, _], _ => rfl
theorem sc_open_fits : FnScope ["notary", "game", "round_number", "party", "list_body", "body", "number", "salt", "kind", "ticket"] ["notary", "game", "round_number", "party", "list_body", "body"] (defScope (top 73)) := ⟨rfl, rfl, rfl, by decide +kernel, rfl, by decide +kernel, by decide +kernel⟩
theorem n_open_fits {P : Program} {w : World} {K : PySem.W.Frag} {mg : Str → Option Value} {base : Heap} {fd : FuncData} {dvs : List V} {kws : List (Str × V)} (e : Ev P w K mg base) (FD : FunD K "open_fits" "open_fits" (defArgs (top 73)) (defBody (top 73)) (defScope (top 73)) dvs kws (He.ga K "open_fits") fd) : FnOk P w K mg base CX0 18 (He.ga K "open_fits") fd ["notary", "game", "round_number", "party", "list_body", "body"] (spD K (F_open_fits K)) := by
  have S := sc_open_fits
  refine okD FD S (fun _ _ _ h => len6 h) fun cdv A outer s H E hr => ⟨_, (pss_cons (ps_if (PW.pt (pw_or (pt_not (pt_val (k_isi K (T := "tuple") rfl e.x_isinstance rfl e.x_tuple (by decide +kernel) (pv 5)))) (pw_or1 (pt_cmpR op_ne (pe_callB (k_len K) rfl e.x_len (by decide +kernel) (pa_cons (pv 5) pa_nil)) pe_int (nomark _))))) (pss_one (ps_ret pe_bl)) pss_nil)
      (pss_cons (ps_asg (pv 5) (k_gtup K (n := 4) rfl (pgs_cons (pg_name (i := 6) S.nd rfl (by first | exact Or.inl rfl | exact Or.inr rfl)) (pgs_cons (pg_name (i := 7) S.nd rfl (by first | exact Or.inl rfl | exact Or.inr rfl)) (pgs_cons (pg_name (i := 8) S.nd rfl (by first | exact Or.inl rfl | exact Or.inr rfl)) (pgs_cons (pg_name (i := 9) S.nd rfl (by first | exact Or.inl rfl | exact Or.inr rfl)) pgs_nil))))))
      (pss_cons (ps_if (PW.pt (pw_or (pt_not (pt_val (k_cl K (o_is_integer e) (hr.mono (by decide)) e.g_is_integer (pa_cons (pv 6) pa_nil)))) (pw_or1 (pt_not (pt_val (k_isi K (T := "str") rfl e.x_isinstance rfl e.x_str (by decide +kernel) (pv 7))))))) (pss_one (ps_ret pe_bl)) pss_nil)
      (pss_cons (ps_if (PW.pt (pw_or (pt_not (pt_val (k_cl K (o_is_kind e) (hr.mono (by decide)) e.g_is_kind (pa_cons (pv 1) (pa_cons (pv 3) (pa_cons (pv 8) pa_nil)))))) (pw_or1 (pt_not (pt_val (k_cl K (o_is_ticket e) (hr.mono (by decide)) e.g_is_ticket (pa_cons (pv 9) pa_nil))))))) (pss_one (ps_ret pe_bl)) pss_nil)
      (pss_cons (ps_if (pt_cmpR op_ne (k_me K e.c_Notary e.h_Notary_known (o_Notary_known e) (hr.mono (by decide)) (pv 0) (pa_cons (pe_tup (pa_cons pe_str (pa_cons (pv 4) pa_nil))) pa_nil)) (pv 6) (nomark _)) (pss_one (ps_ret pe_bl)) pss_nil)
      (pss_one (ps_ret (pe_cmpR op_eq (k_me K e.c_Notary e.h_Notary_known (o_Notary_known e) (hr.mono (by decide)) (pv 0) (pa_cons (pe_tup (pa_cons pe_str (pa_cons (pv 7) (pa_cons (pv 8) (pa_cons (pv 9) pa_nil))))) pa_nil)) (pe_ix (k_ix K) (pe_ix (k_ix K) (pv 4) (pe_op op_sub (pv 3) pe_int) (fun _ _ => rfl)) pe_int (fun _ _ => rfl)) (nomark _))))))))), ?_⟩
  intro ds G Φ h
  try dsimp only [cxK, blkK]
  obtain ⟨x, y, z, p, u, v, rfl, g, A, ks, n, c, s, cs, sg, j, L, b, rfl, rfl, hg, hA, N, rfl, rfl, hj, hL, rfl, rfl, hb, k⟩ := h
  have h3 := hA.n3
  have h1 := hA.n1
  have kf : Φ (.dat (.bool false)) G := k false fun e => by cases e
  cases b with
  | num i =>
    fail "x"
    exact kf
  | prs l =>
    have hl2 : l.length ≤ 3 := hb
    fail "x"
    exact kf
  | bks q l =>
    have hl2 : l.length ≤ 2 := hb.1
    fail "x"
    exact kf
  | opn o =>
    have ha : A[j]? = some A[j] := List.getElem?_eq_getElem hj
    have hLj : j < L.length := by omega
    have hq : L[j]? = some L[j] := List.getElem?_eq_getElem hLj
    have hLo : (Ct.lst (.prs L)).ok := show L.length ≤ 3 by omega
    have hRo : (Ct.rep o.2.1 o.2.2.1 o.2.2.2).ok := hb.1
    have hn := N.nt
    fail "x"
    refine ⟨g, A, j, A[j], o.2.2.1, rfl, hg, hA, ha, rfl, rfl, ?_⟩
    fail "x"
    refine ⟨fun hk => ?_, fun hk => ?_⟩
    · have hk : (decide (0 ≤ o.2.2.1) && decide (o.2.2.1 < (A[j].2.length : Int))) = true := by simpa using hk
      obtain ⟨hk0, hk1⟩ := Bool.and_eq_true_iff.mp hk
      fail "x"
      refine ⟨hb.2, ?_⟩
      fail "x"
      refine ⟨fun ht => ?_, fun ht => ?_⟩
      · fail "x"
        exact kf
      have ht : o.2.2.2 ≠ (1, 1) := by simpa using ht
      fail "x"
      refine ⟨ks, n, c, s, cs, sg, .lst (.prs L), rfl, N, rfl, hLo, ?_⟩
      unfold knownD
      by_cases hm : Ct.lst (.prs L) ∈ cs
      · rw [if_pos hm]
        fail "x"
        refine ⟨fun hi => ?_, fun hi => ?_⟩
        · fail "x"
          exact kf
        have hi : ((ix (Ct.lst (.prs L)) cs : Nat) : Int) = o.1 := by simpa using hi
        fail "x"
        refine ⟨ks, n, c, s, cs, sg, .rep o.2.1 o.2.2.1 o.2.2.2, rfl, N, rfl, hRo, ?_⟩
        fail "x"
        refine dIx_t (atI_int (k := j) (by omega) (by rw [List.getElem?_map, hq]; rfl)) ?_
        fail "x"
        unfold knownD
        by_cases hm2 : Ct.rep o.2.1 o.2.2.1 o.2.2.2 ∈ cs
        · rw [if_pos hm2]
          refine dEq_ii ?_
          refine k _ fun e => ⟨o, rfl, ⟨of_decide_eq_true hk0, ⟨A[j], ha, of_decide_eq_true hk1⟩, ⟨hb.2, ht⟩, ⟨_, hi.symm, (ix_at hm).1⟩, ⟨L[j], _, hq, (of_decide_eq_true e).symm, (ix_at hm2).1⟩⟩⟩
        · rw [if_neg hm2]
          refine dEq_ni kf
      · rw [if_neg hm]
        fail "x"
        exact kf
    · fail "x"
      exact kf
theorem o_open_fits {P : Program} {w : World} {K : PySem.W.Frag} {mg : Str → Option Value} {base : Heap} (e : Ev P w K mg base) : OkD P w K mg base 18 (He.ga K "open_fits") ["notary", "game", "round_number", "party", "list_body", "body"] [] (F_open_fits K) := by
  obtain ⟨fd, FD⟩ := e.d_open_fits
  exact okN FD (n_open_fits e FD) fun _ _ _ _ _ _ us hl => match us, hl with | [_, _, _, _, _, _], _ => rfl
theorem sc_book_fits : FnScope ["notary", "game", "round_number", "list_body", "body", "index", "pair"] ["notary", "game", "round_number", "list_body", "body"] (defScope (top 74)) := ⟨rfl, rfl, rfl, by decide +kernel, rfl, by decide +kernel, by decide +kernel⟩
theorem n_book_fits {P : Program} {w : World} {K : PySem.W.Frag} {mg : Str → Option Value} {base : Heap} {fd : FuncData} {dvs : List V} {kws : List (Str × V)} (e : Ev P w K mg base) (FD : FunD K "book_fits" "book_fits" (defArgs (top 74)) (defBody (top 74)) (defScope (top 74)) dvs kws (He.ga K "book_fits") fd) : FnOk P w K mg base CX0 19 (He.ga K "book_fits") fd ["notary", "game", "round_number", "list_body", "body"] (spD K (F_book_fits K)) := by
  have S := sc_book_fits
  refine okD FD S (fun _ _ _ h => len5 h) fun cdv A outer s H E hr => ⟨_, (pss_cons (ps_if (pt_not (pt_val (k_cl K (o_are_pairs e) (hr.mono (by decide)) e.g_are_pairs (pa_cons (pv 1) (pa_cons (pv 4) pa_nil))))) (pss_one (ps_ret pe_bl)) pss_nil)
      (pss_cons (ps_for PassesOwn.never rfl (k_enumT K rfl e.x_enumerate (pa_cons (pv 4) pa_nil)) (k_gtup K (n := 2) rfl (pgs_cons (pg_name (i := 5) S.nd rfl (by first | exact Or.inl rfl | exact Or.inr rfl)) (pgs_cons (pg_name (i := 6) S.nd rfl (by first | exact Or.inl rfl | exact Or.inr rfl)) pgs_nil))) (pss_cons (ps_if (pt_not (pt_val (k_cl K (o_is_signed e) (hr.mono (by decide)) e.g_is_signed (pa_cons (pv 0) (pa_cons (pe_tup (pa_cons pe_str (pa_cons (pv 2) (pa_cons (pe_op (k_add K) (pv 5) pe_int) (pa_cons (pe_ix (k_ix K) (pv 6) pe_int (fun _ _ => rfl)) (pa_cons (pe_ix (k_ix K) (pv 6) pe_int (fun _ _ => rfl)) pa_nil)))))) pa_nil))))) (pss_one (ps_ret pe_bl)) pss_nil)
      (pss_one (ps_if (pt_not (pt_val (k_cl K (o_open_fits e) (hr.mono (by decide)) e.g_open_fits (pa_cons (pv 0) (pa_cons (pv 1) (pa_cons (pv 2) (pa_cons (pe_op (k_add K) (pv 5) pe_int) (pa_cons (pv 3) (pa_cons (pe_ix (k_ix K) (pv 6) pe_int (fun _ _ => rfl)) pa_nil))))))))) (pss_one (ps_ret pe_bl)) pss_nil))))
      (pss_one (ps_ret pe_bl)))), ?_⟩
  intro ds G Φ h
  try dsimp only [cxK, blkK]
  obtain ⟨x, y, z, u, v, rfl, g, A, ks, n, c, s, cs, sg, L, b, rfl, rfl, hg, hA, N, rfl, hL, rfl, rfl, hb, k⟩ := h
  have h3 := hA.n3
  have h1 := hA.n1
  have kf : Φ (.dat (.bool false)) G := k false fun e => by cases e
  fail "x"
  refine ⟨g, A, b, rfl, hg, hA, rfl, hb, ?_⟩
  fail "x"
  refine ⟨fun hb2 => ?_, fun hb2 => ?_⟩
  · fail "x"
    exact kf
  cases b with
  | num i => cases hb2
  | opn o => cases hb2
  | prs l =>
    have el : l.length = A.length := of_decide_eq_true (by simpa [pairsB] using hb2)
    fail "x"
    refine ws_for (wi_enumT ?_)
    fail "x"
    refine ⟨[5] ++ ([6] ++ []), fun i δ G' => i = 0 ∧ (∃ y5 y6 : Option Dt, δ = [some (.obj n), some (.obj g), some (.dat (.int 1)), some (.dat (By.d (.prs L))), some (.dat (By.d (.prs l))), y5, y6]) ∧ G' = G, ⟨rfl, ⟨none, none, rfl⟩, rfl⟩, ?_, ?_⟩
    · rintro i x δ' G' hx ⟨rfl, ⟨y5, y6, rfl⟩, rfl⟩
      obtain ⟨q, hq, rfl⟩ := numD_get.mp hx
      obtain ⟨p, hp, rfl⟩ := map_get hq
      fail "x"
      refine ⟨ks, n, c, s, cs, sg, ("open", ((0 : Nat) : Int) + 1, .num p.1, p.2), rfl, N, rfl, ⟨show ("open" : Str) ∈ kinds5 by decide +kernel, trivial⟩, ?_⟩
      fail "x"
      refine ⟨fun hv2 => ?_, fun hv2 => ?_⟩
      · fail "x"
        exact kf
      fail "x"
      refine ⟨_, _, _, _, _, _, rfl, g, A, ks, n, c, s, cs, sg, 0, L, .num p.1, rfl, rfl, hg, hA, N, rfl, rfl, by omega, hL, rfl, rfl, trivial, fun r hr => ?_⟩
      fail "x"
      refine ⟨fun hv3 => ?_, fun hv3 => ?_⟩
      · fail "x"
        exact kf
      · obtain ⟨o, e, _⟩ := hr (by simpa using hv3)
        cases e
    · rintro δ' G' ⟨e, _, _⟩
      rw [numD_length, List.length_map] at e
      omega
  | bks p l =>
    have el : (p :: l).length = A.length := of_decide_eq_true (by simpa [pairsB] using hb2)
    have hok : ∀ q ∈ p :: l, okO q.1 := fun q hq => by
      rcases List.mem_cons.mp hq with e | hq
      · rw [e]; exact hb.2.1
      · exact hb.2.2 q hq
    fail "x"
    refine ws_for (wi_enumT ?_)
    fail "x"
    refine ⟨[5] ++ ([6] ++ []), fun i δ G' => ∃ y5 y6 : Option Dt, δ = [some (.obj n), some (.obj g), some (.dat (.int 1)), some (.dat (By.d (.prs L))), some (.dat (By.d (.bks p l))), y5, y6] ∧ G' = G ∧
      ∀ j q, j < i → (p :: l)[j]? = some q → validB sg ((j : Nat) + 1) ("open", .opn q.1) q.2 = true ∧ FitsO A cs L j q.1, ⟨none, none, rfl, rfl, fun j p hj => by omega⟩, ?_, ?_⟩
    · rintro i x δ' G' hx ⟨y5, y6, rfl, rfl, hv⟩
      obtain ⟨w, hw, rfl⟩ := numD_get.mp hx
      obtain ⟨q, hp, rfl⟩ := map_get hw
      have hi : i < A.length := by rw [← el]; exact (List.getElem?_eq_some_iff.mp hp).1
      have hqo := hok q (List.mem_of_getElem? hp)
      fail "x"
      refine ⟨ks, n, c, s, cs, sg, ("open", (i : Int) + 1, .opn q.1, q.2), rfl, N, rfl, ⟨show ("open" : Str) ∈ kinds5 by decide +kernel, hqo⟩, ?_⟩
      fail "x"
      refine ⟨fun hv2 => ?_, fun hv2 => ?_⟩
      · fail "x"
        exact kf
      fail "x"
      refine ⟨_, _, _, _, _, _, rfl, g, A, ks, n, c, s, cs, sg, i, L, .opn q.1, rfl, rfl, hg, hA, N, rfl, rfl, hi, hL, rfl, rfl, hqo, fun r hr => ?_⟩
      fail "x"
      refine ⟨fun hv3 => ?_, fun hv3 => ?_⟩
      · fail "x"
        exact kf
      · obtain ⟨o, e, hf⟩ := hr (by simpa using hv3)
        cases e
        fail "x"
        intro j q' hj hq
        by_cases e : j = i
        · subst e
          rw [hp] at hq
          cases hq
          exact ⟨by simpa using hv2, hf⟩
        · exact hv j q' (by omega) hq
    · rintro δ' G' ⟨y5, y6, rfl, rfl, hv⟩
      fail "x"
      refine k true fun _ => ⟨p, l, rfl, el, fun i q hq => hv i q ?_ hq⟩
      rw [numD_length, List.length_map]
      exact (List.getElem?_eq_some_iff.mp hq).1
theorem o_book_fits {P : Program} {w : World} {K : PySem.W.Frag} {mg : Str → Option Value} {base : Heap} (e : Ev P w K mg base) : OkD P w K mg base 19 (He.ga K "book_fits") ["notary", "game", "round_number", "list_body", "body"] [] (F_book_fits K) := by
  obtain ⟨fd, FD⟩ := e.d_book_fits
  exact okN FD (n_book_fits e FD) fun _ _ _ _ _ _ us hl => match us, hl with | [_, _, _, _, _], _ => rfl
end DL
/-! (Df) -/
namespace DL
open PySem PySem.Spec PyProof.Rows L2

local macro_rules | `(tactic| fail "l") => `(tactic| first | exact Nat.le_of_ble_eq_true rfl | omega | (simp only [List.length_map, List.length_append, List.length_cons, List.length_nil]; omega))
local macro_rules | `(tactic| fail "aS") => `(tactic| with_reducible first | refine ws_seq ?_ | refine ws_if ?_ | refine ws_ret ?_ | refine ws_asg ?_ | refine ws_drop ?_ | refine ws_next ?_ | refine ws_retN ?_ | refine ws_fldF ?_ | refine ws_fldN ?_ | refine ws_dput ?_ | refine ws_asgT5 ?_ | refine ws_asgT4 ?_ | refine ws_asgT3 ?_)
local macro_rules | `(tactic| fail "aO") => `(tactic| with_reducible first | refine we_ix ?_ | refine we_II ?_ | refine we_IB ?_ | refine we_eq ?_ | refine we_ne ?_ | refine we_add ?_ | refine we_addG ?_ | refine we_IC ?_ | refine we_eqD ?_ | refine we_neD ?_ | refine we_inD ?_ | refine we_notInD ?_ | refine we_in ?_ | refine we_inSg ?_)
local macro_rules | `(tactic| fail "aC") => `(tactic| with_reducible first | refine we_len ?_ | refine we_lenD ?_ | refine we_all ?_ | refine we_any ?_ | refine we_int1 ?_ | refine we_strI ?_ | refine we_listOf ?_ | refine we_tupOf ?_ | refine we_sum ?_ | refine we_abs ?_ | refine we_min2 ?_ | refine we_gcd ?_)
local macro_rules | `(tactic| fail "aE") => `(tactic| first
  | ((with_reducible apply we_var); rfl)
  | with_reducible refine we_int ?_ | with_reducible refine we_str ?_ | with_reducible refine we_non ?_ | with_reducible refine we_bl ?_
  | ((with_reducible show WE _ (tOp _ _ _) _ _ _); fail "aO")
  | ((with_reducible show WE _ (tCB _ _) _ _ _); fail "aC")
  | with_reducible refine we_call ?_ | with_reducible refine we_fld ?_ | with_reducible refine we_meth' ?_ | with_reducible refine we_tup ?_ | with_reducible refine we_isi (by decide) ?_ | with_reducible refine we_lst ?_ | with_reducible refine we_lstG ?_
  | with_reducible refine we_and ?_ | with_reducible refine we_or ?_ | with_reducible refine we_not ?_ | with_reducible refine we_chainI ?_ | with_reducible refine we_isN ?_ | with_reducible refine we_notN ?_ | with_reducible refine we_append ?_ | with_reducible refine we_extend ?_ | with_reducible refine we_index ?_
  | with_reducible refine we_slL ?_ | with_reducible refine we_slT ?_ | with_reducible refine we_dget ?_ | with_reducible refine we_din ?_ | with_reducible refine we_dnotin ?_ | with_reducible refine we_dictG ?_ | with_reducible refine we_prop ?_ | with_reducible refine we_join ?_ | with_reducible refine we_neg ?_ | with_reducible refine we_lenSet ?_)
local macro_rules | `(tactic| fail "aT") => `(tactic| with_reducible first | refine wt_val ?_ | refine wt_tst ?_ | refine wt_and ?_ | refine wt_or ?_ | refine wt_not ?_ | refine wt_yes ?_)
local macro_rules | `(tactic| fail "aD") => `(tactic| with_reducible first | refine dEq_ii ?_ | refine dEq_ss ?_ | refine dEq_bb ?_ | refine dEq_nn ?_ | refine dEq_ni ?_ | refine dEq_in ?_ | refine dAdd_ii ?_ | refine dInt_i ?_ | refine dInt_b ?_ | refine dLen_l ?_ | refine dLen_t ?_)
local macro_rules | `(tactic| fail "a") => `(tactic| first
  | ((with_reducible show WE _ _ _ _ _); fail "aE")
  | ((with_reducible show WA _ _ _ _ _); (with_reducible first | refine wa_cons ?_ | refine wa_nil ?_))
  | ((with_reducible show WS _ _ _ _ _); fail "aS")
  | ((with_reducible show WT _ _ _ _ _); fail "aT")
  | ((with_reducible show WG _ _ _ _ _ _ _); first | with_reducible refine wg_name ?_ | ((with_reducible refine wg_tup ?_ ?_); rfl))
  | ((with_reducible show WGs _ _ _ _ _ _ _); (with_reducible first | refine wgs_cons ?_ | refine wgs_nil ?_))
  | ((with_reducible show WO _ _ _ _ _); (with_reducible first | refine wo_none ?_ | refine wo_some ?_))
  | ((with_reducible show dIx _ _ _ _); first | ((with_reducible apply dIx_t); rfl) | ((with_reducible apply dIx_l); rfl))
  | ((with_reducible show dAdd _ _ _ _); first | with_reducible refine dAdd_ii ?_ | ((with_reducible refine dAdd_ll ?_ ?_); fail "l") | ((with_reducible apply dAdd_ol); (fail "h"); (fail "l")) | ((with_reducible refine dAdd_tt ?_ ?_); fail "l") | ((with_reducible refine dAdd_ss ?_ ?_); fail "l"))
  | fail "aD")
local macro_rules | `(tactic| fail "e") => `(tactic| ((fail_if_success (with_reducible show ∃ _ : NF, _)); (fail_if_success (with_reducible show ∃ _ : PF, _)); (fail_if_success (with_reducible show ∃ _ : DF, _)); (first | with_reducible refine ⟨_, _, rfl, rfl, ?_⟩ | with_reducible refine ⟨_, rfl, ?_⟩ | with_reducible refine ⟨rfl, ?_⟩ | with_reducible refine ⟨_, _, rfl, ?_⟩ | with_reducible refine ⟨_, _, _, rfl, ?_⟩ | with_reducible refine ⟨_, _, _, _, rfl, ?_⟩ | with_reducible refine ⟨_, _, _, _, _, rfl, ?_⟩ | ((refine ⟨?l, ?_⟩); (case l => (with_reducible show _ < 1000000); fail "l")) | ((refine ⟨?l, ?_⟩); (case l => (with_reducible show _ ≤ 1000000); fail "l")))))
local macro_rules | `(tactic| fail "g") => `(tactic| ((funext gb; simp only [updG, dropG]; repeat' split) <;> first | rfl | (exfalso; simp_all; done) | (simp_all; done)))
local macro_rules | `(tactic| fail "q") => `(tactic| first | assumption | exact Ne.symm (by assumption))
local macro_rules | `(tactic| fail "h") => `(tactic| first | assumption | exact updG_same | ((rw [updG_ne]); (fail "h"); (fail "q")))
local macro_rules | `(tactic| fail "z") => `(tactic| first | rfl | exact ⟨rfl, rfl⟩ | exact ⟨_, rfl, rfl⟩ | exact ⟨_, _, rfl, rfl⟩ | exact ⟨_, _, _, rfl, rfl⟩ | assumption)
local macro_rules | `(tactic| fail "f") => `(tactic| first
  | refine ⟨_, _, rfl, .inr (.inl rfl), ?_⟩ | refine ⟨_, _, rfl, .inl rfl, ?_⟩
  | (refine ⟨_, ?ds, rfl, .inr (.inr ⟨_, rfl, ?h1⟩), ?_⟩; (case h1 => fail "h"))
  | (refine ⟨_, ?ds, rfl, .inr ⟨_, rfl, ?h1⟩, ?_⟩; (case h1 => fail "h"))
  | ((with_reducible refine ⟨_, ?ds, ?d, rfl, ?h1, ?h2, ?_⟩); (case h1 => fail "h"); (case h2 => rfl))
  | ((with_reducible refine ⟨_, ?ds, rfl, ?h1, ?_⟩); (case h1 => fail "h"))
  | ((with_reducible refine ⟨_, ?ns, ?ds, rfl, ?h1, ?h2, ?_⟩); (case h1 => fail "h"); (case h2 => decide))
  | ((with_reducible refine ⟨_, ?ns, ?ds, rfl, (?h1 : _ = some (GO.ins _ ?ns ?ds)), ?_⟩); (case h1 => fail "h"))
  | ((with_reducible refine ⟨_, rfl, ⟨?ys, ?h1⟩, ?_⟩); (case h1 => fail "h"))
  | ((with_reducible refine ⟨_, ?xs, rfl, ?h1, ?h2, ?_⟩); (case h1 => fail "h"); (case h2 => omega)))
local macro_rules | `(tactic| fail "y") => `(tactic| first
  | ((with_reducible refine ⟨fun _ => ?_, fun hbb => ?nope⟩); (case nope => first | exact Bool.noConfusion (show true = false from hbb) | exact Bool.noConfusion (show false = true from hbb) | exact absurd (of_decide_eq_true hbb) (by omega) | exact absurd (of_decide_eq_false hbb) (by omega) | (simp at hbb; done) | (simp at hbb; omega)))
  | ((with_reducible refine ⟨fun hbb => ?nope, fun _ => ?_⟩); (case nope => first | exact Bool.noConfusion (show true = false from hbb) | exact Bool.noConfusion (show false = true from hbb) | exact absurd (of_decide_eq_true hbb) (by omega) | exact absurd (of_decide_eq_false hbb) (by omega) | (simp at hbb; done) | (simp at hbb; omega))))
local macro_rules | `(tactic| fail "w") => `(tactic| repeat fail "a")
local macro_rules | `(tactic| fail "x") => `(tactic| repeat (first | fail "a" | fail "f" | fail "e" | fail "y"))

theorem lots_all : ∀ l ∈ lots6, l.length = 3 ∧ smSum (0, 1) l ∧ l.foldl addR (0, 1) = (1, 1) ∧ ∀ c ∈ l, Sm c ∧ ¬ (cmpR c (0, 1) < 0) := by decide +kernel
theorem rT_shaped (a : Rt) : SeqAt.shaped (rT a) = true := cok_shaped (n := 1) (cok_mk (Nat.le_of_ble_eq_true rfl) fun x hx => by
  simp only [List.mem_cons, List.not_mem_nil, or_false] at hx
  rcases hx with rfl | rfl <;> exact cok_int) (by decide)

theorem sc_drawn : FnScope ["lot", "ticket", "reached", "result", "index", "chance"] ["lot", "ticket"] (defScope (top 78)) := ⟨rfl, rfl, rfl, by decide +kernel, rfl, by decide +kernel, by decide +kernel⟩
theorem n_drawn {P : Program} {w : World} {K : PySem.W.Frag} {mg : Str → Option Value} {base : Heap} {fd : FuncData} {dvs : List V} {kws : List (Str × V)} (e : Ev P w K mg base) (FD : FunD K "drawn" "drawn" (defArgs (top 78)) (defBody (top 78)) (defScope (top 78)) dvs kws (He.ga K "drawn") fd) : FnOk P w K mg base CX0 4 (He.ga K "drawn") fd ["lot", "ticket"] (spD K F_drawn) := by
  have S := sc_drawn
  refine okD FD S (fun _ _ _ h => len2 h) fun cdv A outer s H E hr => ⟨_, (pss_cons (ps_if (PW.pt (pw_or (pt_cmpR op_eq (pe_callB (k_len K) rfl e.x_len (by decide +kernel) (pa_cons (pv 0) pa_nil)) pe_int (nomark _)) (pw_or (pt_val (pe_callB (k_any K rfl) rfl e.x_any (by decide +kernel) (pa_cons (pe_lc (own := [("chance", 5)]) rfl S.nd (k_ilist K (pv 0)) (blkOk_by (by rfl)) (fun _ _ _ _ _ => (pg_name (i := 5) S.nd rfl (by first | exact Or.inl rfl | exact Or.inr rfl))) (fun _ _ _ _ _ => pts_nil) (fun _ _ _ _ _ => (pe_cmpR op_lt (k_cl K (o_sign e) (hr.mono (by decide)) e.g_sign (pa_cons (pv 5) pa_nil)) pe_int (nomark _)))) pa_nil))) (pw_or1 (pt_cmpR (k_neD K hr) (k_cl K (o_total e) (hr.mono (by decide)) e.g_total (pa_cons (pv 0) pa_nil)) (pe_gR e.g_ONE) (nomark _)))))) pss_never pss_nil)
      (pss_cons (ps_if (PW.pt (pw_or (pt_cmpR op_lt (k_cl K (o_sign e) (hr.mono (by decide)) e.g_sign (pa_cons (pv 1) pa_nil)) pe_int (nomark _)) (pw_or1 (pt_cmpR op_ge (k_cl K (o_compare e) (hr.mono (by decide)) e.g_compare (pa_cons (pv 1) (pa_cons (pe_gR e.g_ONE) pa_nil))) pe_int (nomark _))))) pss_never pss_nil)
      (pss_cons (ps_set (i := 2) S.nd rfl (by first | exact Or.inl rfl | exact Or.inr rfl) (pe_gR e.g_ZERO))
      (pss_cons (ps_set (i := 3) S.nd rfl (by first | exact Or.inl rfl | exact Or.inr rfl) pe_int)
      (pss_cons (ps_for PassesOwn.never rfl (k_enum K rfl e.x_enumerate (pa_cons (pv 0) pa_nil)) (k_gtup K (n := 2) rfl (pgs_cons (pg_name (i := 4) S.nd rfl (by first | exact Or.inl rfl | exact Or.inr rfl)) (pgs_cons (pg_name (i := 5) S.nd rfl (by first | exact Or.inl rfl | exact Or.inr rfl)) pgs_nil))) (pss_cons (ps_if (pt_cmpR op_le (k_cl K (o_compare e) (hr.mono (by decide)) e.g_compare (pa_cons (pv 2) (pa_cons (pv 1) pa_nil))) pe_int (nomark _)) (pss_one (ps_set (i := 3) S.nd rfl (by first | exact Or.inl rfl | exact Or.inr rfl) (pv 4))) pss_nil)
      (pss_one (ps_set (i := 2) S.nd rfl (by first | exact Or.inl rfl | exact Or.inr rfl) (k_cl K (o_add e) (hr.mono (by decide)) e.g_add (pa_cons (pv 2) (pa_cons (pv 5) pa_nil)))))))
      (pss_one (ps_ret (pv 3)))))))), ?_⟩
  intro ds G Φ h
  try dsimp only [cxK, blkK]
  obtain ⟨x, y, rfl, lot, t, rfl, rfl, hlo, ht, t0, t1, k⟩ := h
  obtain ⟨l3, lsm, lone, lc⟩ := lots_all lot hlo
  have hl : ((lot.map rT).length : Int) = 3 := by rw [List.length_map, l3]; rfl
  fail "x"
  refine we_mapL (wi_list ?_)
  fail "x"
  refine ⟨[5], Rt, lot, rT, fun _ => .bool false, rfl, by decide, by omega, fun a ha => ?_, ?_⟩
  · obtain ⟨c1, c2⟩ := lc a ha
    fail "x"
    refine ⟨c1, ?_⟩
    fail "x"
    rw [decide_eq_false c2]
    exact ⟨rfl, rfl⟩
  fail "x"
  refine ⟨_, lot.map fun _ => false, rfl, .inl (by rw [bools_eq]), ?_⟩
  rw [any_false]
  fail "x"
  refine ⟨lsm, ?_⟩
  rw [lone]
  refine we_gT e.t_ONE (fun _ _ => .cons (.int 1) (.cons (.int 1) .nil)) ?_
  fail "x"
  refine ⟨ht, ?_⟩
  fail "x"
  refine we_gT e.t_ONE (fun _ _ => .cons (.int 1) (.cons (.int 1) .nil)) ?_
  fail "x"
  refine ⟨t, (1, 1), rfl, rfl, ht, by decide, ?_⟩
  fail "x"
  refine we_gT e.t_ZERO (fun _ _ => .cons (.int 0) (.cons (.int 1) .nil)) ?_
  fail "x"
  refine ws_for (wi_enum ?_)
  fail "x"
  refine ⟨[4] ++ ([5] ++ []), fun i δ G' => ∃ (r : Rt) (q : Nat) (y4 y5 : Option Dt), δ = [some (.dat (.list (lot.map rT))), some (.dat (rT t)), some (.dat (rT r)), some (.dat (.int (q : Nat))), y4, y5] ∧ G' = G ∧ r = (lot.take i).foldl addR (0, 1) ∧ drawF t (lot.drop i) i r q = drawnD lot t, ⟨(0, 1), 0, none, none, rfl, rfl, rfl, rfl⟩, ?_, ?_⟩
  · rintro i x δ' G' hx ⟨r, q, y4, y5, rfl, rfl, er, hd⟩
    obtain ⟨w, hw, rfl⟩ := numD_get.mp hx
    obtain ⟨ch, hc, rfl⟩ := map_get hw
    obtain ⟨s1, s2⟩ := smSum_at lsm hc
    rw [← er] at s1
    have ed : lot.drop i = ch :: lot.drop (i + 1) := by
      obtain ⟨hi, e⟩ := List.getElem?_eq_some_iff.mp hc
      rw [List.drop_eq_getElem_cons hi, e]
    rw [ed] at hd
    fail "x"
    refine ⟨s1, ht, ?_⟩
    fail "x"
    have ef : (lot.take (i + 1)).foldl addR (0, 1) = addR r ch := by rw [take_at hc, List.foldl_append, ← er]; rfl
    refine ⟨fun hb => ?_, fun hb => ?_⟩
    · fail "x"
      refine ⟨s1, s2, addR r ch, i, some (.dat (.int (i : Nat))), some (.dat (rT ch)), rfl, rfl, ef.symm, ?_⟩
      rw [← hd]
      show _ = drawF t (lot.drop (i + 1)) (i + 1) (addR r ch) (if cmpR r t ≤ 0 then i else q)
      rw [if_pos (of_decide_eq_true hb)]
    · fail "x"
      refine ⟨s1, s2, addR r ch, q, some (.dat (.int (i : Nat))), some (.dat (rT ch)), rfl, rfl, ef.symm, ?_⟩
      rw [← hd]
      show _ = drawF t (lot.drop (i + 1)) (i + 1) (addR r ch) (if cmpR r t ≤ 0 then i else q)
      rw [if_neg (of_decide_eq_false hb)]
  · rintro δ' G' ⟨r, q, y4, y5, rfl, rfl, er, hd⟩
    rw [numD_length, List.length_map, List.drop_length] at hd
    fail "x"
    have hd : q = drawnD lot t := hd
    rw [hd]
    exact k
theorem o_drawn {P : Program} {w : World} {K : PySem.W.Frag} {mg : Str → Option Value} {base : Heap} (e : Ev P w K mg base) : OkD P w K mg base 4 (He.ga K "drawn") ["lot", "ticket"] [] F_drawn := by
  obtain ⟨fd, FD⟩ := e.d_drawn
  exact okN FD (n_drawn e FD) fun _ _ _ _ _ _ us hl => match us, hl with | [_, _], _ => rfl
end DL
/-! (Pa) -/
namespace DL
open PySem PySem.Spec PyProof.Rows L2

local macro_rules | `(tactic| fail "l") => `(tactic| first | exact Nat.le_of_ble_eq_true rfl | omega | (simp only [List.length_map, List.length_append, List.length_cons, List.length_nil]; omega))
local macro_rules | `(tactic| fail "aS") => `(tactic| with_reducible first | refine ws_seq ?_ | refine ws_if ?_ | refine ws_ret ?_ | refine ws_asg ?_ | refine ws_drop ?_ | refine ws_next ?_ | refine ws_retN ?_ | refine ws_fldF ?_ | refine ws_fldN ?_ | refine ws_dput ?_ | refine ws_asgT5 ?_ | refine ws_asgT4 ?_ | refine ws_asgT3 ?_)
local macro_rules | `(tactic| fail "aO") => `(tactic| with_reducible first | refine we_ix ?_ | refine we_II ?_ | refine we_IB ?_ | refine we_eq ?_ | refine we_ne ?_ | refine we_add ?_ | refine we_addG ?_ | refine we_IC ?_ | refine we_eqD ?_ | refine we_neD ?_ | refine we_inD ?_ | refine we_notInD ?_ | refine we_in ?_ | refine we_inSg ?_)
local macro_rules | `(tactic| fail "aC") => `(tactic| with_reducible first | refine we_len ?_ | refine we_lenD ?_ | refine we_all ?_ | refine we_any ?_ | refine we_int1 ?_ | refine we_strI ?_ | refine we_listOf ?_ | refine we_tupOf ?_ | refine we_sum ?_ | refine we_abs ?_ | refine we_min2 ?_ | refine we_gcd ?_)
local macro_rules | `(tactic| fail "aE") => `(tactic| first
  | ((with_reducible apply we_var); rfl)
  | with_reducible refine we_int ?_ | with_reducible refine we_str ?_ | with_reducible refine we_non ?_ | with_reducible refine we_bl ?_
  | ((with_reducible show WE _ (tOp _ _ _) _ _ _); fail "aO")
  | ((with_reducible show WE _ (tCB _ _) _ _ _); fail "aC")
  | with_reducible refine we_call ?_ | with_reducible refine we_fld ?_ | with_reducible refine we_meth' ?_ | with_reducible refine we_tup ?_ | with_reducible refine we_isi (by decide) ?_ | with_reducible refine we_lst ?_ | with_reducible refine we_lstG ?_
  | with_reducible refine we_and ?_ | with_reducible refine we_or ?_ | with_reducible refine we_not ?_ | with_reducible refine we_chainI ?_ | with_reducible refine we_isN ?_ | with_reducible refine we_notN ?_ | with_reducible refine we_append ?_ | with_reducible refine we_extend ?_ | with_reducible refine we_index ?_
  | with_reducible refine we_slL ?_ | with_reducible refine we_slT ?_ | with_reducible refine we_dget ?_ | with_reducible refine we_din ?_ | with_reducible refine we_dnotin ?_ | with_reducible refine we_dictG ?_ | with_reducible refine we_prop ?_ | with_reducible refine we_join ?_ | with_reducible refine we_neg ?_ | with_reducible refine we_lenSet ?_)
local macro_rules | `(tactic| fail "aT") => `(tactic| with_reducible first | refine wt_val ?_ | refine wt_tst ?_ | refine wt_and ?_ | refine wt_or ?_ | refine wt_not ?_ | refine wt_yes ?_)
local macro_rules | `(tactic| fail "aD") => `(tactic| with_reducible first | refine dEq_ii ?_ | refine dEq_ss ?_ | refine dEq_bb ?_ | refine dEq_nn ?_ | refine dEq_ni ?_ | refine dEq_in ?_ | refine dAdd_ii ?_ | refine dInt_i ?_ | refine dInt_b ?_ | refine dLen_l ?_ | refine dLen_t ?_)
local macro_rules | `(tactic| fail "a") => `(tactic| first
  | ((with_reducible show WE _ _ _ _ _); fail "aE")
  | ((with_reducible show WA _ _ _ _ _); (with_reducible first | refine wa_cons ?_ | refine wa_nil ?_))
  | ((with_reducible show WS _ _ _ _ _); fail "aS")
  | ((with_reducible show WT _ _ _ _ _); fail "aT")
  | ((with_reducible show WG _ _ _ _ _ _ _); first | with_reducible refine wg_name ?_ | ((with_reducible refine wg_tup ?_ ?_); rfl))
  | ((with_reducible show WGs _ _ _ _ _ _ _); (with_reducible first | refine wgs_cons ?_ | refine wgs_nil ?_))
  | ((with_reducible show WO _ _ _ _ _); (with_reducible first | refine wo_none ?_ | refine wo_some ?_))
  | ((with_reducible show dIx _ _ _ _); first | ((with_reducible apply dIx_t); rfl) | ((with_reducible apply dIx_l); rfl))
  | ((with_reducible show dAdd _ _ _ _); first | with_reducible refine dAdd_ii ?_ | ((with_reducible refine dAdd_ll ?_ ?_); fail "l") | ((with_reducible apply dAdd_ol); (fail "h"); (fail "l")) | ((with_reducible refine dAdd_tt ?_ ?_); fail "l") | ((with_reducible refine dAdd_ss ?_ ?_); fail "l"))
  | fail "aD")
local macro_rules | `(tactic| fail "e") => `(tactic| ((fail_if_success (with_reducible show ∃ _ : NF, _)); (fail_if_success (with_reducible show ∃ _ : PF, _)); (fail_if_success (with_reducible show ∃ _ : DF, _)); (first | with_reducible refine ⟨_, _, rfl, rfl, ?_⟩ | with_reducible refine ⟨_, rfl, ?_⟩ | with_reducible refine ⟨rfl, ?_⟩ | with_reducible refine ⟨_, _, rfl, ?_⟩ | with_reducible refine ⟨_, _, _, rfl, ?_⟩ | with_reducible refine ⟨_, _, _, _, rfl, ?_⟩ | with_reducible refine ⟨_, _, _, _, _, rfl, ?_⟩ | ((refine ⟨?l, ?_⟩); (case l => (with_reducible show _ < 1000000); fail "l")) | ((refine ⟨?l, ?_⟩); (case l => (with_reducible show _ ≤ 1000000); fail "l")))))
local macro_rules | `(tactic| fail "g") => `(tactic| ((funext gb; simp only [updG, dropG]; repeat' split) <;> first | rfl | (exfalso; simp_all; done) | (simp_all; done)))
local macro_rules | `(tactic| fail "q") => `(tactic| first | assumption | exact Ne.symm (by assumption))
local macro_rules | `(tactic| fail "h") => `(tactic| first | assumption | exact updG_same | ((rw [updG_ne]); (fail "h"); (fail "q")))
local macro_rules | `(tactic| fail "z") => `(tactic| first | rfl | exact ⟨rfl, rfl⟩ | exact ⟨_, rfl, rfl⟩ | exact ⟨_, _, rfl, rfl⟩ | exact ⟨_, _, _, rfl, rfl⟩ | assumption)
local macro_rules | `(tactic| fail "f") => `(tactic| first
  | refine ⟨_, _, rfl, .inr (.inl rfl), ?_⟩ | refine ⟨_, _, rfl, .inl rfl, ?_⟩
  | (refine ⟨_, ?ds, rfl, .inr (.inr ⟨_, rfl, ?h1⟩), ?_⟩; (case h1 => fail "h"))
  | (refine ⟨_, ?ds, rfl, .inr ⟨_, rfl, ?h1⟩, ?_⟩; (case h1 => fail "h"))
  | ((with_reducible refine ⟨_, ?ds, ?d, rfl, ?h1, ?h2, ?_⟩); (case h1 => fail "h"); (case h2 => rfl))
  | ((with_reducible refine ⟨_, ?ds, rfl, ?h1, ?_⟩); (case h1 => fail "h"))
  | ((with_reducible refine ⟨_, ?ns, ?ds, rfl, ?h1, ?h2, ?_⟩); (case h1 => fail "h"); (case h2 => decide))
  | ((with_reducible refine ⟨_, ?ns, ?ds, rfl, (?h1 : _ = some (GO.ins _ ?ns ?ds)), ?_⟩); (case h1 => fail "h"))
  | ((with_reducible refine ⟨_, rfl, ⟨?ys, ?h1⟩, ?_⟩); (case h1 => fail "h"))
  | ((with_reducible refine ⟨_, ?xs, rfl, ?h1, ?h2, ?_⟩); (case h1 => fail "h"); (case h2 => omega)))
local macro_rules | `(tactic| fail "y") => `(tactic| first
  | ((with_reducible refine ⟨fun _ => ?_, fun hbb => ?nope⟩); (case nope => first | exact Bool.noConfusion (show true = false from hbb) | exact Bool.noConfusion (show false = true from hbb) | exact absurd (of_decide_eq_true hbb) (by omega) | exact absurd (of_decide_eq_false hbb) (by omega) | (simp at hbb; done) | (simp at hbb; omega)))
  | ((with_reducible refine ⟨fun hbb => ?nope, fun _ => ?_⟩); (case nope => first | exact Bool.noConfusion (show true = false from hbb) | exact Bool.noConfusion (show false = true from hbb) | exact absurd (of_decide_eq_true hbb) (by omega) | exact absurd (of_decide_eq_false hbb) (by omega) | (simp at hbb; done) | (simp at hbb; omega))))
local macro_rules | `(tactic| fail "w") => `(tactic| repeat fail "a")
local macro_rules | `(tactic| fail "x") => `(tactic| repeat (first | fail "a" | fail "f" | fail "e" | fail "y"))

/-! ### a party -/
structure PSt where
  tn : Int
  com : Option (Int × Int)
  lb : Option (List (Int × Int))
  bb : Option ((Opn × Int) × List (Opn × Int))
  kept : List Lt
/-- what does not change -/
structure PF where
  A : List Ag
  rl : List (List Rt)
  ks : List Str
  g : Addr
  n : Addr
  c : Addr
  s : Addr
  p : Addr
  kp : Addr
  m : Nat
  key : Str
  salt : Str
  kd : Int
  tk : Rt
abbrev PF.rep (f : PF) : Ct := .rep f.salt f.kd f.tk
def comD (m : Nat) : Option (Int × Int) → PyData
  | none => .none
  | some q => ltD ("commit", (m : Int), .num q.1, q.2)
def lbD : Option (List (Int × Int)) → PyData
  | none => .none
  | some L => By.d (.prs L)
def bbD : Option ((Opn × Int) × List (Opn × Int)) → PyData
  | none => .none
  | some q => By.d (.bks q.1 q.2)
abbrev ruleD (n : Nat) (rl : List (List Rt)) : PyData := .list (rl.map (enD n))
abbrev partyO (K : PySem.W.Frag) (f : PF) (st : PSt) : GO := .ins (He.ga K "Party") ns_Party [.obj f.g, .dat (ruleD f.A.length f.rl), .obj f.n, .dat (.str f.key), .dat (.int 1), .dat (.int (f.m : Nat)), .dat (Ct.d f.rep), .dat (.int st.tn), .dat (comD f.m st.com), .dat (lbD st.lb), .dat (bbD st.bb), .obj f.kp]
structure POk (f : PF) : Prop where
  okA : okG f.A
  okR : okR f.A f.rl
  key : f.ks[f.m]? = some f.key
  klen : f.ks.length = f.A.length + 1
  m1 : 1 ≤ f.m
  m2 : f.m ≤ f.A.length
  salt : PyData.strOk f.salt = true
  tk : f.tk ∈ ticks
structure PAt (K : PySem.W.Frag) (f : PF) (cs : List Ct) (sg : List Sg) (st : PSt) (G : GH) : Prop where
  gm : G f.g = some (gameO K f.A)
  N : NotAt K f.ks f.n f.c f.s cs sg G
  pt : G f.p = some (partyO K f st)
  kp : G f.kp = some (.lst (st.kept.map ltD))
  cs_ : f.c ≠ f.s
  kc : f.kp ≠ f.c
  ks_ : f.kp ≠ f.s
  kok : ∀ l ∈ st.kept, okL l
section
variable {K : PySem.W.Frag} {f : PF} {cs cs' : List Ct} {sg sg' : List Sg} {st st' : PSt} {G : GH}
theorem NotAt.setC {ks : List Str} {n c s : Addr} (N : NotAt K ks n c s cs sg G) (cs_ : c ≠ s) (h : ∀ x ∈ cs', x.ok) : NotAt K ks n c s cs' sg (updG G c (.lst (cs'.map Ct.d))) :=
  ⟨by rw [updG_ne (neG N.nt N.hc (by intro z; cases z))]; exact N.nt, updG_same, by rw [updG_ne cs_.symm]; exact N.hs, h, N.oks⟩
theorem NotAt.setS {ks : List Str} {n c s : Addr} (N : NotAt K ks n c s cs sg G) (cs_ : c ≠ s) (h : ∀ x ∈ sg', okS x) : NotAt K ks n c s cs sg' (updG G s (.lst (sg'.map sgD))) :=
  ⟨by rw [updG_ne (neG N.nt N.hs (by intro z; cases z))]; exact N.nt, by rw [updG_ne cs_]; exact N.hc, updG_same, N.okc, h⟩
theorem NotAt.other {ks : List Str} {n c s a : Addr} {o : GO} (N : NotAt K ks n c s cs sg G) (h1 : n ≠ a) (h2 : c ≠ a) (h3 : s ≠ a) : NotAt K ks n c s cs sg (updG G a o) :=
  ⟨by rw [updG_ne h1]; exact N.nt, by rw [updG_ne h2]; exact N.hc, by rw [updG_ne h3]; exact N.hs, N.okc, N.oks⟩
theorem ins_ne {C D : Addr} {ns ms : List Str} {ds es : List Dt} (h : ns ≠ ms) : GO.ins C ns ds ≠ GO.ins D ms es := fun z => by cases z; exact h rfl
theorem PAt.setC (a : PAt K f cs sg st G) (h : ∀ x ∈ cs', x.ok) : PAt K f cs' sg st (updG G f.c (.lst (cs'.map Ct.d))) :=
  ⟨by rw [updG_ne (neG a.gm a.N.hc (by intro z; cases z))]; exact a.gm, a.N.setC a.cs_ h, by rw [updG_ne (neG a.pt a.N.hc (by intro z; cases z))]; exact a.pt, by rw [updG_ne a.kc]; exact a.kp, a.cs_, a.kc, a.ks_, a.kok⟩
theorem PAt.setS (a : PAt K f cs sg st G) (h : ∀ x ∈ sg', okS x) : PAt K f cs sg' st (updG G f.s (.lst (sg'.map sgD))) :=
  ⟨by rw [updG_ne (neG a.gm a.N.hs (by intro z; cases z))]; exact a.gm, a.N.setS a.cs_ h, by rw [updG_ne (neG a.pt a.N.hs (by intro z; cases z))]; exact a.pt, by rw [updG_ne a.ks_]; exact a.kp, a.cs_, a.kc, a.ks_, a.kok⟩
theorem PAt.setK (a : PAt K f cs sg st G) {kept : List Lt} (h : ∀ l ∈ kept, okL l) : PAt K f cs sg { st with kept := kept } (updG G f.kp (.lst (kept.map ltD))) :=
  ⟨by rw [updG_ne (neG a.gm a.kp (by intro z; cases z))]; exact a.gm, a.N.other (neG a.N.nt a.kp (by intro z; cases z)) a.kc.symm a.ks_.symm, by rw [updG_ne (neG a.pt a.kp (by intro z; cases z))]; exact a.pt, updG_same, a.cs_, a.kc, a.ks_, h⟩
theorem PAt.setP (a : PAt K f cs sg st G) (h : st'.kept = st.kept) : PAt K f cs sg st' (updG G f.p (partyO K f st')) :=
  ⟨by rw [updG_ne (neG a.gm a.pt (ins_ne (by decide +kernel)))]; exact a.gm, a.N.other (neG a.N.nt a.pt (ins_ne (by decide +kernel))) (neG a.N.hc a.pt (by intro z; cases z)) (neG a.N.hs a.pt (by intro z; cases z)), updG_same,
    by rw [updG_ne (neG a.kp a.pt (by intro z; cases z)), h]; exact a.kp, a.cs_, a.kc, a.ks_, by rw [h]; exact a.kok⟩
end
abbrev F_Party_keep (K : PySem.W.Frag) : FT := F2 fun x y G Φ => ∃ (f : PF) (cs : List Ct) (sg : List Sg) (st : PSt) (l : Lt), x = .obj f.p ∧ PAt K f cs sg st G ∧ y = .dat (ltD l) ∧ okL l ∧ st.kept.length < 900000 ∧ Φ (.dat .none) (updG G f.kp (.lst ((addc l st.kept).map ltD)))
abbrev F_Party_receipts (K : PySem.W.Frag) : FT := F1 fun x G Φ => ∃ (f : PF) (cs : List Ct) (sg : List Sg) (st : PSt), x = .obj f.p ∧ PAt K f cs sg st G ∧ Φ (.dat (.list (st.kept.map ltD))) G
abbrev sEnt (f : PF) (k : Str) (b : By) : Sg := (((f.m : Nat) : Int), (k, b))
abbrev sLet (f : PF) (sg : List Sg) (k : Str) (b : By) : Lt := (k, ((f.m : Nat) : Int), b, ((ix (sEnt f k b) (addc (sEnt f k b) sg) : Nat) : Int))
abbrev F_Party_send (K : PySem.W.Frag) : FT := F3 fun x y z G Φ => ∃ (f : PF) (cs : List Ct) (sg : List Sg) (st : PSt) (k : Str) (b : By), x = .obj f.p ∧ PAt K f cs sg st G ∧ POk f ∧ y = .dat (.str k) ∧ z = .dat b.d ∧ k ∈ kinds5 ∧ b.ok ∧ sg.length < 900000 ∧ st.kept.length < 900000 ∧
  Φ (.dat (.list [ltD (sLet f sg k b)])) (updG (updG G f.s (.lst ((addc (sEnt f k b) sg).map sgD))) f.kp (.lst ((addc (sLet f sg k b) st.kept).map ltD)))
abbrev nRep (f : PF) (cs : List Ct) : Int := ((ix f.rep (addc f.rep cs) : Nat) : Int)
abbrev F_Party_send_commit (K : PySem.W.Frag) : FT := F1 fun x G Φ => ∃ (f : PF) (cs : List Ct) (sg : List Sg) (st : PSt), x = .obj f.p ∧ PAt K f cs sg st G ∧ POk f ∧ cs.length < 900000 ∧ sg.length < 900000 ∧ st.kept.length < 900000 ∧
  ∀ l, l = sLet f sg "commit" (.num (nRep f cs)) → Φ (.dat (.list [ltD l])) (updG (updG (updG (updG G f.c (.lst ((addc f.rep cs).map Ct.d))) f.s (.lst ((addc (sEnt f "commit" (.num (nRep f cs))) sg).map sgD))) f.kp (.lst ((addc l st.kept).map ltD)))
    f.p (partyO K f { st with com := some (nRep f cs, l.2.2.2), kept := addc l st.kept }))

theorem sc_Party_keep : FnScope ["self", "letter"] ["self", "letter"] (defScope (inClass (top 80) 3)) := ⟨rfl, rfl, rfl, by decide +kernel, rfl, by decide +kernel, by decide +kernel⟩
theorem n_Party_keep {P : Program} {w : World} {K : PySem.W.Frag} {mg : Str → Option Value} {base : Heap} {fd : FuncData} {dvs : List V} {kws : List (Str × V)} (e : Ev P w K mg base) (FD : FunD K "keep" "Party.keep" (defArgs (inClass (top 80) 3)) (defBody (inClass (top 80) 3)) (defScope (inClass (top 80) 3)) dvs kws (He.ma K (He.ga K "Party") "keep") fd) : FnOk P w K mg base CX0 1 (He.ma K (He.ga K "Party") "keep") fd ["self", "letter"] (spD K (F_Party_keep K)) := by
  have S := sc_Party_keep
  refine okD FD S (fun _ _ _ h => len2 h) fun cdv A outer s H E hr => ⟨_, (pss_one (ps_if (pt_cmpR (k_notinD K hr) (pv 1) (k_fld K e.f_Party_kept (pv 0)) (by with_unfolding_all rfl)) (pss_one (ps_expr (k_bm K PySem.F.plainAttrs_list PySem.F.slot_list_append PySem.F.type_list_append mt_append (k_fld K e.f_Party_kept (pv 0)) (pa_cons (pv 1) pa_nil)))) pss_nil)), ?_⟩
  intro ds G Φ h
  try dsimp only [cxK, blkK]
  obtain ⟨x, y, rfl, f, cs, sg, st, l, rfl, a, rfl, hl, hk, k⟩ := h
  have h1 := a.pt
  have h2 := a.kp
  fail "x"
  refine ⟨lt_tame.shaped hl, lt_tame.shapedL a.kok, ?_⟩
  rw [lt_tame.any a.kok hl]
  unfold addc at k
  fail "x"
  refine ⟨fun hb => ?_, fun hb => ?_⟩
  · have hm : ¬ l ∈ st.kept := by simpa using hb
    rw [if_neg hm, List.map_append] at k
    fail "x"
    exact k
  · have hm : l ∈ st.kept := by simpa using hb
    rw [if_pos hm, updG_self h2] at k
    fail "x"
    exact k
theorem o_Party_keep {P : Program} {w : World} {K : PySem.W.Frag} {mg : Str → Option Value} {base : Heap} (e : Ev P w K mg base) : OkD P w K mg base 1 (He.ma K (He.ga K "Party") "keep") ["self", "letter"] [] (F_Party_keep K) := by
  obtain ⟨fd, FD⟩ := e.d_Party_keep
  exact okN FD (n_Party_keep e FD) fun _ _ _ _ _ _ us hl => match us, hl with | [_, _], _ => rfl
theorem sc_Party_receipts : FnScope ["self"] ["self"] (defScope (inClass (top 80) 2)) := ⟨rfl, rfl, rfl, by decide +kernel, rfl, by decide +kernel, by decide +kernel⟩
theorem n_Party_receipts {P : Program} {w : World} {K : PySem.W.Frag} {mg : Str → Option Value} {base : Heap} {fd : FuncData} {dvs : List V} {kws : List (Str × V)} (e : Ev P w K mg base) (FD : FunD K "receipts" "Party.receipts" (defArgs (inClass (top 80) 2)) (defBody (inClass (top 80) 2)) (defScope (inClass (top 80) 2)) dvs kws (He.ma K (He.ga K "Party") "receipts") fd) : FnOk P w K mg base CX0 1 (He.ma K (He.ga K "Party") "receipts") fd ["self"] (spD K (F_Party_receipts K)) := by
  have S := sc_Party_receipts
  refine okD FD S (fun _ _ _ h => len1 h) fun cdv A outer s H E hr => ⟨_, (pss_one (ps_ret (pe_callTy (k_list K) rfl e.x_list (by decide +kernel) (pa_cons (k_fld K e.f_Party_kept (pv 0)) pa_nil)))), ?_⟩
  intro ds G Φ h
  try dsimp only [cxK, blkK]
  obtain ⟨x, rfl, f, cs, sg, st, rfl, a, k⟩ := h
  have h1 := a.pt
  have h2 := a.kp
  fail "x"
  exact k
theorem o_Party_receipts {P : Program} {w : World} {K : PySem.W.Frag} {mg : Str → Option Value} {base : Heap} (e : Ev P w K mg base) : OkD P w K mg base 1 (He.ma K (He.ga K "Party") "receipts") ["self"] [] (F_Party_receipts K) := by
  obtain ⟨fd, FD⟩ := e.d_Party_receipts
  exact okN FD (n_Party_receipts e FD) fun _ _ _ _ _ _ us hl => match us, hl with | [_], _ => rfl
theorem sc_Party_send : FnScope ["self", "kind", "body", "signature", "letter"] ["self", "kind", "body"] (defScope (inClass (top 80) 4)) := ⟨rfl, rfl, rfl, by decide +kernel, rfl, by decide +kernel, by decide +kernel⟩
theorem n_Party_send {P : Program} {w : World} {K : PySem.W.Frag} {mg : Str → Option Value} {base : Heap} {fd : FuncData} {dvs : List V} {kws : List (Str × V)} (e : Ev P w K mg base) (FD : FunD K "send" "Party.send" (defArgs (inClass (top 80) 4)) (defBody (inClass (top 80) 4)) (defScope (inClass (top 80) 4)) dvs kws (He.ma K (He.ga K "Party") "send") fd) : FnOk P w K mg base CX0 18 (He.ma K (He.ga K "Party") "send") fd ["self", "kind", "body"] (spD K (F_Party_send K)) := by
  have S := sc_Party_send
  refine okD FD S (fun _ _ _ h => len3 h) fun cdv A outer s H E hr => ⟨_, (pss_cons (ps_set (i := 3) S.nd rfl (by first | exact Or.inl rfl | exact Or.inr rfl) (k_me K e.c_Notary e.h_Notary_sign (o_Notary_sign e) (hr.mono (by decide)) (k_fld K e.f_Party_notary (pv 0)) (pa_cons (k_fld K e.f_Party_member (pv 0)) (pa_cons (k_fld K e.f_Party_key (pv 0)) (pa_cons (pe_tup (pa_cons (pv 1) (pa_cons (k_fld K e.f_Party_round_number (pv 0)) (pa_cons (pv 2) pa_nil)))) pa_nil)))))
      (pss_cons (ps_set (i := 4) S.nd rfl (by first | exact Or.inl rfl | exact Or.inr rfl) (pe_tup (pa_cons (pv 1) (pa_cons (k_fld K e.f_Party_round_number (pv 0)) (pa_cons (k_fld K e.f_Party_member (pv 0)) (pa_cons (pv 2) (pa_cons (pv 3) pa_nil)))))))
      (pss_cons (ps_expr (k_me K e.c_Party e.h_Party_keep (o_Party_keep e) (hr.mono (by decide)) (pv 0) (pa_cons (pv 4) pa_nil)))
      (pss_one (ps_ret (pe_lst (pa_cons (pv 4) pa_nil))))))), ?_⟩
  intro ds G Φ h
  try dsimp only [cxK, blkK]
  obtain ⟨x, y, z, rfl, f, cs, sg, st, kk, b, rfl, a, o, rfl, rfl, hk, hb, hs, hkp, k⟩ := h
  have h1 := a.pt
  have h2 := a.N.nt
  have hok : okS (sEnt f kk b) := ⟨hk, hb⟩
  have a1 := a.setS (addc_ok a.N.oks hok)
  have h3 := a1.pt
  fail "x"
  refine ⟨f.ks, f.n, f.c, f.s, cs, sg, f.m, f.key, (kk, b), rfl, a.N, rfl, rfl, rfl, o.key, ⟨hk, hb⟩, hs, ?_⟩
  fail "x"
  refine ⟨f, cs, addc (sEnt f kk b) sg, st, sLet f sg kk b, rfl, a1, rfl, ⟨hk, hb⟩, hkp, ?_⟩
  fail "x"
  exact k
theorem o_Party_send {P : Program} {w : World} {K : PySem.W.Frag} {mg : Str → Option Value} {base : Heap} (e : Ev P w K mg base) : OkD P w K mg base 18 (He.ma K (He.ga K "Party") "send") ["self", "kind", "body"] [] (F_Party_send K) := by
  obtain ⟨fd, FD⟩ := e.d_Party_send
  exact okN FD (n_Party_send e FD) fun _ _ _ _ _ _ us hl => match us, hl with | [_, _, _], _ => rfl
theorem sc_Party_send_commit : FnScope ["self", "sent"] ["self"] (defScope (inClass (top 80) 6)) := ⟨rfl, rfl, rfl, by decide +kernel, rfl, by decide +kernel, by decide +kernel⟩
theorem n_Party_send_commit {P : Program} {w : World} {K : PySem.W.Frag} {mg : Str → Option Value} {base : Heap} {fd : FuncData} {dvs : List V} {kws : List (Str × V)} (e : Ev P w K mg base) (FD : FunD K "send_commit" "Party.send_commit" (defArgs (inClass (top 80) 6)) (defBody (inClass (top 80) 6)) (defScope (inClass (top 80) 6)) dvs kws (He.ma K (He.ga K "Party") "send_commit") fd) : FnOk P w K mg base CX0 19 (He.ma K (He.ga K "Party") "send_commit") fd ["self"] (spD K (F_Party_send_commit K)) := by
  have S := sc_Party_send_commit
  refine okD FD S (fun _ _ _ h => len1 h) fun cdv A outer s H E hr => ⟨_, (pss_cons (ps_set (i := 1) S.nd rfl (by first | exact Or.inl rfl | exact Or.inr rfl) (k_me K e.c_Party e.h_Party_send (o_Party_send e) (hr.mono (by decide)) (pv 0) (pa_cons pe_str (pa_cons (k_me K e.c_Notary e.h_Notary_number (o_Notary_number e) (hr.mono (by decide)) (k_fld K e.f_Party_notary (pv 0)) (pa_cons (k_fld K e.f_Party_report (pv 0)) pa_nil)) pa_nil))))
      (pss_cons (ps_fldF e.f_Party_commit (by decide) (pv 0) (pe_ix (k_ix K) (pv 1) pe_int (fun _ _ => rfl)))
      (pss_one (ps_ret (pv 1))))), ?_⟩
  intro ds G Φ h
  try dsimp only [cxK, blkK]
  obtain ⟨x, rfl, f, cs, sg, st, rfl, a, o, hc, hs, hkp, k⟩ := h
  have h1 := a.pt
  have h2 := a.N.nt
  have hrep : f.rep.ok := o.salt
  have a1 := a.setC (addc_ok a.N.okc hrep)
  fail "x"
  refine ⟨f.ks, f.n, f.c, f.s, cs, sg, f.rep, rfl, a.N, rfl, hrep, hc, ?_⟩
  fail "x"
  refine ⟨f, addc f.rep cs, sg, st, "commit", .num (nRep f cs), rfl, a1, o, rfl, rfl, by decide +kernel, trivial, hs, hkp, ?_⟩
  have hok : okS (sEnt f "commit" (.num (nRep f cs))) := ⟨show ("commit" : Str) ∈ kinds5 by decide +kernel, trivial⟩
  have a2 := a1.setS (addc_ok a.N.oks hok)
  have hol : okL (sLet f sg "commit" (.num (nRep f cs))) := ⟨show ("commit" : Str) ∈ kinds5 by decide +kernel, trivial⟩
  have a3 := a2.setK (addc_ok a.kok hol)
  have h3 := a3.pt
  fail "x"
  exact k _ rfl
theorem o_Party_send_commit {P : Program} {w : World} {K : PySem.W.Frag} {mg : Str → Option Value} {base : Heap} (e : Ev P w K mg base) : OkD P w K mg base 19 (He.ma K (He.ga K "Party") "send_commit") ["self"] [] (F_Party_send_commit K) := by
  obtain ⟨fd, FD⟩ := e.d_Party_send_commit
  exact okN FD (n_Party_send_commit e FD) fun _ _ _ _ _ _ us hl => match us, hl with | [_], _ => rfl
end DL
/-! (Pb) -/
namespace DL
open PySem PySem.Spec PyProof.Rows L2

local macro_rules | `(tactic| fail "l") => `(tactic| first | exact Nat.le_of_ble_eq_true rfl | omega | (simp only [List.length_map, List.length_append, List.length_cons, List.length_nil]; omega))
local macro_rules | `(tactic| fail "aS") => `(tactic| with_reducible first | refine ws_seq ?_ | refine ws_if ?_ | refine ws_ret ?_ | refine ws_asg ?_ | refine ws_drop ?_ | refine ws_next ?_ | refine ws_retN ?_ | refine ws_fldF ?_ | refine ws_fldN ?_ | refine ws_dput ?_ | refine ws_asgT5 ?_ | refine ws_asgT4 ?_ | refine ws_asgT3 ?_)
local macro_rules | `(tactic| fail "aO") => `(tactic| with_reducible first | refine we_ix ?_ | refine we_II ?_ | refine we_IB ?_ | refine we_eq ?_ | refine we_ne ?_ | refine we_add ?_ | refine we_addG ?_ | refine we_IC ?_ | refine we_eqD ?_ | refine we_neD ?_ | refine we_inD ?_ | refine we_notInD ?_ | refine we_in ?_ | refine we_inSg ?_)
local macro_rules | `(tactic| fail "aC") => `(tactic| with_reducible first | refine we_len ?_ | refine we_lenD ?_ | refine we_all ?_ | refine we_any ?_ | refine we_int1 ?_ | refine we_strI ?_ | refine we_listOf ?_ | refine we_tupOf ?_ | refine we_sum ?_ | refine we_abs ?_ | refine we_min2 ?_ | refine we_gcd ?_)
local macro_rules | `(tactic| fail "aE") => `(tactic| first
  | ((with_reducible apply we_var); rfl)
  | with_reducible refine we_int ?_ | with_reducible refine we_str ?_ | with_reducible refine we_non ?_ | with_reducible refine we_bl ?_
  | ((with_reducible show WE _ (tOp _ _ _) _ _ _); fail "aO")
  | ((with_reducible show WE _ (tCB _ _) _ _ _); fail "aC")
  | with_reducible refine we_call ?_ | with_reducible refine we_fld ?_ | with_reducible refine we_meth' ?_ | with_reducible refine we_tup ?_ | with_reducible refine we_isi (by decide) ?_ | with_reducible refine we_lst ?_ | with_reducible refine we_lstG ?_
  | with_reducible refine we_and ?_ | with_reducible refine we_or ?_ | with_reducible refine we_not ?_ | with_reducible refine we_chainI ?_ | with_reducible refine we_isN ?_ | with_reducible refine we_notN ?_ | with_reducible refine we_append ?_ | with_reducible refine we_extend ?_ | with_reducible refine we_index ?_
  | with_reducible refine we_slL ?_ | with_reducible refine we_slT ?_ | with_reducible refine we_dget ?_ | with_reducible refine we_din ?_ | with_reducible refine we_dnotin ?_ | with_reducible refine we_dictG ?_ | with_reducible refine we_prop ?_ | with_reducible refine we_join ?_ | with_reducible refine we_neg ?_ | with_reducible refine we_lenSet ?_)
local macro_rules | `(tactic| fail "aT") => `(tactic| with_reducible first | refine wt_val ?_ | refine wt_tst ?_ | refine wt_and ?_ | refine wt_or ?_ | refine wt_not ?_ | refine wt_yes ?_)
local macro_rules | `(tactic| fail "aD") => `(tactic| with_reducible first | refine dEq_ii ?_ | refine dEq_ss ?_ | refine dEq_bb ?_ | refine dEq_nn ?_ | refine dEq_ni ?_ | refine dEq_in ?_ | refine dAdd_ii ?_ | refine dInt_i ?_ | refine dInt_b ?_ | refine dLen_l ?_ | refine dLen_t ?_)
local macro_rules | `(tactic| fail "a") => `(tactic| first
  | ((with_reducible show WE _ _ _ _ _); fail "aE")
  | ((with_reducible show WA _ _ _ _ _); (with_reducible first | refine wa_cons ?_ | refine wa_nil ?_))
  | ((with_reducible show WS _ _ _ _ _); fail "aS")
  | ((with_reducible show WT _ _ _ _ _); fail "aT")
  | ((with_reducible show WG _ _ _ _ _ _ _); first | with_reducible refine wg_name ?_ | ((with_reducible refine wg_tup ?_ ?_); rfl))
  | ((with_reducible show WGs _ _ _ _ _ _ _); (with_reducible first | refine wgs_cons ?_ | refine wgs_nil ?_))
  | ((with_reducible show WO _ _ _ _ _); (with_reducible first | refine wo_none ?_ | refine wo_some ?_))
  | ((with_reducible show dIx _ _ _ _); first | ((with_reducible apply dIx_t); rfl) | ((with_reducible apply dIx_l); rfl))
  | ((with_reducible show dAdd _ _ _ _); first | with_reducible refine dAdd_ii ?_ | ((with_reducible refine dAdd_ll ?_ ?_); fail "l") | ((with_reducible apply dAdd_ol); (fail "h"); (fail "l")) | ((with_reducible refine dAdd_tt ?_ ?_); fail "l") | ((with_reducible refine dAdd_ss ?_ ?_); fail "l"))
  | fail "aD")
local macro_rules | `(tactic| fail "e") => `(tactic| ((fail_if_success (with_reducible show ∃ _ : NF, _)); (fail_if_success (with_reducible show ∃ _ : PF, _)); (fail_if_success (with_reducible show ∃ _ : DF, _)); (first | with_reducible refine ⟨_, _, rfl, rfl, ?_⟩ | with_reducible refine ⟨_, rfl, ?_⟩ | with_reducible refine ⟨rfl, ?_⟩ | with_reducible refine ⟨_, _, rfl, ?_⟩ | with_reducible refine ⟨_, _, _, rfl, ?_⟩ | with_reducible refine ⟨_, _, _, _, rfl, ?_⟩ | with_reducible refine ⟨_, _, _, _, _, rfl, ?_⟩ | ((refine ⟨?l, ?_⟩); (case l => (with_reducible show _ < 1000000); fail "l")) | ((refine ⟨?l, ?_⟩); (case l => (with_reducible show _ ≤ 1000000); fail "l")))))
local macro_rules | `(tactic| fail "g") => `(tactic| ((funext gb; simp only [updG, dropG]; repeat' split) <;> first | rfl | (exfalso; simp_all; done) | (simp_all; done)))
local macro_rules | `(tactic| fail "q") => `(tactic| first | assumption | exact Ne.symm (by assumption))
local macro_rules | `(tactic| fail "h") => `(tactic| first | assumption | exact updG_same | ((rw [updG_ne]); (fail "h"); (fail "q")))
local macro_rules | `(tactic| fail "z") => `(tactic| first | rfl | exact ⟨rfl, rfl⟩ | exact ⟨_, rfl, rfl⟩ | exact ⟨_, _, rfl, rfl⟩ | exact ⟨_, _, _, rfl, rfl⟩ | assumption)
local macro_rules | `(tactic| fail "f") => `(tactic| first
  | refine ⟨_, _, rfl, .inr (.inl rfl), ?_⟩ | refine ⟨_, _, rfl, .inl rfl, ?_⟩
  | (refine ⟨_, ?ds, rfl, .inr (.inr ⟨_, rfl, ?h1⟩), ?_⟩; (case h1 => fail "h"))
  | (refine ⟨_, ?ds, rfl, .inr ⟨_, rfl, ?h1⟩, ?_⟩; (case h1 => fail "h"))
  | ((with_reducible refine ⟨_, ?ds, ?d, rfl, ?h1, ?h2, ?_⟩); (case h1 => fail "h"); (case h2 => rfl))
  | ((with_reducible refine ⟨_, ?ds, rfl, ?h1, ?_⟩); (case h1 => fail "h"))
  | ((with_reducible refine ⟨_, ?ns, ?ds, rfl, ?h1, ?h2, ?_⟩); (case h1 => fail "h"); (case h2 => decide))
  | ((with_reducible refine ⟨_, ?ns, ?ds, rfl, (?h1 : _ = some (GO.ins _ ?ns ?ds)), ?_⟩); (case h1 => fail "h"))
  | ((with_reducible refine ⟨_, rfl, ⟨?ys, ?h1⟩, ?_⟩); (case h1 => fail "h"))
  | ((with_reducible refine ⟨_, ?xs, rfl, ?h1, ?h2, ?_⟩); (case h1 => fail "h"); (case h2 => omega)))
local macro_rules | `(tactic| fail "y") => `(tactic| first
  | ((with_reducible refine ⟨fun _ => ?_, fun hbb => ?nope⟩); (case nope => first | exact Bool.noConfusion (show true = false from hbb) | exact Bool.noConfusion (show false = true from hbb) | exact absurd (of_decide_eq_true hbb) (by omega) | exact absurd (of_decide_eq_false hbb) (by omega) | (simp at hbb; done) | (simp at hbb; omega)))
  | ((with_reducible refine ⟨fun hbb => ?nope, fun _ => ?_⟩); (case nope => first | exact Bool.noConfusion (show true = false from hbb) | exact Bool.noConfusion (show false = true from hbb) | exact absurd (of_decide_eq_true hbb) (by omega) | exact absurd (of_decide_eq_false hbb) (by omega) | (simp at hbb; done) | (simp at hbb; omega))))
local macro_rules | `(tactic| fail "w") => `(tactic| repeat fail "a")
local macro_rules | `(tactic| fail "x") => `(tactic| repeat (first | fail "a" | fail "f" | fail "e" | fail "y"))

/-! ### what a party does -/
/-- an own letter other than a commit comes behind a list -/
def TOk (m : Nat) (kept : List Lt) : Prop := ∀ (i : Nat) (l : Lt), kept[i]? = some l → l.2.1 = (m : Int) → l.1 ≠ "commit" → ∃ (j : Nat) (q : Lt), j < i ∧ kept[j]? = some q ∧ q.1 = "list"
structure PInv (f : PF) (cs : List Ct) (sg : List Sg) (st : PSt) : Prop where
  com : ∀ q, st.com = some q → (f.rep ∈ cs ∧ q.1 = ((ix f.rep cs : Nat) : Int)) ∧ sEnt f "commit" (.num q.1) ∈ sg ∧ q.2 = ((ix (sEnt f "commit" (.num q.1)) sg : Nat) : Int)
  lb : ∀ L, st.lb = some L → L.length = f.A.length ∧ ∃ q, st.com = some q ∧ L[f.m - 1]? = some q
  bb : ∀ q, st.bb = some q → (q.2.length ≤ 2 ∧ ∀ p ∈ q.1 :: q.2, okO p.1) ∧ ∃ L, st.lb = some L ∧ BookP f.A cs sg L (q.1 :: q.2)
  sg : ∀ k b, (((f.m : Nat) : Int), ((k, b) : Ms)) ∈ sg → (k = "commit" ∧ ∃ i : Nat, b = .num (i : Int) ∧ cs[i]? = some f.rep) ∨ (k = "open" ∧ ∃ L, st.lb = some L ∧ ∃ i : Nat, cs[i]? = some (.lst (.prs L)) ∧ b = .opn ((i : Int), f.salt, f.kd, f.tk))
  told : TOk f.m st.kept
theorem app_get {α : Type} {xs ys : List α} {i : Nat} {a : α} (h : xs[i]? = some a) : (xs ++ ys)[i]? = some a := by
  rw [List.getElem?_append_left (List.getElem?_eq_some_iff.mp h).1]; exact h
theorem ix_app {α : Type} [DecidableEq α] {a : α} : ∀ {xs ys : List α}, a ∈ xs → ix a (xs ++ ys) = ix a xs
  | [], _, h => by cases h
  | x :: xs, ys, h => by
    show (if x = a then 0 else ix a (xs ++ ys) + 1) = (if x = a then 0 else ix a xs + 1)
    by_cases e : x = a
    · rw [if_pos e, if_pos e]
    · rw [if_neg e, if_neg e, ix_app ((List.mem_cons.mp h).resolve_left fun z => e z.symm)]
theorem addc_in {α : Type} [DecidableEq α] {a : α} {xs : List α} (h : a ∈ xs) : addc a xs = xs := if_pos h
theorem validB_ext {sg ys : List Sg} {i : Int} {m : Ms} {j : Int} (h : validB sg i m j = true) : validB (sg ++ ys) i m j = true := by
  unfold validB at h ⊢
  obtain ⟨h1, h2⟩ := Bool.and_eq_true_iff.mp h
  rw [h1, decide_eq_true (app_get (of_decide_eq_true h2))]; rfl
theorem FitsO.ext {A : List Ag} {cs xs : List Ct} {L : List (Int × Int)} {j : Nat} {o : Opn} (h : FitsO A cs L j o) : FitsO A (cs ++ xs) L j o := by
  obtain ⟨h1, h2, h3, ⟨i, e1, e2⟩, ⟨q, k, e3, e4, e5⟩⟩ := h
  exact ⟨h1, h2, h3, ⟨i, e1, app_get e2⟩, ⟨q, k, e3, e4, app_get e5⟩⟩
theorem BookP.ext {A : List Ag} {cs xs : List Ct} {sg ys : List Sg} {L : List (Int × Int)} {l : List (Opn × Int)} (h : BookP A cs sg L l) : BookP A (cs ++ xs) (sg ++ ys) L l :=
  ⟨h.1, fun i p e => ⟨validB_ext (h.2 i p e).1, (h.2 i p e).2.ext⟩⟩
theorem PInv.ext {f : PF} {cs xs : List Ct} {sg ys : List Sg} {st : PSt} (h : PInv f cs sg st) (hy : ∀ y ∈ ys, y.1 ≠ ((f.m : Nat) : Int)) : PInv f (cs ++ xs) (sg ++ ys) st where
  com q e := by
    obtain ⟨⟨h1, h2⟩, h3, h4⟩ := h.com q e
    exact ⟨⟨List.mem_append_left _ h1, by rw [ix_app h1]; exact h2⟩, List.mem_append_left _ h3, by rw [ix_app h3]; exact h4⟩
  lb := h.lb
  bb q e := by
    obtain ⟨h1, L, h2, h3⟩ := h.bb q e
    exact ⟨h1, L, h2, h3.ext⟩
  sg k b m := by
    rcases List.mem_append.mp m with m | m
    · rcases h.sg k b m with ⟨e, i, e1, e2⟩ | ⟨e, L, e1, i, e2, e3⟩
      · exact .inl ⟨e, i, e1, app_get e2⟩
      · exact .inr ⟨e, L, e1, i, app_get e2, e3⟩
    · exact absurd rfl (hy _ m)
  told := h.told
theorem TOk.add {m : Nat} {kept : List Lt} {l : Lt} (h : TOk m kept) (k : l.2.1 ≠ (m : Int) ∨ l.1 = "commit" ∨ ∃ (j : Nat) (q : Lt), kept[j]? = some q ∧ q.1 = "list") : TOk m (addc l kept) := by
  obtain ⟨ys, e, hy⟩ := addc_ext (a := l) (xs := kept)
  rw [e]
  intro i x hx hs hc
  by_cases hi : i < kept.length
  · rw [List.getElem?_append_left hi] at hx
    obtain ⟨j, q, hj, hq, e1⟩ := h i x hx hs hc
    exact ⟨j, q, hj, app_get hq, e1⟩
  · rw [List.getElem?_append_right (by omega)] at hx
    have ex := hy x (List.mem_of_getElem? hx)
    subst ex
    rcases k with k | k | ⟨j, q, hq, e1⟩
    · exact absurd hs k
    · exact absurd k hc
    · exact ⟨j, q, by have := (List.getElem?_eq_some_iff.mp hq).1; omega, app_get hq, e1⟩
/-- a step of the party m: what may come of it -/
structure PStep (N : Nat) (f : PF) (cs : List Ct) (sg : List Sg) (st : PSt) (out : List Lt) (cs' : List Ct) (sg' : List Sg) (st' : PSt) : Prop where
  inv : PInv f cs' sg' st'
  cx : ∃ xs, cs' = cs ++ xs ∧ xs.length ≤ 2
  sx : ∃ xs, sg' = sg ++ xs ∧ xs.length ≤ 1 ∧ ∀ x ∈ xs, x.1 = ((f.m : Nat) : Int)
  okc : ∀ x ∈ cs', x.ok
  oks : ∀ x ∈ sg', okS x
  kl : st'.kept.length ≤ st.kept.length + N
  kok : ∀ l ∈ st'.kept, okL l
  ol : out.length ≤ 1
  ook : ∀ l ∈ out, okL l
  bb : ∀ q, st.bb = some q → st'.bb = some q
theorem PStep.stay {K : PySem.W.Frag} {f : PF} {cs : List Ct} {sg : List Sg} {st : PSt} {G : GH} (a : PAt K f cs sg st G) (h : PInv f cs sg st) : PStep 1 f cs sg st [] cs sg st :=
  ⟨h, ⟨[], by simp, by simp⟩, ⟨[], by simp, by simp, fun x hx => (by cases hx)⟩, a.N.okc, a.N.oks, by omega, a.kok, by simp, fun l hl => (by cases hl), fun q e => e⟩
theorem addc_one {α : Type} [DecidableEq α] {a : α} {xs : List α} : ∃ ys, addc a xs = xs ++ ys ∧ ys.length ≤ 1 ∧ ∀ y ∈ ys, y = a := by
  unfold addc
  by_cases h : a ∈ xs
  · rw [if_pos h]; exact ⟨[], by simp, by simp, fun y hy => by cases hy⟩
  · rw [if_neg h]; exact ⟨[a], rfl, by simp, fun y hy => List.mem_singleton.mp hy⟩
theorem ix_addc {α : Type} [DecidableEq α] {a : α} {xs : List α} (h : a ∈ xs) : ix a (addc a xs) = ix a xs := by rw [addc_in h]
theorem PStep.commit {K : PySem.W.Frag} {f : PF} {cs : List Ct} {sg : List Sg} {st : PSt} {G : GH} (a : PAt K f cs sg st G) (o : POk f) (h : PInv f cs sg st) :
    PStep 1 f cs sg st [sLet f sg "commit" (.num (nRep f cs))] (addc f.rep cs) (addc (sEnt f "commit" (.num (nRep f cs))) sg) { st with com := some (nRep f cs, (sLet f sg "commit" (.num (nRep f cs))).2.2.2), kept := addc (sLet f sg "commit" (.num (nRep f cs))) st.kept } := by
  have hok : okS (sEnt f "commit" (.num (nRep f cs))) := ⟨show ("commit" : Str) ∈ kinds5 by decide +kernel, trivial⟩
  have hol : okL (sLet f sg "commit" (.num (nRep f cs))) := ⟨show ("commit" : Str) ∈ kinds5 by decide +kernel, trivial⟩
  obtain ⟨xs, ex, hx1, hx2⟩ := addc_one (a := f.rep) (xs := cs)
  obtain ⟨ys, ey, hy1, hy2⟩ := addc_one (a := sEnt f "commit" (.num (nRep f cs))) (xs := sg)
  obtain ⟨zs, ez, hz1, hz2⟩ := addc_one (a := sLet f sg "commit" (.num (nRep f cs))) (xs := st.kept)
  have same : ∀ q, st.com = some q → q = (nRep f cs, (sLet f sg "commit" (.num (nRep f cs))).2.2.2) := fun q e => by
    obtain ⟨⟨h1, h2⟩, h3, h4⟩ := h.com q e
    have e1 : q.1 = nRep f cs := by rw [h2]; unfold nRep; rw [ix_addc h1]
    rw [e1] at h3 h4
    refine Prod.ext e1 (h4.trans ?_)
    show _ = ((ix _ (addc _ sg) : Nat) : Int)
    rw [ix_addc h3]
  refine ⟨⟨fun q e => ?_, fun L e => ?_, fun q e => ?_, fun k b m => ?_, h.told.add (.inr (.inl rfl))⟩, ⟨xs, ex, by omega⟩, ⟨ys, ey, hy1, fun x hx => by rw [hy2 x hx]⟩, addc_ok a.N.okc o.salt, addc_ok a.N.oks hok, ?_, addc_ok a.kok hol, by simp, fun l hl => by rw [List.mem_singleton.mp hl]; exact hol, fun q e => e⟩
  · cases e
    exact ⟨⟨addc_mem, rfl⟩, addc_mem, rfl⟩
  · obtain ⟨h1, q, h2, h3⟩ := h.lb L e
    rw [same q h2] at h3
    exact ⟨h1, _, rfl, h3⟩
  · obtain ⟨h1, L, h2, h3⟩ := h.bb q e
    rw [ex, ey]
    exact ⟨h1, L, h2, h3.ext⟩
  · rw [ey] at m
    rw [ex]
    rcases List.mem_append.mp m with m | m
    · rcases h.sg k b m with ⟨e, i, e1, e2⟩ | ⟨e, L, e1, i, e2, e3⟩
      · exact .inl ⟨e, i, e1, app_get e2⟩
      · exact .inr ⟨e, L, e1, i, app_get e2, e3⟩
    · have e := hy2 _ m
      cases e
      refine .inl ⟨rfl, ix f.rep (addc f.rep cs), rfl, ?_⟩
      rw [← ex]
      exact (ix_at addc_mem).1
  · show (addc _ st.kept).length ≤ _
    rw [ez, List.length_append]; omega
abbrev pG (K : PySem.W.Frag) (f : PF) (G : GH) (cs' : List Ct) (sg' : List Sg) (st' : PSt) : GH :=
  updG (updG (updG (updG G f.c (.lst (cs'.map Ct.d))) f.s (.lst (sg'.map sgD))) f.kp (.lst (st'.kept.map ltD))) f.p (partyO K f st')
theorem pG_same {K : PySem.W.Frag} {f : PF} {cs : List Ct} {sg : List Sg} {st : PSt} {G : GH} (a : PAt K f cs sg st G) : pG K f G cs sg st = G := by
  unfold pG
  rw [updG_self a.N.hc, updG_self a.N.hs, updG_self a.kp, updG_self a.pt]
theorem PAt.pc {K : PySem.W.Frag} {f : PF} {cs : List Ct} {sg : List Sg} {st : PSt} {G : GH} (a : PAt K f cs sg st G) : f.p ≠ f.c ∧ f.p ≠ f.s ∧ f.p ≠ f.kp := ⟨neG a.pt a.N.hc (by intro z; cases z), neG a.pt a.N.hs (by intro z; cases z), neG a.pt a.kp (by intro z; cases z)⟩
theorem pG_of {G : GH} {p c s k : Addr} {P C S Q : GO} (h : p ≠ c ∧ p ≠ s ∧ p ≠ k) : updG (updG (updG (updG G p P) c C) s S) k Q = updG (updG (updG (updG G c C) s S) k Q) p P := by
  rw [upd_comm h.1, upd_comm h.2.1, upd_comm h.2.2]
theorem pG_in {G : GH} {p c s k : Addr} {P C S Q : GO} (h : p ≠ c ∧ p ≠ s ∧ p ≠ k) (e : G p = some P) : updG (updG (updG G c C) s S) k Q = updG (updG (updG (updG G c C) s S) k Q) p P := by
  exact (updG_self (by rw [updG_ne h.2.2, updG_ne h.2.1, updG_ne h.1]; exact e)).symm
theorem by_tame : Tame By.d By.ok 4 := ⟨By.d_inj, fun _ h => By.cok h, by decide⟩
theorem pr_tame : Tame prD2 (fun _ => True) 1 := ⟨prD2_inj, fun a _ => cok_mk (Nat.le_of_ble_eq_true rfl) fun x hx => by
  simp only [List.mem_cons, List.not_mem_nil, or_false] at hx
  rcases hx with rfl | rfl <;> exact cok_int, by decide⟩
/-- the list L is taken on, an open is sent -/
theorem PStep.open_ {K : PySem.W.Frag} {f : PF} {cs : List Ct} {sg : List Sg} {st : PSt} {G : GH} {L : List (Int × Int)} {q : Int × Int} (a : PAt K f cs sg st G) (o : POk f) (h : PInv f cs sg st) (hL : L.length = f.A.length) (hq : st.com = some q) (hm : L[f.m - 1]? = some q)
    (hlb : st.lb = none ∨ st.lb = some L) (hl : ∃ (j : Nat) (q : Lt), st.kept[j]? = some q ∧ q.1 = "list") {b : By} (eb : b = .opn (((ix (Ct.lst (.prs L)) (addc (.lst (.prs L)) cs) : Nat) : Int), f.salt, f.kd, f.tk)) :
    PStep 1 f cs sg st [sLet f sg "open" b] (addc (.lst (.prs L)) cs) (addc (sEnt f "open" b) sg) { st with lb := some L, kept := addc (sLet f sg "open" b) st.kept } := by
  have hbo : b.ok := by rw [eb]; exact ⟨o.salt, o.tk⟩
  have hok : okS (sEnt f "open" b) := ⟨show ("open" : Str) ∈ kinds5 by decide +kernel, hbo⟩
  have hol : okL (sLet f sg "open" b) := ⟨show ("open" : Str) ∈ kinds5 by decide +kernel, hbo⟩
  have hLo : (Ct.lst (.prs L)).ok := show L.length ≤ 3 by rw [hL]; exact o.okA.n3
  obtain ⟨xs, ex, hx1, hx2⟩ := addc_one (a := Ct.lst (.prs L)) (xs := cs)
  obtain ⟨ys, ey, hy1, hy2⟩ := addc_one (a := sEnt f "open" b) (xs := sg)
  obtain ⟨zs, ez, hz1, hz2⟩ := addc_one (a := sLet f sg "open" b) (xs := st.kept)
  have hi := (ix_at (addc_mem (a := Ct.lst (.prs L)) (xs := cs))).1
  refine ⟨⟨fun q' e => ?_, fun L' e => ?_, fun q' e => ?_, fun k c m => ?_, h.told.add (.inr (.inr hl))⟩, ⟨xs, ex, by omega⟩, ⟨ys, ey, hy1, fun x hx => by rw [hy2 x hx]⟩, addc_ok a.N.okc hLo, addc_ok a.N.oks hok, ?_, addc_ok a.kok hol, by simp, fun l hl => by rw [List.mem_singleton.mp hl]; exact hol, fun q e => e⟩
  · obtain ⟨⟨h1, h2⟩, h3, h4⟩ := h.com q' e
    rw [ex, ey]
    exact ⟨⟨List.mem_append_left _ h1, by rw [ix_app h1]; exact h2⟩, List.mem_append_left _ h3, by rw [ix_app h3]; exact h4⟩
  · cases e
    exact ⟨hL, q, hq, hm⟩
  · obtain ⟨h1, L', h2, h3⟩ := h.bb q' e
    rw [ex, ey]
    rcases hlb with z | z
    · rw [z] at h2; cases h2
    · rw [z] at h2; cases h2
      exact ⟨h1, L, rfl, h3.ext⟩
  · rw [ey] at m
    rcases List.mem_append.mp m with m | m
    · rcases h.sg k c m with ⟨e, i, e1, e2⟩ | ⟨e, L', e1, i, e2, e3⟩
      · exact .inl ⟨e, i, e1, by rw [ex]; exact app_get e2⟩
      · rcases hlb with z | z
        · rw [z] at e1; cases e1
        · rw [z] at e1; cases e1
          exact .inr ⟨e, L, rfl, i, by rw [ex]; exact app_get e2, e3⟩
    · have e := hy2 _ m
      cases e
      exact .inr ⟨rfl, L, rfl, _, hi, eb⟩
  · show (addc _ st.kept).length ≤ _
    rw [ez, List.length_append]; omega
theorem PStep.kept {K : PySem.W.Frag} {f : PF} {cs cs' : List Ct} {sg sg' : List Sg} {st st' : PSt} {out : List Lt} {l : Lt} (h : PStep 1 f cs sg { st with kept := addc l st.kept } out cs' sg' st') : PStep 2 f cs sg st out cs' sg' st' := by
  obtain ⟨xs, e, hx, _⟩ := addc_one (a := l) (xs := st.kept)
  have h1 := h.kl
  have e1 : (addc l st.kept).length ≤ st.kept.length + 1 := addc_len
  exact ⟨h.inv, h.cx, h.sx, h.okc, h.oks, by simp only at h1; omega, h.kok, h.ol, h.ook, h.bb⟩
theorem PStep.up {f : PF} {cs cs' : List Ct} {sg sg' : List Sg} {st st' : PSt} {out : List Lt} (h : PStep 1 f cs sg st out cs' sg' st') : PStep 2 f cs sg st out cs' sg' st' :=
  ⟨h.inv, h.cx, h.sx, h.okc, h.oks, by have := h.kl; omega, h.kok, h.ol, h.ook, h.bb⟩
theorem PInv.kept {f : PF} {cs : List Ct} {sg : List Sg} {st : PSt} {l : Lt} (h : PInv f cs sg st) (k : l.2.1 ≠ (f.m : Int)) : PInv f cs sg { st with kept := addc l st.kept } := ⟨h.com, h.lb, h.bb, h.sg, h.told.add (.inl k)⟩
theorem pG_kept {K : PySem.W.Frag} {f : PF} {G : GH} {cs : List Ct} {sg : List Sg} {st : PSt} {X : GO} (h1 : f.kp ≠ f.c) (h2 : f.kp ≠ f.s) : pG K f (updG G f.kp X) cs sg st = pG K f G cs sg st := by
  unfold pG
  rw [upd_comm h1, upd_comm h2, updG_updG]
theorem PStep.book {K : PySem.W.Frag} {f : PF} {cs : List Ct} {sg : List Sg} {st : PSt} {G : GH} {q : (Opn × Int) × List (Opn × Int)} {L : List (Int × Int)} (a : PAt K f cs sg st G) (h : PInv f cs sg st) (hn : st.bb = none) (hL : st.lb = some L) (hb : q.2.length ≤ 2 ∧ ∀ p ∈ q.1 :: q.2, okO p.1) (hB : BookP f.A cs sg L (q.1 :: q.2)) :
    PStep 1 f cs sg st [] cs sg { st with bb := some q } :=
  ⟨⟨h.com, h.lb, fun q' e => by cases e; exact ⟨hb, L, hL, hB⟩, h.sg, h.told⟩, ⟨[], by simp, by simp⟩, ⟨[], by simp, by simp, fun x hx => (by cases hx)⟩, a.N.okc, a.N.oks, Nat.le_add_right _ _, a.kok, by simp, fun l hl => (by cases hl), fun q' e => by rw [hn] at e; cases e⟩
abbrev F_Party_take_list (K : PySem.W.Frag) : FT := F2 fun x y G Φ => ∃ (f : PF) (cs : List Ct) (sg : List Sg) (st : PSt) (b : By), x = .obj f.p ∧ PAt K f cs sg st G ∧ POk f ∧ y = .dat b.d ∧ b.ok ∧ cs.length < 900000 ∧ sg.length < 900000 ∧ st.kept.length < 900000 ∧ PInv f cs sg st ∧
  (∃ (j : Nat) (q : Lt), st.kept[j]? = some q ∧ q.1 = "list") ∧ ∀ out cs' sg' st', PStep 1 f cs sg st out cs' sg' st' → Φ (.dat (.list (out.map ltD))) (pG K f G cs' sg' st')
abbrev F_Party_take (K : PySem.W.Frag) : FT := F2 fun x y G Φ => ∃ (f : PF) (cs : List Ct) (sg : List Sg) (st : PSt) (l : Lt), x = .obj f.p ∧ PAt K f cs sg st G ∧ POk f ∧ y = .dat (ltD l) ∧ okL l ∧ cs.length < 800000 ∧ sg.length < 800000 ∧ st.kept.length < 800000 ∧ PInv f cs sg st ∧
  ∀ out cs' sg' st', PStep 2 f cs sg st out cs' sg' st' → Φ (.dat (.list (out.map ltD))) (pG K f G cs' sg' st')

theorem sc_Party_take_list : FnScope ["self", "body", "number"] ["self", "body"] (defScope (inClass (top 80) 7)) := ⟨rfl, rfl, rfl, by decide +kernel, rfl, by decide +kernel, by decide +kernel⟩
theorem n_Party_take_list {P : Program} {w : World} {K : PySem.W.Frag} {mg : Str → Option Value} {base : Heap} {fd : FuncData} {dvs : List V} {kws : List (Str × V)} (e : Ev P w K mg base) (FD : FunD K "take_list" "Party.take_list" (defArgs (inClass (top 80) 7)) (defBody (inClass (top 80) 7)) (defScope (inClass (top 80) 7)) dvs kws (He.ma K (He.ga K "Party") "take_list") fd) : FnOk P w K mg base CX0 19 (He.ma K (He.ga K "Party") "take_list") fd ["self", "body"] (spD K (F_Party_take_list K)) := by
  have S := sc_Party_take_list
  refine okD FD S (fun _ _ _ h => len2 h) fun cdv A outer s H E hr => ⟨_, (pss_cons (ps_if (PW.pt (pw_or (pt_cmp (pc_isN (k_fld K e.f_Party_commit (pv 0)))) (pw_or1 (pt_not (pt_val (k_cl K (o_stands e) (hr.mono (by decide)) e.g_stands (pa_cons (k_fld K e.f_Party_notary (pv 0)) (pa_cons (k_fld K e.f_Party_game (pv 0)) (pa_cons (k_fld K e.f_Party_round_number (pv 0)) (pa_cons (pv 1) pa_nil)))))))))) (pss_one (ps_ret (pe_lst pa_nil))) pss_nil)
      (pss_cons (ps_if (pt_cmpR (k_neD K hr) (pe_ix (k_ix K) (pv 1) (pe_op op_sub (k_fld K e.f_Party_member (pv 0)) pe_int) (fun _ _ => rfl)) (pe_tup (pa_cons (pe_ix (k_ix K) (k_fld K e.f_Party_commit (pv 0)) pe_int (fun _ _ => rfl)) (pa_cons (pe_ix (k_ix K) (k_fld K e.f_Party_commit (pv 0)) pe_int (fun _ _ => rfl)) pa_nil))) (nomark _)) (pss_one (ps_ret (pe_lst pa_nil))) pss_nil)
      (pss_cons (ps_if (pt_cmp (pc_isN (k_fld K e.f_Party_list_body (pv 0)))) (pss_one (ps_fldF e.f_Party_list_body (by decide) (pv 0) (pv 1))) pss_nil)
      (pss_cons (ps_if (pt_cmpR (k_neD K hr) (pv 1) (k_fld K e.f_Party_list_body (pv 0)) (nomark _)) (pss_one (ps_ret (pe_lst pa_nil))) pss_nil)
      (pss_cons (ps_set (i := 2) S.nd rfl (by first | exact Or.inl rfl | exact Or.inr rfl) (k_me K e.c_Notary e.h_Notary_number (o_Notary_number e) (hr.mono (by decide)) (k_fld K e.f_Party_notary (pv 0)) (pa_cons (pe_tup (pa_cons pe_str (pa_cons (pv 1) pa_nil))) pa_nil)))
      (pss_one (ps_ret (k_me K e.c_Party e.h_Party_send (o_Party_send e) (hr.mono (by decide)) (pv 0) (pa_cons pe_str (pa_cons (pe_op (k_add K) (pe_tup (pa_cons (pv 2) pa_nil)) (pe_slice (k_slT K) (k_fld K e.f_Party_report (pv 0)) (po_some pe_int) po_none)) pa_nil)))))))))), ?_⟩
  intro ds G Φ h
  try dsimp only [cxK, blkK]
  obtain ⟨x, y, rfl, f, cs, sg, st, b, rfl, a, o, rfl, hb, hc, hs, hkp, inv, hl, k⟩ := h
  have kf : Φ (.dat (.list [])) G := phi_eq (k [] cs sg st (PStep.stay a inv)) (pG_same a)
  have h1 := a.pt
  have h2 := a.N.nt
  have hm1 := o.m1
  obtain ⟨np1, np2, np3⟩ := a.pc
  have hm2 := o.m2
  obtain ⟨tn, com, lb, bb, kept⟩ := st
  cases com with
  | none =>
    simp only [partyO, comD] at h1
    fail "x"
    exact kf
  | some q =>
    simp only [partyO, comD] at h1
    fail "x"
    refine ⟨f.g, f.A, f.ks, f.n, f.c, f.s, cs, sg, b, rfl, rfl, a.gm, o.okA, a.N, rfl, rfl, hb, fun r hr => ?_⟩
    fail "x"
    refine ⟨fun hb2 => ?_, fun hb2 => ?_⟩
    · fail "x"
      exact kf
    obtain ⟨L, rfl, hL, _⟩ := hr (by simpa using hb2)
    have hmL : f.m - 1 < L.length := by omega
    have hLm : L[f.m - 1]? = some L[f.m - 1] := List.getElem?_eq_getElem hmL
    fail "x"
    refine dIx_t (atI_int (k := f.m - 1) (by omega) (by rw [List.getElem?_map, hLm]; rfl)) ?_
    fail "x"
    have e1 := pr_tame.eqv (a := L[f.m - 1]) (b := q) trivial trivial
    refine ⟨fun hb3 => ?_, fun hb3 => ?_⟩
    · fail "x"
      exact kf
    have hb3 : (!PyData.eqv (prD2 L[f.m - 1]) (prD2 q)) = false := hb3
    rw [e1] at hb3
    have hq : L[f.m - 1] = q := by simpa using hb3
    rw [hq] at hLm
    have e2 := by_tame.eqv (a := .prs L) (b := .prs L) hb hb
    have hLo : (Ct.lst (.prs L)).ok := hb
    cases lb with
    | none =>
      simp only [lbD] at h1
      have a1 := a.setP (st' := ⟨tn, some q, some L, bb, kept⟩) rfl
      have h3 := a1.pt
      simp only [partyO, comD, lbD] at h3
      have h4 := a1.N.nt
      fail "x"
      refine ⟨by_tame.shaped hb, by_tame.shaped hb, ?_⟩
      rw [e2]
      fail "x"
      refine ⟨f.ks, f.n, f.c, f.s, cs, sg, .lst (.prs L), rfl, a1.N, rfl, hLo, hc, ?_⟩
      fail "x"
      rw [show cutD [PyData.str "report", PyData.str f.salt, PyData.int f.kd, rT f.tk] (some 1) none = [PyData.str f.salt, PyData.int f.kd, rT f.tk] from rfl]
      fail "x"
      refine ⟨f, addc (.lst (.prs L)) cs, sg, ⟨tn, some q, some L, bb, kept⟩, "open", .opn (((ix (Ct.lst (.prs L)) (addc (.lst (.prs L)) cs) : Nat) : Int), f.salt, f.kd, f.tk), rfl, a1.setC (addc_ok a.N.okc hLo), o, rfl, rfl, show ("open" : Str) ∈ kinds5 by decide +kernel, ⟨o.salt, o.tk⟩, hs, hkp, ?_⟩
      exact phi_eq (k _ _ _ _ (PStep.open_ a o inv hL rfl hLm (.inl rfl) hl rfl)) (pG_of a.pc).symm
    | some L' =>
      simp only [lbD] at h1
      have hL2 : L'.length = f.A.length := (inv.lb L' rfl).1
      have hb' : (By.prs L').ok := show L'.length ≤ 3 by rw [hL2]; exact o.okA.n3
      have e3 := by_tame.eqv (a := .prs L) (b := .prs L') hb hb'
      fail "x"
      refine ⟨by_tame.shaped hb, by_tame.shaped hb', ?_⟩
      rw [e3]
      fail "x"
      refine ⟨fun hb4 => ?_, fun hb4 => ?_⟩
      · fail "x"
        exact kf
      have e4 : L = L' := by simpa using hb4
      subst e4
      fail "x"
      refine ⟨f.ks, f.n, f.c, f.s, cs, sg, .lst (.prs L), rfl, a.N, rfl, hLo, hc, ?_⟩
      fail "x"
      rw [show cutD [PyData.str "report", PyData.str f.salt, PyData.int f.kd, rT f.tk] (some 1) none = [PyData.str f.salt, PyData.int f.kd, rT f.tk] from rfl]
      fail "x"
      refine ⟨f, addc (.lst (.prs L)) cs, sg, ⟨tn, some q, some L, bb, kept⟩, "open", .opn (((ix (Ct.lst (.prs L)) (addc (.lst (.prs L)) cs) : Nat) : Int), f.salt, f.kd, f.tk), rfl, a.setC (addc_ok a.N.okc hLo), o, rfl, rfl, show ("open" : Str) ∈ kinds5 by decide +kernel, ⟨o.salt, o.tk⟩, hs, hkp, ?_⟩
      exact phi_eq (k _ _ _ _ (PStep.open_ a o inv hL rfl hLm (.inr rfl) hl rfl)) (pG_in a.pc a.pt).symm
theorem o_Party_take_list {P : Program} {w : World} {K : PySem.W.Frag} {mg : Str → Option Value} {base : Heap} (e : Ev P w K mg base) : OkD P w K mg base 19 (He.ma K (He.ga K "Party") "take_list") ["self", "body"] [] (F_Party_take_list K) := by
  obtain ⟨fd, FD⟩ := e.d_Party_take_list
  exact okN FD (n_Party_take_list e FD) fun _ _ _ _ _ _ us hl => match us, hl with | [_, _], _ => rfl
end DL
/-! (Pc) -/
namespace DL
open PySem PySem.Spec PyProof.Rows L2

local macro_rules | `(tactic| fail "l") => `(tactic| first | exact Nat.le_of_ble_eq_true rfl | omega | (simp only [List.length_map, List.length_append, List.length_cons, List.length_nil]; omega))
local macro_rules | `(tactic| fail "aS") => `(tactic| with_reducible first | refine ws_seq ?_ | refine ws_if ?_ | refine ws_ret ?_ | refine ws_asg ?_ | refine ws_drop ?_ | refine ws_next ?_ | refine ws_retN ?_ | refine ws_fldF ?_ | refine ws_fldN ?_ | refine ws_dput ?_ | refine ws_asgT5 ?_ | refine ws_asgT4 ?_ | refine ws_asgT3 ?_)
local macro_rules | `(tactic| fail "aO") => `(tactic| with_reducible first | refine we_ix ?_ | refine we_II ?_ | refine we_IB ?_ | refine we_eq ?_ | refine we_ne ?_ | refine we_add ?_ | refine we_addG ?_ | refine we_IC ?_ | refine we_eqD ?_ | refine we_neD ?_ | refine we_inD ?_ | refine we_notInD ?_ | refine we_in ?_ | refine we_inSg ?_)
local macro_rules | `(tactic| fail "aC") => `(tactic| with_reducible first | refine we_len ?_ | refine we_lenD ?_ | refine we_all ?_ | refine we_any ?_ | refine we_int1 ?_ | refine we_strI ?_ | refine we_listOf ?_ | refine we_tupOf ?_ | refine we_sum ?_ | refine we_abs ?_ | refine we_min2 ?_ | refine we_gcd ?_)
local macro_rules | `(tactic| fail "aE") => `(tactic| first
  | ((with_reducible apply we_var); rfl)
  | with_reducible refine we_int ?_ | with_reducible refine we_str ?_ | with_reducible refine we_non ?_ | with_reducible refine we_bl ?_
  | ((with_reducible show WE _ (tOp _ _ _) _ _ _); fail "aO")
  | ((with_reducible show WE _ (tCB _ _) _ _ _); fail "aC")
  | with_reducible refine we_call ?_ | with_reducible refine we_fld ?_ | with_reducible refine we_meth' ?_ | with_reducible refine we_tup ?_ | with_reducible refine we_isi (by decide) ?_ | with_reducible refine we_lst ?_ | with_reducible refine we_lstG ?_
  | with_reducible refine we_and ?_ | with_reducible refine we_or ?_ | with_reducible refine we_not ?_ | with_reducible refine we_chainI ?_ | with_reducible refine we_isN ?_ | with_reducible refine we_notN ?_ | with_reducible refine we_append ?_ | with_reducible refine we_extend ?_ | with_reducible refine we_index ?_
  | with_reducible refine we_slL ?_ | with_reducible refine we_slT ?_ | with_reducible refine we_dget ?_ | with_reducible refine we_din ?_ | with_reducible refine we_dnotin ?_ | with_reducible refine we_dictG ?_ | with_reducible refine we_prop ?_ | with_reducible refine we_join ?_ | with_reducible refine we_neg ?_ | with_reducible refine we_lenSet ?_)
local macro_rules | `(tactic| fail "aT") => `(tactic| with_reducible first | refine wt_val ?_ | refine wt_tst ?_ | refine wt_and ?_ | refine wt_or ?_ | refine wt_not ?_ | refine wt_yes ?_)
local macro_rules | `(tactic| fail "aD") => `(tactic| with_reducible first | refine dEq_ii ?_ | refine dEq_ss ?_ | refine dEq_bb ?_ | refine dEq_nn ?_ | refine dEq_ni ?_ | refine dEq_in ?_ | refine dAdd_ii ?_ | refine dInt_i ?_ | refine dInt_b ?_ | refine dLen_l ?_ | refine dLen_t ?_)
local macro_rules | `(tactic| fail "a") => `(tactic| first
  | ((with_reducible show WE _ _ _ _ _); fail "aE")
  | ((with_reducible show WA _ _ _ _ _); (with_reducible first | refine wa_cons ?_ | refine wa_nil ?_))
  | ((with_reducible show WS _ _ _ _ _); fail "aS")
  | ((with_reducible show WT _ _ _ _ _); fail "aT")
  | ((with_reducible show WG _ _ _ _ _ _ _); first | with_reducible refine wg_name ?_ | ((with_reducible refine wg_tup ?_ ?_); rfl))
  | ((with_reducible show WGs _ _ _ _ _ _ _); (with_reducible first | refine wgs_cons ?_ | refine wgs_nil ?_))
  | ((with_reducible show WO _ _ _ _ _); (with_reducible first | refine wo_none ?_ | refine wo_some ?_))
  | ((with_reducible show dIx _ _ _ _); first | ((with_reducible apply dIx_t); rfl) | ((with_reducible apply dIx_l); rfl))
  | ((with_reducible show dAdd _ _ _ _); first | with_reducible refine dAdd_ii ?_ | ((with_reducible refine dAdd_ll ?_ ?_); fail "l") | ((with_reducible apply dAdd_ol); (fail "h"); (fail "l")) | ((with_reducible refine dAdd_tt ?_ ?_); fail "l") | ((with_reducible refine dAdd_ss ?_ ?_); fail "l"))
  | fail "aD")
local macro_rules | `(tactic| fail "e") => `(tactic| ((fail_if_success (with_reducible show ∃ _ : NF, _)); (fail_if_success (with_reducible show ∃ _ : PF, _)); (fail_if_success (with_reducible show ∃ _ : DF, _)); (first | with_reducible refine ⟨_, _, rfl, rfl, ?_⟩ | with_reducible refine ⟨_, rfl, ?_⟩ | with_reducible refine ⟨rfl, ?_⟩ | with_reducible refine ⟨_, _, rfl, ?_⟩ | with_reducible refine ⟨_, _, _, rfl, ?_⟩ | with_reducible refine ⟨_, _, _, _, rfl, ?_⟩ | with_reducible refine ⟨_, _, _, _, _, rfl, ?_⟩ | ((refine ⟨?l, ?_⟩); (case l => (with_reducible show _ < 1000000); fail "l")) | ((refine ⟨?l, ?_⟩); (case l => (with_reducible show _ ≤ 1000000); fail "l")))))
local macro_rules | `(tactic| fail "g") => `(tactic| ((funext gb; simp only [updG, dropG]; repeat' split) <;> first | rfl | (exfalso; simp_all; done) | (simp_all; done)))
local macro_rules | `(tactic| fail "q") => `(tactic| first | assumption | exact Ne.symm (by assumption))
local macro_rules | `(tactic| fail "h") => `(tactic| first | assumption | exact updG_same | ((rw [updG_ne]); (fail "h"); (fail "q")))
local macro_rules | `(tactic| fail "z") => `(tactic| first | rfl | exact ⟨rfl, rfl⟩ | exact ⟨_, rfl, rfl⟩ | exact ⟨_, _, rfl, rfl⟩ | exact ⟨_, _, _, rfl, rfl⟩ | assumption)
local macro_rules | `(tactic| fail "f") => `(tactic| first
  | refine ⟨_, _, rfl, .inr (.inl rfl), ?_⟩ | refine ⟨_, _, rfl, .inl rfl, ?_⟩
  | (refine ⟨_, ?ds, rfl, .inr (.inr ⟨_, rfl, ?h1⟩), ?_⟩; (case h1 => fail "h"))
  | (refine ⟨_, ?ds, rfl, .inr ⟨_, rfl, ?h1⟩, ?_⟩; (case h1 => fail "h"))
  | ((with_reducible refine ⟨_, ?ds, ?d, rfl, ?h1, ?h2, ?_⟩); (case h1 => fail "h"); (case h2 => rfl))
  | ((with_reducible refine ⟨_, ?ds, rfl, ?h1, ?_⟩); (case h1 => fail "h"))
  | ((with_reducible refine ⟨_, ?ns, ?ds, rfl, ?h1, ?h2, ?_⟩); (case h1 => fail "h"); (case h2 => decide))
  | ((with_reducible refine ⟨_, ?ns, ?ds, rfl, (?h1 : _ = some (GO.ins _ ?ns ?ds)), ?_⟩); (case h1 => fail "h"))
  | ((with_reducible refine ⟨_, rfl, ⟨?ys, ?h1⟩, ?_⟩); (case h1 => fail "h"))
  | ((with_reducible refine ⟨_, ?xs, rfl, ?h1, ?h2, ?_⟩); (case h1 => fail "h"); (case h2 => omega)))
local macro_rules | `(tactic| fail "y") => `(tactic| first
  | ((with_reducible refine ⟨fun _ => ?_, fun hbb => ?nope⟩); (case nope => first | exact Bool.noConfusion (show true = false from hbb) | exact Bool.noConfusion (show false = true from hbb) | exact absurd (of_decide_eq_true hbb) (by omega) | exact absurd (of_decide_eq_false hbb) (by omega) | (simp at hbb; done) | (simp at hbb; omega)))
  | ((with_reducible refine ⟨fun hbb => ?nope, fun _ => ?_⟩); (case nope => first | exact Bool.noConfusion (show true = false from hbb) | exact Bool.noConfusion (show false = true from hbb) | exact absurd (of_decide_eq_true hbb) (by omega) | exact absurd (of_decide_eq_false hbb) (by omega) | (simp at hbb; done) | (simp at hbb; omega))))
local macro_rules | `(tactic| fail "w") => `(tactic| repeat fail "a")
local macro_rules | `(tactic| fail "x") => `(tactic| repeat (first | fail "a" | fail "f" | fail "e" | fail "y"))

theorem kinds_or {z : Str} (h : z ∈ kinds5) : z = "call" ∨ z = "commit" ∨ z = "list" ∨ z = "open" ∨ z = "book" := by
  simpa [kinds5] using h

theorem sc_Party_take : FnScope ["self", "letter", "kind", "round_number", "sender", "body", "signature"] ["self", "letter"] (defScope (inClass (top 80) 5)) := ⟨rfl, rfl, rfl, by decide +kernel, rfl, by decide +kernel, by decide +kernel⟩
theorem n_Party_take {P : Program} {w : World} {K : PySem.W.Frag} {mg : Str → Option Value} {base : Heap} {fd : FuncData} {dvs : List V} {kws : List (Str × V)} (e : Ev P w K mg base) (FD : FunD K "take" "Party.take" (defArgs (inClass (top 80) 5)) (defBody (inClass (top 80) 5)) (defScope (inClass (top 80) 5)) dvs kws (He.ma K (He.ga K "Party") "take") fd) : FnOk P w K mg base CX0 20 (He.ma K (He.ga K "Party") "take") fd ["self", "letter"] (spD K (F_Party_take K)) := by
  have S := sc_Party_take
  refine okD FD S (fun _ _ _ h => len2 h) fun cdv A outer s H E hr => ⟨_, (pss_cons (ps_if (pt_not (pt_val (k_cl K (o_is_signed e) (hr.mono (by decide)) e.g_is_signed (pa_cons (k_fld K e.f_Party_notary (pv 0)) (pa_cons (pv 1) pa_nil))))) (pss_one (ps_ret (pe_lst pa_nil))) pss_nil)
      (pss_cons (ps_asg (pv 1) (k_gtup K (n := 5) rfl (pgs_cons (pg_name (i := 2) S.nd rfl (by first | exact Or.inl rfl | exact Or.inr rfl)) (pgs_cons (pg_name (i := 3) S.nd rfl (by first | exact Or.inl rfl | exact Or.inr rfl)) (pgs_cons (pg_name (i := 4) S.nd rfl (by first | exact Or.inl rfl | exact Or.inr rfl)) (pgs_cons (pg_name (i := 5) S.nd rfl (by first | exact Or.inl rfl | exact Or.inr rfl)) (pgs_cons (pg_name (i := 6) S.nd rfl (by first | exact Or.inl rfl | exact Or.inr rfl)) pgs_nil)))))))
      (pss_cons (ps_if (PW.pt (pw_or (pt_cmpR op_ne (pv 3) (k_fld K e.f_Party_round_number (pv 0)) (nomark _)) (pw_or (pt_cmpR op_ne (pv 4) pe_int (nomark _)) (pw_or1 (pt_cmpR (k_notin K) (pv 2) (pe_tup (pa_cons pe_str (pa_cons pe_str (pa_cons pe_str pa_nil)))) (by with_unfolding_all rfl)))))) (pss_one (ps_ret (pe_lst pa_nil))) pss_nil)
      (pss_cons (ps_expr (k_me K e.c_Party e.h_Party_keep (o_Party_keep e) (hr.mono (by decide)) (pv 0) (pa_cons (pv 1) pa_nil)))
      (pss_cons (ps_if (PW.pt (pw_and (pt_cmpR op_eq (pv 2) pe_str (nomark _)) (pw_and1 (pt_cmpR (k_eqD K hr) (pv 5) (k_fld K e.f_Party_terms_number (pv 0)) (nomark _))))) (pss_one (ps_ret (k_me0 K e.c_Party e.h_Party_send_commit (o_Party_send_commit e) (hr.mono (by decide)) (pv 0)))) pss_nil)
      (pss_cons (ps_if (pt_cmpR op_eq (pv 2) pe_str (nomark _)) (pss_one (ps_ret (k_me K e.c_Party e.h_Party_take_list (o_Party_take_list e) (hr.mono (by decide)) (pv 0) (pa_cons (pv 5) pa_nil)))) pss_nil)
      (pss_cons (ps_if (PW.pt (pw_and (pt_cmpR op_eq (pv 2) pe_str (nomark _)) (pw_and (pt_cmp (pc_notN (k_fld K e.f_Party_list_body (pv 0)))) (pw_and1 (pt_cmp (pc_isN (k_fld K e.f_Party_book_body (pv 0)))))))) (pss_one (ps_if (pt_val (k_cl K (o_book_fits e) (hr.mono (by decide)) e.g_book_fits (pa_cons (k_fld K e.f_Party_notary (pv 0)) (pa_cons (k_fld K e.f_Party_game (pv 0)) (pa_cons (k_fld K e.f_Party_round_number (pv 0)) (pa_cons (k_fld K e.f_Party_list_body (pv 0)) (pa_cons (pv 5) pa_nil))))))) (pss_one (ps_fldF e.f_Party_book_body (by decide) (pv 0) (pv 5))) pss_nil)) pss_nil)
      (pss_one (ps_ret (pe_lst pa_nil)))))))))), ?_⟩
  intro ds G Φ h
  try dsimp only [cxK, blkK]
  obtain ⟨x, y, rfl, f, cs, sg, st, l, rfl, a, o, rfl, hl, hc, hs, hkp, inv, k⟩ := h
  have kf : Φ (.dat (.list [])) G := phi_eq (k [] cs sg st (PStep.stay a inv).up) (pG_same a)
  obtain ⟨kk, snd, b, sig⟩ := l
  have h1 := a.pt
  have h2 := a.N.nt
  have hm1 := o.m1
  have hm2 := o.m2
  obtain ⟨np1, np2, np3⟩ := a.pc
  fail "x"
  refine ⟨f.ks, f.n, f.c, f.s, cs, sg, (kk, snd, b, sig), rfl, a.N, rfl, hl, ?_⟩
  fail "x"
  refine ⟨fun hv => ?_, fun hv => ?_⟩
  · fail "x"
    exact kf
  fail "x"
  by_cases h0 : snd = 0
  case neg =>
    rw [decide_eq_false h0]
    fail "x"
    exact kf
  subst h0
  have hm0 : ((kk, (0 : Int), b, sig) : Lt).2.1 ≠ (f.m : Int) := by show (0 : Int) ≠ _; omega
  have inv1 := inv.kept hm0
  have a1 := a.setK (kept := addc (kk, 0, b, sig) st.kept) (addc_ok a.kok hl)
  have h3 := a1.pt
  have h4 := a1.N.nt
  have k1 : ∀ out cs' sg' st', PStep 1 f cs sg { st with kept := addc (kk, 0, b, sig) st.kept } out cs' sg' st' → Φ (.dat (.list (out.map ltD))) (pG K f (updG G f.kp (.lst ((addc (kk, 0, b, sig) st.kept).map ltD))) cs' sg' st') := fun out cs' sg' st' hp =>
    phi_eq (k out cs' sg' st' (PStep.kept (K := K) hp)) (pG_kept a.kc a.ks_).symm
  have kf1 := phi_eq (k1 [] cs sg _ (PStep.stay a1 inv1)) (pG_same a1)
  have hkl : ({ st with kept := addc (kk, 0, b, sig) st.kept } : PSt).kept.length < 900000 := by
    have : (addc ((kk, 0, b, sig) : Lt) st.kept).length ≤ st.kept.length + 1 := addc_len
    show (addc ((kk, 0, b, sig) : Lt) st.kept).length < 900000
    omega
  fail "x"
  refine ⟨_, _, V.str kk, _, rfl, .inl rfl, rfl, rfl, ?_⟩
  have hle : okL ((kk, (0 : Int), b, sig) : Lt) := hl
  rcases kinds_or hl.1 with e | e | e | e | e
  · have e : kk = "call" := e
    subst e
    have e2 := by_tame.eqv (a := b) (b := .num st.tn) hl.2 trivial
    fail "x"
    refine ⟨f, cs, sg, st, ("call", 0, b, sig), rfl, a, rfl, hl, by omega, ?_⟩
    fail "x"
    refine ⟨by_tame.shaped hl.2, ?_⟩
    fail "x"
    rw [show PyData.eqv b.d (.int st.tn) = decide (b = .num st.tn) from e2]
    refine ⟨fun hb => ?_, fun hb => ?_⟩
    · fail "x"
      refine ⟨f, cs, sg, { st with kept := addc ("call", 0, b, sig) st.kept }, rfl, a1, o, by omega, by omega, hkl, fun l' e => ?_⟩
      subst e
      exact k1 _ _ _ _ (PStep.commit a1 o inv1)
    · fail "x"
      exact kf1
  · have e : kk = "commit" := e
    subst e
    fail "x"
    exact kf
  · have e : kk = "list" := e
    subst e
    fail "x"
    refine ⟨f, cs, sg, st, ("list", 0, b, sig), rfl, a, rfl, hl, by omega, ?_⟩
    fail "x"
    exact ⟨f, cs, sg, { st with kept := addc ("list", 0, b, sig) st.kept }, b, rfl, a1, o, rfl, hl.2, by omega, by omega, hkl, inv1, ⟨_, _, (ix_at (addc_mem (a := (("list", 0, b, sig) : Lt)) (xs := st.kept))).1, rfl⟩, k1⟩
  · have e : kk = "open" := e
    subst e
    fail "x"
    exact kf
  · have e : kk = "book" := e
    subst e
    fail "x"
    refine ⟨f, cs, sg, st, ("book", 0, b, sig), rfl, a, rfl, hl, by omega, ?_⟩
    cases hlb : st.lb with
    | none =>
      simp only [partyO, hlb, lbD] at h3
      fail "x"
      exact kf1
    | some L =>
      obtain ⟨hL, _⟩ := inv.lb L hlb
      cases hbb : st.bb with
      | some q =>
        simp only [partyO, hlb, hbb, lbD, bbD] at h3
        fail "x"
        exact kf1
      | none =>
        simp only [partyO, hlb, hbb, lbD, bbD] at h3
        fail "x"
        refine ⟨f.g, f.A, f.ks, f.n, f.c, f.s, cs, sg, L, b, rfl, rfl, a1.gm, o.okA, a1.N, rfl, hL, rfl, rfl, hl.2, fun r hr => ?_⟩
        fail "x"
        refine ⟨fun hb => ?_, fun hb => ?_⟩
        · subst hb
          obtain ⟨p, l2, rfl, hB⟩ := hr rfl
          have hbo : l2.length ≤ 2 ∧ ∀ q ∈ p :: l2, okO q.1 := ⟨hl.2.1, fun q hq => by
            rcases List.mem_cons.mp hq with e | hq
            · rw [e]; exact hl.2.2.1
            · exact hl.2.2.2 q hq⟩
          fail "x"
          refine phi_eq (k1 [] cs sg _ (PStep.book (q := (p, l2)) a1 inv1 hbb hlb hbo hB)) ?_
          unfold pG
          rw [updG_self a1.N.hc, updG_self a1.N.hs, updG_self a1.kp]
          simp only [partyO, hlb, lbD, bbD]
          rfl
        · fail "x"
          exact kf1
theorem o_Party_take {P : Program} {w : World} {K : PySem.W.Frag} {mg : Str → Option Value} {base : Heap} (e : Ev P w K mg base) : OkD P w K mg base 20 (He.ma K (He.ga K "Party") "take") ["self", "letter"] [] (F_Party_take K) := by
  obtain ⟨fd, FD⟩ := e.d_Party_take
  exact okN FD (n_Party_take e FD) fun _ _ _ _ _ _ us hl => match us, hl with | [_, _], _ => rfl
end DL
/-! (Pd) -/
namespace DL
open PySem PySem.Spec PyProof.Rows L2

local macro_rules | `(tactic| fail "l") => `(tactic| first | exact Nat.le_of_ble_eq_true rfl | omega | (simp only [List.length_map, List.length_append, List.length_cons, List.length_nil]; omega))
local macro_rules | `(tactic| fail "aS") => `(tactic| with_reducible first | refine ws_seq ?_ | refine ws_if ?_ | refine ws_ret ?_ | refine ws_asg ?_ | refine ws_drop ?_ | refine ws_next ?_ | refine ws_retN ?_ | refine ws_fldF ?_ | refine ws_fldN ?_ | refine ws_dput ?_ | refine ws_asgT5 ?_ | refine ws_asgT4 ?_ | refine ws_asgT3 ?_)
local macro_rules | `(tactic| fail "aO") => `(tactic| with_reducible first | refine we_ix ?_ | refine we_II ?_ | refine we_IB ?_ | refine we_eq ?_ | refine we_ne ?_ | refine we_add ?_ | refine we_addG ?_ | refine we_IC ?_ | refine we_eqD ?_ | refine we_neD ?_ | refine we_inD ?_ | refine we_notInD ?_ | refine we_in ?_ | refine we_inSg ?_)
local macro_rules | `(tactic| fail "aC") => `(tactic| with_reducible first | refine we_len ?_ | refine we_lenD ?_ | refine we_all ?_ | refine we_any ?_ | refine we_int1 ?_ | refine we_strI ?_ | refine we_listOf ?_ | refine we_tupOf ?_ | refine we_sum ?_ | refine we_abs ?_ | refine we_min2 ?_ | refine we_gcd ?_)
local macro_rules | `(tactic| fail "aE") => `(tactic| first
  | ((with_reducible apply we_var); rfl)
  | with_reducible refine we_int ?_ | with_reducible refine we_str ?_ | with_reducible refine we_non ?_ | with_reducible refine we_bl ?_
  | ((with_reducible show WE _ (tOp _ _ _) _ _ _); fail "aO")
  | ((with_reducible show WE _ (tCB _ _) _ _ _); fail "aC")
  | with_reducible refine we_call ?_ | with_reducible refine we_fld ?_ | with_reducible refine we_meth' ?_ | with_reducible refine we_tup ?_ | with_reducible refine we_isi (by decide) ?_ | with_reducible refine we_lst ?_ | with_reducible refine we_lstG ?_
  | with_reducible refine we_and ?_ | with_reducible refine we_or ?_ | with_reducible refine we_not ?_ | with_reducible refine we_chainI ?_ | with_reducible refine we_isN ?_ | with_reducible refine we_notN ?_ | with_reducible refine we_append ?_ | with_reducible refine we_extend ?_ | with_reducible refine we_index ?_
  | with_reducible refine we_slL ?_ | with_reducible refine we_slT ?_ | with_reducible refine we_dget ?_ | with_reducible refine we_din ?_ | with_reducible refine we_dnotin ?_ | with_reducible refine we_dictG ?_ | with_reducible refine we_prop ?_ | with_reducible refine we_join ?_ | with_reducible refine we_neg ?_ | with_reducible refine we_lenSet ?_)
local macro_rules | `(tactic| fail "aT") => `(tactic| with_reducible first | refine wt_val ?_ | refine wt_tst ?_ | refine wt_and ?_ | refine wt_or ?_ | refine wt_not ?_ | refine wt_yes ?_)
local macro_rules | `(tactic| fail "aD") => `(tactic| with_reducible first | refine dEq_ii ?_ | refine dEq_ss ?_ | refine dEq_bb ?_ | refine dEq_nn ?_ | refine dEq_ni ?_ | refine dEq_in ?_ | refine dAdd_ii ?_ | refine dInt_i ?_ | refine dInt_b ?_ | refine dLen_l ?_ | refine dLen_t ?_)
local macro_rules | `(tactic| fail "a") => `(tactic| first
  | ((with_reducible show WE _ _ _ _ _); fail "aE")
  | ((with_reducible show WA _ _ _ _ _); (with_reducible first | refine wa_cons ?_ | refine wa_nil ?_))
  | ((with_reducible show WS _ _ _ _ _); fail "aS")
  | ((with_reducible show WT _ _ _ _ _); fail "aT")
  | ((with_reducible show WG _ _ _ _ _ _ _); first | with_reducible refine wg_name ?_ | ((with_reducible refine wg_tup ?_ ?_); rfl))
  | ((with_reducible show WGs _ _ _ _ _ _ _); (with_reducible first | refine wgs_cons ?_ | refine wgs_nil ?_))
  | ((with_reducible show WO _ _ _ _ _); (with_reducible first | refine wo_none ?_ | refine wo_some ?_))
  | ((with_reducible show dIx _ _ _ _); first | ((with_reducible apply dIx_t); rfl) | ((with_reducible apply dIx_l); rfl))
  | ((with_reducible show dAdd _ _ _ _); first | with_reducible refine dAdd_ii ?_ | ((with_reducible refine dAdd_ll ?_ ?_); fail "l") | ((with_reducible apply dAdd_ol); (fail "h"); (fail "l")) | ((with_reducible refine dAdd_tt ?_ ?_); fail "l") | ((with_reducible refine dAdd_ss ?_ ?_); fail "l"))
  | fail "aD")
local macro_rules | `(tactic| fail "e") => `(tactic| ((fail_if_success (with_reducible show ∃ _ : NF, _)); (fail_if_success (with_reducible show ∃ _ : PF, _)); (fail_if_success (with_reducible show ∃ _ : DF, _)); (first | with_reducible refine ⟨_, _, rfl, rfl, ?_⟩ | with_reducible refine ⟨_, rfl, ?_⟩ | with_reducible refine ⟨rfl, ?_⟩ | with_reducible refine ⟨_, _, rfl, ?_⟩ | with_reducible refine ⟨_, _, _, rfl, ?_⟩ | with_reducible refine ⟨_, _, _, _, rfl, ?_⟩ | with_reducible refine ⟨_, _, _, _, _, rfl, ?_⟩ | ((refine ⟨?l, ?_⟩); (case l => (with_reducible show _ < 1000000); fail "l")) | ((refine ⟨?l, ?_⟩); (case l => (with_reducible show _ ≤ 1000000); fail "l")))))
local macro_rules | `(tactic| fail "g") => `(tactic| ((funext gb; simp only [updG, dropG]; repeat' split) <;> first | rfl | (exfalso; simp_all; done) | (simp_all; done)))
local macro_rules | `(tactic| fail "q") => `(tactic| first | assumption | exact Ne.symm (by assumption))
local macro_rules | `(tactic| fail "h") => `(tactic| first | assumption | exact updG_same | ((rw [updG_ne]); (fail "h"); (fail "q")))
local macro_rules | `(tactic| fail "z") => `(tactic| first | rfl | exact ⟨rfl, rfl⟩ | exact ⟨_, rfl, rfl⟩ | exact ⟨_, _, rfl, rfl⟩ | exact ⟨_, _, _, rfl, rfl⟩ | assumption)
local macro_rules | `(tactic| fail "f") => `(tactic| first
  | refine ⟨_, _, rfl, .inr (.inl rfl), ?_⟩ | refine ⟨_, _, rfl, .inl rfl, ?_⟩
  | (refine ⟨_, ?ds, rfl, .inr (.inr ⟨_, rfl, ?h1⟩), ?_⟩; (case h1 => fail "h"))
  | (refine ⟨_, ?ds, rfl, .inr ⟨_, rfl, ?h1⟩, ?_⟩; (case h1 => fail "h"))
  | ((with_reducible refine ⟨_, ?ds, ?d, rfl, ?h1, ?h2, ?_⟩); (case h1 => fail "h"); (case h2 => rfl))
  | ((with_reducible refine ⟨_, ?ds, rfl, ?h1, ?_⟩); (case h1 => fail "h"))
  | ((with_reducible refine ⟨_, ?ns, ?ds, rfl, ?h1, ?h2, ?_⟩); (case h1 => fail "h"); (case h2 => decide))
  | ((with_reducible refine ⟨_, ?ns, ?ds, rfl, (?h1 : _ = some (GO.ins _ ?ns ?ds)), ?_⟩); (case h1 => fail "h"))
  | ((with_reducible refine ⟨_, rfl, ⟨?ys, ?h1⟩, ?_⟩); (case h1 => fail "h"))
  | ((with_reducible refine ⟨_, ?xs, rfl, ?h1, ?h2, ?_⟩); (case h1 => fail "h"); (case h2 => omega)))
local macro_rules | `(tactic| fail "y") => `(tactic| first
  | ((with_reducible refine ⟨fun _ => ?_, fun hbb => ?nope⟩); (case nope => first | exact Bool.noConfusion (show true = false from hbb) | exact Bool.noConfusion (show false = true from hbb) | exact absurd (of_decide_eq_true hbb) (by omega) | exact absurd (of_decide_eq_false hbb) (by omega) | (simp at hbb; done) | (simp at hbb; omega)))
  | ((with_reducible refine ⟨fun hbb => ?nope, fun _ => ?_⟩); (case nope => first | exact Bool.noConfusion (show true = false from hbb) | exact Bool.noConfusion (show false = true from hbb) | exact absurd (of_decide_eq_true hbb) (by omega) | exact absurd (of_decide_eq_false hbb) (by omega) | (simp at hbb; done) | (simp at hbb; omega))))
local macro_rules | `(tactic| fail "w") => `(tactic| repeat fail "a")
local macro_rules | `(tactic| fail "x") => `(tactic| repeat (first | fail "a" | fail "f" | fail "e" | fail "y"))

/-! ### a party's beginning and end -/
def ticks5 : List Rt := [(0, 1), (1, 2), (1, 3), (5, 6), (999, 1000)]
def fracR (T : Rt) : Rt := addR T (-(mkR (T.1 / T.2) 1).1, (mkR (T.1 / T.2) 1).2)
def okT (l : List Rt) : Prop := smSum (0, 1) l ∧ Sm (l.foldl addR (0, 1)) ∧ Sm (mkR ((l.foldl addR (0, 1)).1 / (l.foldl addR (0, 1)).2) 1) ∧ Sm (fracR (l.foldl addR (0, 1))) ∧ 0 ≤ cmpR (fracR (l.foldl addR (0, 1))) (0, 1) ∧ cmpR (fracR (l.foldl addR (0, 1))) (1, 1) < 0
instance (l : List Rt) : Decidable (okT l) := by unfold okT; infer_instance
theorem okT1 : ∀ a ∈ ticks5, okT [a] := by decide +kernel
theorem okT2 : ∀ a ∈ ticks5, ∀ b ∈ ticks5, okT [a, b] := by decide +kernel
theorem okT3 : ∀ a ∈ ticks5, ∀ b ∈ ticks5, ∀ c ∈ ticks5, okT [a, b, c] := by decide +kernel
theorem tick_of {a : Rt} (h : a ∈ ticks) (n : a ≠ (1, 1)) : a ∈ ticks5 := by
  simp only [ticks, ticks5, List.mem_cons, List.not_mem_nil, or_false] at h ⊢
  rcases h with h | h | h | h | h | h
  · exact .inl h
  · exact .inr (.inl h)
  · exact .inr (.inr (.inl h))
  · exact .inr (.inr (.inr (.inl h)))
  · exact .inr (.inr (.inr (.inr h)))
  · exact absurd h n
theorem okT_of : ∀ {l : List Rt}, 1 ≤ l.length → l.length ≤ 3 → (∀ a ∈ l, a ∈ ticks5) → okT l
  | [], h, _, _ => by cases h
  | [a], _, _, h => okT1 a (h a (by simp))
  | [a, b], _, _, h => okT2 a (h a (by simp)) b (h b (by simp))
  | [a, b, c], _, _, h => okT3 a (h a (by simp)) b (h b (by simp)) c (h c (by simp))
  | a :: b :: c :: d :: l, _, h, _ => by simp at h
theorem profs_in : ∀ {ms r1 : List Nat} {rows : List (List Nat)} {r0 : List Nat}, r0 ∈ rows → r1.length = ms.length → (∀ p ∈ ms.zip r1, p.2 < p.1) → r0 ++ r1 ∈ ms.foldl (fun rows m => rows.flatMap fun r => (List.range m).map fun k => r ++ [k]) rows
  | [], r1, rows, r0, h, e, _ => by
    have e : r1 = [] := List.length_eq_zero_iff.mp e
    subst e
    rw [List.append_nil]; exact h
  | m :: ms, [], rows, r0, h, e, _ => by cases e
  | m :: ms, k :: r1, rows, r0, h, e, hp => by
    have hk : k < m := hp (m, k) (by simp)
    have h1 : r0 ++ [k] ∈ rows.flatMap fun r => (List.range m).map fun k => r ++ [k] := List.mem_flatMap.mpr ⟨r0, h, List.mem_map.mpr ⟨k, List.mem_range.mpr hk, rfl⟩⟩
    have h2 := profs_in (ms := ms) (r1 := r1) h1 (by simpa using e) fun p q => hp p (by rw [List.zip_cons_cons]; exact List.mem_cons_of_mem _ q)
    rw [List.append_assoc] at h2
    exact h2
theorem prof_in {ms r : List Nat} (e : r.length = ms.length) (h : ∀ p ∈ ms.zip r, p.2 < p.1) : r ∈ profs ms := profs_in (r0 := []) (by simp) e h
def allMs : List (List Nat) := [[1], [2], [1, 1], [1, 2], [2, 1], [2, 2], [1, 1, 1], [1, 1, 2], [1, 2, 1], [1, 2, 2], [2, 1, 1], [2, 1, 2], [2, 2, 1], [2, 2, 2]]
theorem ms_all : ∀ {ms : List Nat}, 1 ≤ ms.length → ms.length ≤ 3 → (∀ m ∈ ms, 1 ≤ m ∧ m ≤ 2) → ms ∈ allMs := by
  have two : ∀ m : Nat, 1 ≤ m ∧ m ≤ 2 → m = 1 ∨ m = 2 := fun m h => by omega
  intro ms h1 h3 h
  match ms, h1, h3, h with
  | [a], _, _, h => rcases two a (h a (by simp)) with rfl | rfl <;> decide
  | [a, b], _, _, h => rcases two a (h a (by simp)) with rfl | rfl <;> rcases two b (h b (by simp)) with rfl | rfl <;> decide
  | [a, b, c], _, _, h => rcases two a (h a (by simp)) with rfl | rfl <;> rcases two b (h b (by simp)) with rfl | rfl <;> rcases two c (h c (by simp)) with rfl | rfl <;> decide
theorem pnum_all : ∀ ms ∈ allMs, ∀ r ∈ profs ms, (profs ms)[pnum ms r]? = some r ∧ ix r (profs ms) = pnum ms r := by decide +kernel
theorem okG.ms {A : List Ag} (h : okG A) : msOf A ∈ allMs := ms_all (by unfold msOf; rw [List.length_map]; exact h.n1) (by unfold msOf; rw [List.length_map]; exact h.n3) fun m hm => by
  obtain ⟨a, ha, rfl⟩ := List.mem_map.mp hm
  exact ⟨h.k1 a ha, h.k2 a ha⟩
abbrev kindsOf (l : List (Opn × Int)) : List Nat := l.map fun p => p.1.2.2.1.toNat
abbrev totOf (l : List (Opn × Int)) : Rt := (l.map fun p => p.1.2.2.2).foldl addR (0, 1)
def resN (A : List Ag) (rl : List (List Rt)) (l : List (Opn × Int)) : Nat := drawnD (rl.getD (pnum (msOf A) (kindsOf l)) []) (fracR (totOf l))
def resD (A : List Ag) (rl : List (List Rt)) (l : List (Opn × Int)) : PyData := .tuple [prD (kindsOf l), .int (resN A rl l : Nat)]
/-- what fits the list: valid kinds, tickets -/
structure BkOk (A : List Ag) (l : List (Opn × Int)) : Prop where
  len : l.length = A.length
  k0 : ∀ p ∈ l, 0 ≤ p.1.2.2.1
  prof : kindsOf l ∈ profs (msOf A)
  kl : (kindsOf l).length = A.length
  kz : ∀ p ∈ (msOf A).zip (kindsOf l), p.2 < p.1
  tk : ∀ p ∈ l, p.1.2.2.2 ∈ ticks5
theorem BookP.ok {A : List Ag} {cs : List Ct} {sg : List Sg} {L : List (Int × Int)} {l : List (Opn × Int)} (h : BookP A cs sg L l) : BkOk A l := by
  have hf : ∀ p ∈ l, ∃ i, FitsO A cs L i p.1 ∧ l[i]? = some p := fun p hp => by
    obtain ⟨i, hi, e⟩ := List.mem_iff_getElem.mp hp
    have e2 : l[i]? = some p := by rw [List.getElem?_eq_getElem hi, e]
    exact ⟨i, (h.2 i p e2).2, e2⟩
  have kz : ∀ p ∈ (msOf A).zip (kindsOf l), p.2 < p.1 := fun p hp => by
    obtain ⟨i, hi, e⟩ := List.mem_iff_getElem.mp hp
    have e2 : ((msOf A).zip (kindsOf l))[i]? = some p := by rw [List.getElem?_eq_getElem hi, e]
    obtain ⟨e3, e4⟩ := List.getElem?_zip_eq_some.mp e2
    obtain ⟨q, e5, e6⟩ := map_get e4
    unfold msOf at e3
    obtain ⟨a, e7, e8⟩ := map_get e3
    obtain ⟨k0, ⟨a', ha', k1⟩, _, _, _⟩ := (h.2 i q e5).2
    rw [e7] at ha'
    cases ha'
    rw [← e6, ← e8]
    omega
  have kl : (kindsOf l).length = (msOf A).length := by unfold msOf; rw [List.length_map, List.length_map, h.1]
  refine ⟨h.1, fun p hp => ?_, prof_in kl kz, by rw [List.length_map, h.1], kz, fun p hp => ?_⟩
  · obtain ⟨i, f, _⟩ := hf p hp
    exact f.k0
  · obtain ⟨i, f, _⟩ := hf p hp
    exact tick_of f.tk.1 f.tk.2
abbrev F_Party_result (K : PySem.W.Frag) : FT := F1 fun x G Φ => ∃ (f : PF) (cs : List Ct) (sg : List Sg) (st : PSt), x = .obj f.p ∧ PAt K f cs sg st G ∧ POk f ∧ PInv f cs sg st ∧
  (st.bb = none → Φ (.dat .none) G) ∧ ∀ q, st.bb = some q → Φ (.dat (resD f.A f.rl (q.1 :: q.2))) G
abbrev F_Party_init (K : PySem.W.Frag) : FT := F10 fun x ga ru no ke rn me ki sa ti G Φ => ∃ (f : PF) (cs : List Ct) (sg : List Sg), x = .obj f.p ∧ G f.p = some (.ins (He.ga K "Party") [] []) ∧ ga = .obj f.g ∧ ru = .dat (ruleD f.A.length f.rl) ∧ no = .obj f.n ∧ ke = .dat (.str f.key) ∧ rn = .dat (.int 1) ∧
  me = .dat (.int (f.m : Nat)) ∧ ki = .dat (.int f.kd) ∧ sa = .dat (.str f.salt) ∧ ti = .dat (rT f.tk) ∧ G f.g = some (gameO K f.A) ∧ NotAt K f.ks f.n f.c f.s cs sg G ∧ f.c ≠ f.s ∧ POk f ∧ (∃ a, f.A[f.m - 1]? = some a ∧ 0 ≤ f.kd ∧ f.kd < (a.2.length : Int)) ∧ f.tk ≠ (1, 1) ∧ cs.length < 900000 ∧
  ∀ kp tn a b, (Ct.terms a b).ok → G kp = none → kp ≠ f.p → Φ (.dat .none) (updG (updG (updG G f.c (.lst ((addc (.terms a b) cs).map Ct.d))) kp (.lst [])) f.p (partyO K { f with kp := kp } ⟨tn, none, none, none, []⟩))

theorem sc_Party_result : FnScope ["self", "profile", "tickets", "lot", "pair"] ["self"] (defScope (inClass (top 80) 1)) := ⟨rfl, rfl, rfl, by decide +kernel, rfl, by decide +kernel, by decide +kernel⟩
theorem n_Party_result {P : Program} {w : World} {K : PySem.W.Frag} {mg : Str → Option Value} {base : Heap} {fd : FuncData} {dvs : List V} {kws : List (Str × V)} (e : Ev P w K mg base) (FD : FunD K "result" "Party.result" (defArgs (inClass (top 80) 1)) (defBody (inClass (top 80) 1)) (defScope (inClass (top 80) 1)) dvs kws (geA K "Party" "result") fd) : FnOk P w K mg base CX0 5 (geA K "Party" "result") fd ["self"] (spD K (F_Party_result K)) := by
  have S := sc_Party_result
  refine okD FD S (fun _ _ _ h => len1 h) fun cdv A outer s H E hr => ⟨_, (pss_cons (ps_if (pt_cmp (pc_isN (k_fld K e.f_Party_book_body (pv 0)))) (pss_one (ps_ret pe_non)) pss_nil)
      (pss_cons (ps_set (i := 1) S.nd rfl (by first | exact Or.inl rfl | exact Or.inr rfl) (pe_callTy (k_tup K) rfl e.x_tuple (by decide +kernel) (pa_cons (pe_lc (own := [("pair", 4)]) rfl S.nd (k_itup K (k_fld K e.f_Party_book_body (pv 0))) (blkOk_by (by rfl)) (fun _ _ _ _ _ => (pg_name (i := 4) S.nd rfl (by first | exact Or.inl rfl | exact Or.inr rfl))) (fun _ _ _ _ _ => pts_nil) (fun _ _ _ _ _ => (pe_ix (k_ix K) (pe_ix (k_ix K) (pv 4) pe_int (fun _ _ => rfl)) pe_int (fun _ _ => rfl)))) pa_nil)))
      (pss_cons (ps_set (i := 2) S.nd rfl (by first | exact Or.inl rfl | exact Or.inr rfl) (k_cl K (o_total e) (hr.mono (by decide)) e.g_total (pa_cons (pe_lc (own := [("pair", 4)]) rfl S.nd (k_itup K (k_fld K e.f_Party_book_body (pv 0))) (blkOk_by (by rfl)) (fun _ _ _ _ _ => (pg_name (i := 4) S.nd rfl (by first | exact Or.inl rfl | exact Or.inr rfl))) (fun _ _ _ _ _ => pts_nil) (fun _ _ _ _ _ => (pe_ix (k_ix K) (pe_ix (k_ix K) (pv 4) pe_int (fun _ _ => rfl)) pe_int (fun _ _ => rfl)))) pa_nil)))
      (pss_cons (ps_set (i := 3) S.nd rfl (by first | exact Or.inl rfl | exact Or.inr rfl) (pe_ix (k_ix K) (pe_ix (k_ix K) (k_fld K e.f_Party_rule (pv 0)) (k_cl K (o_profile_number e) (hr.mono (by decide)) e.g_profile_number (pa_cons (k_fld K e.f_Party_game (pv 0)) (pa_cons (pv 1) pa_nil))) (fun _ _ => rfl)) pe_int (fun _ _ => rfl)))
      (pss_one (ps_ret (pe_tup (pa_cons (pv 1) (pa_cons (k_cl K (o_drawn e) (hr.mono (by decide)) e.g_drawn (pa_cons (pv 3) (pa_cons (k_cl K (o_subtract e) (hr.mono (by decide)) e.g_subtract (pa_cons (pv 2) (pa_cons (k_cl K (o_make1 e) (hr.mono (by decide)) e.g_make (pa_cons (k_cl K (o_floor_of e) (hr.mono (by decide)) e.g_floor_of (pa_cons (pv 2) pa_nil)) pa_nil)) pa_nil))) pa_nil))) pa_nil))))))))), ?_⟩
  intro ds G Φ h
  try dsimp only [cxK, blkK]
  obtain ⟨x, rfl, f, cs, sg, st, rfl, a, o, inv, k0, k1⟩ := h
  have h1 := a.pt
  have h2 := a.gm
  cases hbb : st.bb with
  | none =>
    simp only [partyO, hbb, bbD] at h1
    fail "x"
    exact k0 hbb
  | some q =>
    have k := k1 q hbb
    obtain ⟨hbo, L, hlb, hB⟩ := inv.bb q hbb
    have B := hB.ok
    have n3 := o.okA.n3
    have n1 := o.okA.n1
    have hT : okT ((q.1 :: q.2).map fun p => p.1.2.2.2) := okT_of (by rw [List.length_map, B.len]; exact n1) (by rw [List.length_map, B.len]; exact n3) fun a ha => by
      obtain ⟨p, hp, rfl⟩ := List.mem_map.mp ha
      exact B.tk p hp
    obtain ⟨t1, t2, t3, t4, t5, t6⟩ := hT
    simp only [partyO, hbb, bbD] at h1
    have hlen : (q.1 :: q.2).length ≤ 1000000 := by rw [B.len]; omega
    fail "x"
    refine we_mapL (wi_tup ?_)
    fail "x"
    refine ⟨[4], Opn × Int, q.1 :: q.2, obD, fun p => .int p.1.2.2.1, rfl, by decide, hlen, fun p hp => ?_, ?_⟩
    · fail "x"
      fail "z"
    have ek : ((q.1 :: q.2).map fun p => PyData.int p.1.2.2.1) = (kindsOf (q.1 :: q.2)).map fun k => PyData.int (k : Nat) := by
      rw [List.map_map]
      exact List.map_congr_left fun p hp => congrArg PyData.int (Int.toNat_of_nonneg (B.k0 p hp)).symm
    rw [ek]
    fail "x"
    refine we_mapL (wi_tup ?_)
    fail "x"
    refine ⟨[4], Opn × Int, q.1 :: q.2, obD, fun p => rT p.1.2.2.2, rfl, by decide, hlen, fun p hp => ?_, ?_⟩
    · fail "x"
      fail "z"
    fail "x"
    refine ⟨(q.1 :: q.2).map fun p => p.1.2.2.2, by rw [List.map_map]; rfl, t1, ?_⟩
    obtain ⟨p1, p2⟩ := pnum_all _ o.okA.ms _ B.prof
    have hlt : pnum (msOf f.A) (kindsOf (q.1 :: q.2)) < f.rl.length := by rw [o.okR.len]; exact (List.getElem?_eq_some_iff.mp p1).1
    have hlot : f.rl[pnum (msOf f.A) (kindsOf (q.1 :: q.2))]? = some f.rl[pnum (msOf f.A) (kindsOf (q.1 :: q.2))] := List.getElem?_eq_getElem hlt
    have hlm := o.okR.lots _ (List.getElem_mem hlt)
    unfold resD resN at k
    rw [List.getD_eq_getElem?_getD, hlot, Option.getD_some] at k
    generalize f.rl[pnum (msOf f.A) (kindsOf (q.1 :: q.2))] = lot at hlot hlm k
    fail "x"
    refine ⟨f.g, f.A, kindsOf (q.1 :: q.2), rfl, h2, o.okA, rfl, B.kl, B.kz, ?_⟩
    refine dIx_l (atI_nat (by rw [List.getElem?_map, hlot]; rfl)) ?_
    fail "x"
    refine we_callD (dds := [.dat (.int 1)]) (fun B H => .cons (Dq.int 1) .nil) ?_
    fail "x"
    refine ⟨t2, ?_⟩
    fail "x"
    refine ⟨by decide, by decide, ?_⟩
    fail "x"
    refine ⟨t2, t3, ?_⟩
    fail "x"
    refine ⟨hlm, t4, t5, t6, ?_⟩
    fail "x"
    exact k
theorem o_Party_result {P : Program} {w : World} {K : PySem.W.Frag} {mg : Str → Option Value} {base : Heap} (e : Ev P w K mg base) : OkD P w K mg base 5 (geA K "Party" "result") ["self"] [] (F_Party_result K) := by
  obtain ⟨fd, FD⟩ := e.d_Party_result
  exact okN FD (n_Party_result e FD) fun _ _ _ _ _ _ us hl => match us, hl with | [_], _ => rfl
theorem sc_Party_init : FnScope ["self", "game", "rule", "notary", "key", "round_number", "member", "kind", "salt", "ticket"] ["self", "game", "rule", "notary", "key", "round_number", "member", "kind", "salt", "ticket"] (defScope (inClass (top 80) 0)) := ⟨rfl, rfl, rfl, by decide +kernel, rfl, by decide +kernel, by decide +kernel⟩
theorem n_Party_init {P : Program} {w : World} {K : PySem.W.Frag} {mg : Str → Option Value} {base : Heap} {fd : FuncData} {dvs : List V} {kws : List (Str × V)} (e : Ev P w K mg base) (FD : FunD K "__init__" "Party.__init__" (defArgs (inClass (top 80) 0)) (defBody (inClass (top 80) 0)) (defScope (inClass (top 80) 0)) dvs kws (He.ma K (He.ga K "Party") "__init__") fd) : FnOk P w K mg base CX0 18 (He.ma K (He.ga K "Party") "__init__") fd ["self", "game", "rule", "notary", "key", "round_number", "member", "kind", "salt", "ticket"] (spD K (F_Party_init K)) := by
  have S := sc_Party_init
  refine okD FD S (fun _ _ _ h => len10 h) fun cdv A outer s H E hr => ⟨_, (pss_cons (ps_expr (k_cl K (o_check_round e) (hr.mono (by decide)) e.g_check_round (pa_cons (pv 1) (pa_cons (pv 3) (pa_cons (pv 5) pa_nil)))))
      (pss_cons (ps_if (PW.pt (pw_or (pt_not (pt_chain op_le op_le pe_int (pv 6) (pe_callB (k_len K) rfl e.x_len (by decide +kernel) (pa_cons (k_fld K e.f_Game_agents (pv 1)) pa_nil)))) (pw_or1 (pt_not (pt_val (k_me K e.c_Notary e.h_Notary_is_key (o_Notary_is_key e) (hr.mono (by decide)) (pv 3) (pa_cons (pv 6) (pa_cons (pv 4) pa_nil)))))))) pss_never pss_nil)
      (pss_cons (ps_if (PW.pt (pw_or (pt_not (pt_val (k_cl K (o_is_kind e) (hr.mono (by decide)) e.g_is_kind (pa_cons (pv 1) (pa_cons (pv 6) (pa_cons (pv 7) pa_nil)))))) (pw_or1 (pt_not (pt_val (k_cl K (o_is_ticket e) (hr.mono (by decide)) e.g_is_ticket (pa_cons (pv 9) pa_nil))))))) pss_never pss_nil)
      (pss_cons (ps_fldN (ns := []) e.c_Party e.a_Party_game (by decide) (by decide) (pv 0) (pv 1))
      (pss_cons (ps_fldN (ns := ["game"]) e.c_Party e.a_Party_rule (by decide) (by decide) (pv 0) (pv 2))
      (pss_cons (ps_fldN (ns := ["game", "rule"]) e.c_Party e.a_Party_notary (by decide) (by decide) (pv 0) (pv 3))
      (pss_cons (ps_fldN (ns := ["game", "rule", "notary"]) e.c_Party e.a_Party_key (by decide) (by decide) (pv 0) (pv 4))
      (pss_cons (ps_fldN (ns := ["game", "rule", "notary", "key"]) e.c_Party e.a_Party_round_number (by decide) (by decide) (pv 0) (pv 5))
      (pss_cons (ps_fldN (ns := ["game", "rule", "notary", "key", "round_number"]) e.c_Party e.a_Party_member (by decide) (by decide) (pv 0) (pv 6))
      (pss_cons (ps_fldN (ns := ["game", "rule", "notary", "key", "round_number", "member"]) e.c_Party e.a_Party_report (by decide) (by decide) (pv 0) (pe_tup (pa_cons pe_str (pa_cons (pv 8) (pa_cons (pv 7) (pa_cons (pv 9) pa_nil))))))
      (pss_cons (ps_fldN (ns := ["game", "rule", "notary", "key", "round_number", "member", "report"]) e.c_Party e.a_Party_terms_number (by decide) (by decide) (pv 0) (k_me K e.c_Notary e.h_Notary_number (o_Notary_number e) (hr.mono (by decide)) (pv 3) (pa_cons (k_cl K (o_terms e) (hr.mono (by decide)) e.g_terms (pa_cons (pv 1) (pa_cons (pv 2) pa_nil))) pa_nil)))
      (pss_cons (ps_fldN (ns := ["game", "rule", "notary", "key", "round_number", "member", "report", "terms_number"]) e.c_Party e.a_Party_commit (by decide) (by decide) (pv 0) pe_non)
      (pss_cons (ps_fldN (ns := ["game", "rule", "notary", "key", "round_number", "member", "report", "terms_number", "commit"]) e.c_Party e.a_Party_list_body (by decide) (by decide) (pv 0) pe_non)
      (pss_cons (ps_fldN (ns := ["game", "rule", "notary", "key", "round_number", "member", "report", "terms_number", "commit", "list_body"]) e.c_Party e.a_Party_book_body (by decide) (by decide) (pv 0) pe_non)
      (pss_one (ps_fldN (ns := ["game", "rule", "notary", "key", "round_number", "member", "report", "terms_number", "commit", "list_body", "book_body"]) e.c_Party e.a_Party_kept (by decide) (by decide) (pv 0) (pe_lstG pa_nil))))))))))))))))), ?_⟩
  intro ds G Φ h
  try dsimp only [cxK, blkK]
  obtain ⟨x, ga, ru, no, ke, rn, me, ki, sa, ti, rfl, f, cs, sg, rfl, hp, rfl, rfl, rfl, rfl, rfl, rfl, rfl, rfl, rfl, hg, N, hcs, o, ⟨ag, hag, hk0, hk1⟩, htk, hc, k⟩ := h
  have h2 := N.nt
  have hm1 := o.m1
  have hm2 := o.m2
  have hl : ((f.A.map agD).length : Int) = (f.A.length : Int) := by rw [List.length_map]
  fail "x"
  refine ⟨f.g, f.A, f.ks, f.n, f.c, f.s, cs, sg, rfl, hg, o.okA, rfl, N, o.klen, rfl, ?_⟩
  fail "x"
  refine ⟨f.ks, f.n, f.c, f.s, cs, sg, f.m, f.key, rfl, N, rfl, rfl, o.key, ?_⟩
  fail "x"
  refine ⟨f.g, f.A, f.m - 1, ag, f.kd, rfl, hg, o.okA, hag, congrArg (fun i => Dt.dat (.int i)) (by omega), rfl, ?_⟩
  rw [decide_eq_true hk0, decide_eq_true hk1]
  fail "x"
  refine ⟨o.tk, ?_⟩
  rw [decide_eq_true htk]
  have hnp : f.n ≠ f.p := neG h2 hp (ins_ne (by decide +kernel))
  have hgp : f.g ≠ f.p := neG hg hp (ins_ne (by decide +kernel))
  have hcp : f.c ≠ f.p := neG N.hc hp (by intro z; cases z)
  have hsp : f.s ≠ f.p := neG N.hs hp (by intro z; cases z)
  fail "x"
  simp only [updG_updG]
  fail "x"
  refine ⟨f.g, f.A, f.rl, rfl, by rw [updG_ne hgp]; exact hg, o.okA, o.okR, rfl, fun a b hab => ?_⟩
  fail "x"
  refine ⟨f.ks, f.n, f.c, f.s, cs, sg, .terms a b, rfl, N.other hnp hcp hsp, rfl, hab, hc, ?_⟩
  fail "x"
  intro kp hkp
  simp only [updG_updG] at hkp
  have h3 := N.hc
  have hkc : kp ≠ f.c := fun z => by
    subst z
    rw [updG_ne hcp, updG_same] at hkp
    cases hkp
  have hkf : kp ≠ f.p := fun z => by
    subst z
    rw [updG_same] at hkp
    cases hkp
  rw [updG_ne hkf, updG_ne hkc, updG_ne hkf] at hkp
  fail "x"
  exact phi_eq (k kp _ a b hab hkp hkf) (by fail "g")
end DL
/-! (Dl16) -/
namespace DL
open PySem PySem.Spec PyProof.Rows L2
/-! ### constructors called by keywords -/
structure OkK (P : Program) (w : World) (K : PySem.W.Frag) (mg : Str → Option Value) (base : Heap) (k : Nat) (f : Addr) (ps : List Str) (n : Nat) (ks : List Str) (gV : List V → List V → List V) (F : FT) : Prop where
  ex : ∃ (fd : FuncData) (g : List Value → List Value → List Value), KBn K fd ps n ks g gV ∧ FnOk P w K mg base CX0 k f fd ps (spD K F)
section
variable {P : Program} {w : World} {K : PySem.W.Frag} {mg : Str → Option Value} {base : Heap} {k j : Nat} {f : Addr} {ps : List Str} {F : FT} {x qual : Str} {params : Arguments} {body : List Stmt} {scope : Scope} {kws : List (Str × V)} {fd : FuncData}
theorem OkK.mono {n : Nat} {ks : List Str} {gV : List V → List V → List V} (O : OkK P w K mg base j f ps n ks gV F) (h : j ≤ k) : OkK P w K mg base k f ps n ks gV F := by
  obtain ⟨fd, g, b, d⟩ := O.ex
  exact ⟨fd, g, b, d.mono h⟩
/-- every keyword is written -/
theorem okKN (D : FunD K x qual params body scope [] kws f fd) (O : FnOk P w K mg base CX0 k f fd ps (spD K F)) (n : Nat) (ks : List Str)
    (h : ∀ (kV doc pm : Value) (an : Option Addr) (cdv ct : Value) (us ws : List Value), us.length = n → ws.length = ks.length → bindArgs (PySem.W.fnOf x qual params body scope .none kV doc pm an cdv ct) ⟨us, ks.zip ws⟩ = pure (ps.zip (us ++ ws))) :
    OkK P w K mg base k f ps n ks (fun vs zs => vs ++ zs) F := by
  refine ⟨fd, fun us ws => us ++ ws, ⟨fun s us ws X l1 l2 => ?_, fun r1 r2 => r1.append r2⟩, O⟩
  obtain ⟨oc, od, dV, kV, doc, pm, an, cdv, ct, osl, rfl, lk, hcd, hD, hK⟩ := D.ex
  rcases hD with ⟨_, rfl⟩ | ⟨e, _⟩
  · exact .of_eq (h kV doc pm an cdv ct us ws l1 l2)
  · exact absurd rfl e
theorem okK0 (D : FunD K x qual params body scope [] kws f fd) (O : FnOk P w K mg base CX0 k f fd ps (spD K F)) (n : Nat) (ks : List Str) (ms : List (Str × V)) (g : {α : Type} → List α → List α → List α → List α) (hk : kws ≠ []) (hms : ∀ q ∈ ms, q ∈ kws)
    (hrel : ∀ {vs mz zs : List V} {us mv ws : List Value}, Vals vs us → Vals mz mv → Vals zs ws → Vals (g vs mz zs) (g us mv ws))
    (h : ∀ (D : Addr) (doc pm : Value) (an : Option Addr) (cdv ct : Value) (us mv ws : List Value), us.length = n → mv.length = ms.length → ws.length = ks.length →
      KwChain D ((ms.map (·.1)).zip mv) (bindArgs (PySem.W.fnOf x qual params body scope .none (.ref D) doc pm an cdv ct) ⟨us, ks.zip ws⟩) (ps.zip (g us mv ws))) :
    OkK P w K mg base k f ps n ks (fun vs zs => g vs (ms.map (·.2)) zs) F := by
  obtain ⟨mv, b⟩ := D.kbinds0 n ks ms g hk hms hrel h
  exact ⟨fd, _, b, O⟩
end
section
variable {X : Cx} {k n : Nat} {f C : Addr} {ps ks : List Str} {F : FT} {x : Str} {p pos : Pos} {e : Expr} {es : List Expr} {kws : List Keyword} {t tk : TA} {gV : List V → List V → List V}
theorem k_mkK (K : PySem.W.Frag) (M : Mk K C f) (O : OkK X.prog X.w K X.mg X.base k f ps (n + 1) ks gV F) (hr : Room (k + 1) X.A) (hm : X.mg x = some (.ref C)) (ha : PA X (e :: es) t) (hkw : PK X kws tk) (hg : Gl X x := by rfl)
    (hall : (backToKw pos (keywordEach kws X.env)).all (·.1.isSome) = true := by rfl) (hks : (backToKw pos (keywordEach kws X.env)).filterMap (·.1) = ks := by rfl) (hdb : (x == ("__debug__" : Str)) = false := by decide)
    (he : starEach (e :: es) X.env = (false, eval e X.env) :: starEach es X.env := by rfl) (hpl : ((backTo pos (starEach (e :: es) X.env)).any (·.1) || (backToKw pos (keywordEach kws X.env)).any (·.1.isNone)) = false := by rfl) (hK : X.K = K := by rfl) :
    PE X (.Call (.Name x p) (e :: es) kws pos) (tMakeK C n ks.length (spD K F) gV E0 t tk) := by
  subst hK
  obtain ⟨fd, g, b, d⟩ := O.ex
  exact pe_makeK M d hr hg hm b pass0 ha hkw hall hks hdb he hpl
theorem god_app {K : PySem.W.Frag} : GoD K (fun vs zs => vs ++ zs) (fun ds es => ds ++ es) := fun _ _ _ _ _ _ h1 h2 => Paired.append h1 h2
end
section
variable {P : Program} {w : World} {K : PySem.W.Frag} {mg : Str → Option Value} {base : Heap}
theorem o_Party_initK (e : Ev P w K mg base) : OkK P w K mg base 18 (He.ma K (He.ga K "Party") "__init__") ["self", "game", "rule", "notary", "key", "round_number", "member", "kind", "salt", "ticket"] 6 ["member", "kind", "salt", "ticket"] (fun vs zs => vs ++ zs) (F_Party_init K) := by
  obtain ⟨fd, FD⟩ := e.d_Party_init
  exact okKN FD (n_Party_init e FD) 6 ["member", "kind", "salt", "ticket"] fun _ _ _ _ _ _ us ws h1 h2 => match us, ws, h1, h2 with | [_, _, _, _, _, _], [_, _, _, _], _, _ => rfl
theorem o_Game_initK (e : Ev P w K mg base) : OkK P w K mg base 4 (He.ma K (He.ga K "Game") "__init__") ["self", "agents", "outcomes", "aim", "payments", "lots", "needs"] 3 ["lots"] (fun vs zs => vs ++ (([V.str "total", V.bl false, V.ref (nA K)].take 2) ++ (zs ++ [V.str "total", V.bl false, V.ref (nA K)].drop 2))) (F_Game_init K) := by
  obtain ⟨fd, FD⟩ := e.d_Game_init
  exact okK0 FD (n_Game_init e FD) 3 ["lots"] [("aim", V.str "total"), ("payments", V.bl false), ("needs", V.ref (nA K))] (fun vs mz zs => vs ++ (mz.take 2 ++ (zs ++ mz.drop 2))) (by simp) (by simp)
    (fun h1 h2 h3 => h1.append ((h2.take 2).append (h3.append (h2.drop 2))))
    fun _ _ _ _ _ _ us mv ws h1 h2 h3 => match us, mv, ws, h1, h2, h3 with | [_, _, _], [_, _, _], [_], _, _, _ => ⟨_, _, _, _, _, _, rfl, rfl, ⟨_, _, _, _, _, _, rfl, rfl, ⟨_, _, _, _, _, _, rfl, rfl, rfl⟩⟩⟩
theorem god_Game (e : Ev P w K mg base) : GoD K (fun vs zs => vs ++ (([V.str "total", V.bl false, V.ref (nA K)].take 2) ++ (zs ++ [V.str "total", V.bl false, V.ref (nA K)].drop 2))) (fun ds es => ds ++ ([.dat (.str "total"), .dat (.bool false)] ++ (es ++ [.dat (.tuple [])]))) := fun B H vs zs ds es h1 h2 =>
  Paired.append h1 (Paired.append (.cons (.str _) (.cons (.bl _) .nil)) (Paired.append h2 (.cons (show VR K B H _ (.dat (.tuple [])) from .tup (e.t_needs H) .nil) .nil)))
end
end DL
/-! (Dl17) -/
namespace DL
open PySem PySem.Spec PyProof.Rows L2
/-! ### a dict by numbers 1 .. N -/
section
variable {α : Type}
def dcG (f : α → PyData) (l : List (Nat × α)) : List (Key × Dt) := l.map fun p => (.inl (p.1 : Int), .dat (f p.2))
def lookN (l : List (Nat × α)) (k : Nat) : Option α := (l.find? fun p => decide (p.1 = k)).map (·.2)
theorem find_ext {β : Type} {p q : β → Bool} : ∀ {l : List β}, (∀ x ∈ l, p x = q x) → l.find? p = l.find? q
  | [], _ => rfl
  | x :: l, h => by
    rw [List.find?_cons, List.find?_cons, h x (by simp), find_ext (l := l) fun y hy => h y (List.mem_cons_of_mem _ hy)]
theorem key_dec (a b : Nat) : decide ((Sum.inl (a : Int) : Key) = .inl (b : Int)) = decide (a = b) := by
  by_cases h : a = b
  · rw [decide_eq_true h, h]; exact decide_eq_true rfl
  · rw [decide_eq_false h]; exact decide_eq_false fun z => h (by have := Sum.inl.inj z; omega)
theorem look_dcG {f : α → PyData} {l : List (Nat × α)} {k : Nat} : lookD (dcG f l) (.inl (k : Int)) = (lookN l k).map fun a => .dat (f a) := by
  unfold lookD dcG lookN
  rw [List.find?_map, Option.map_map, Option.map_map]
  exact congrArg (Option.map fun p : Nat × α => Dt.dat (f p.2)) (find_ext fun p _ => key_dec p.1 k)
theorem look_none {l : List (Nat × α)} {k : Nat} : lookN l k = none ↔ ∀ p ∈ l, p.1 ≠ k := by
  unfold lookN
  rw [Option.map_eq_none_iff, List.find?_eq_none]
  exact ⟨fun h p hp e => h p hp (decide_eq_true e), fun h p hp e => h p hp (of_decide_eq_true e)⟩
theorem put_dcG {f : α → PyData} {l : List (Nat × α)} {k : Nat} {a : α} (h : lookN l k = none) : putD (dcG f l) (.inl (k : Int)) (.dat (f a)) = dcG f (l ++ [(k, a)]) := by
  have h1 : ¬ ((dcG f l).any fun kv => decide (kv.1 = .inl (k : Int))) = true := fun z => by
    obtain ⟨kv, hm, e⟩ := List.any_eq_true.mp z
    obtain ⟨p, hp, rfl⟩ := List.mem_map.mp hm
    have e1 := of_decide_eq_true e
    have e2 : (p.1 : Int) = k := Sum.inl.inj e1
    exact look_none.mp h p hp (by omega)
  unfold putD
  rw [if_neg h1]
  unfold dcG
  rw [List.map_append]; rfl
structure DcOk (N : Nat) (l : List (Nat × α)) : Prop where
  nd : (l.map (·.1)).Nodup
  rg : ∀ p ∈ l, 1 ≤ p.1 ∧ p.1 ≤ N
theorem DcOk.nil {N : Nat} : DcOk N ([] : List (Nat × α)) := ⟨List.nodup_nil, fun p hp => by cases hp⟩
theorem DcOk.add {N k : Nat} {l : List (Nat × α)} {a : α} (h : DcOk N l) (hn : lookN l k = none) (h1 : 1 ≤ k) (h2 : k ≤ N) : DcOk N (l ++ [(k, a)]) := by
  refine ⟨?_, fun p hp => ?_⟩
  · rw [List.map_append, List.nodup_append]
    refine ⟨h.nd, by simp, fun x hx y hy => ?_⟩
    obtain ⟨p, hp, rfl⟩ := List.mem_map.mp hx
    have e : y = k := by simpa using hy
    rw [e]
    exact look_none.mp hn p hp
  · rcases List.mem_append.mp hp with hp | hp
    · exact h.rg p hp
    · rw [List.mem_singleton.mp hp]; exact ⟨h1, h2⟩
theorem nd_bound : ∀ {N : Nat} {ks : List Nat}, ks.Nodup → (∀ k ∈ ks, 1 ≤ k ∧ k ≤ N) → ks.length ≤ N
  | 0, [], _, _ => Nat.le_refl _
  | 0, k :: ks, _, h => by have := h k (by simp); omega
  | N + 1, ks, nd, h => by
    have h1 := nd_bound (N := N) (ks := ks.erase (N + 1)) (nd.erase _) fun k hk => by
      obtain ⟨e, hk⟩ := (nd.mem_erase_iff).mp hk
      have := h k hk
      omega
    have h2 := List.length_erase (a := N + 1) (l := ks)
    split at h2 <;> omega
theorem nd_full : ∀ {N : Nat} {ks : List Nat}, ks.Nodup → (∀ k ∈ ks, 1 ≤ k ∧ k ≤ N) → N ≤ ks.length → ∀ i, 1 ≤ i → i ≤ N → i ∈ ks
  | 0, _, _, _, _, i, h1, h2 => by omega
  | N + 1, ks, nd, h, hl, i, h1, h2 => by
    have hm : ∀ k ∈ ks.erase (N + 1), 1 ≤ k ∧ k ≤ N := fun k hk => by
      obtain ⟨e, hk⟩ := (nd.mem_erase_iff).mp hk
      have := h k hk
      omega
    have b := nd_bound (nd.erase (N + 1)) hm
    have h3 := List.length_erase (a := N + 1) (l := ks)
    have hin : N + 1 ∈ ks := by
      by_cases z : N + 1 ∈ ks
      · exact z
      · rw [if_neg (by simpa using z)] at h3; omega
    rw [if_pos (by simpa using hin)] at h3
    by_cases e : i = N + 1
    · rw [e]; exact hin
    · exact List.mem_of_mem_erase (nd_full (nd.erase (N + 1)) hm (by omega) i h1 (by omega))
theorem DcOk.le {N : Nat} {l : List (Nat × α)} (h : DcOk N l) : l.length ≤ N := by
  have := nd_bound h.nd fun k hk => by
    obtain ⟨p, hp, rfl⟩ := List.mem_map.mp hk
    exact h.rg p hp
  rw [List.length_map] at this
  exact this
theorem lookN_some {l : List (Nat × α)} {k : Nat} (h : k ∈ l.map (·.1)) : ∃ a, lookN l k = some a ∧ (k, a) ∈ l := by
  cases e : lookN l k with
  | none =>
    obtain ⟨p, hp, e1⟩ := List.mem_map.mp h
    exact absurd e1 (look_none.mp e p hp)
  | some a =>
    unfold lookN at e
    obtain ⟨p, hp, rfl⟩ := Option.map_eq_some_iff.mp e
    refine ⟨p.2, rfl, ?_⟩
    have h1 : p.1 = k := of_decide_eq_true (List.find?_some (p := fun p : Nat × α => decide (p.1 = k)) hp)
    rw [← h1]
    exact List.mem_of_find?_eq_some hp
theorem DcOk.full {N : Nat} {l : List (Nat × α)} (h : DcOk N l) (hl : N ≤ l.length) {i : Nat} (hi : i < N) : ∃ a, lookN l (i + 1) = some a ∧ (i + 1, a) ∈ l :=
  lookN_some (nd_full h.nd (fun k hk => by
    obtain ⟨p, hp, rfl⟩ := List.mem_map.mp hk
    exact h.rg p hp) (by rw [List.length_map]; exact hl) (i + 1) (by omega) (by omega))
def rowN (l : List (Nat × α)) (N : Nat) : List α := (List.range N).filterMap fun i => lookN l (i + 1)
theorem DcOk.row {N : Nat} {l : List (Nat × α)} (h : DcOk N l) (hl : N ≤ l.length) : ∃ r : List α, r.length = N ∧ (∀ i, i < N → lookN l (i + 1) = r[i]?) ∧ ∀ a ∈ r, ∃ k, (k, a) ∈ l := by
  have key : ∀ n, n ≤ N → ∃ r : List α, r.length = n ∧ (∀ i, i < n → lookN l (i + 1) = r[i]?) ∧ ∀ a ∈ r, ∃ k, (k, a) ∈ l := by
    intro n
    induction n with
    | zero => exact fun _ => ⟨[], rfl, fun i hi => by omega, fun a ha => by cases ha⟩
    | succ n ih =>
      intro hn
      obtain ⟨r, e, h1, h2⟩ := ih (by omega)
      obtain ⟨a, ha, hm⟩ := h.full hl (i := n) (by omega)
      refine ⟨r ++ [a], by rw [List.length_append, e]; rfl, fun i hi => ?_, fun b hb => ?_⟩
      · by_cases z : i = n
        · subst z
          rw [ha, List.getElem?_append_right (by omega), e, Nat.sub_self]; rfl
        · rw [List.getElem?_append_left (by omega)]
          exact h1 i (by omega)
      · rcases List.mem_append.mp hb with hb | hb
        · exact h2 b hb
        · rw [List.mem_singleton.mp hb]; exact ⟨_, hm⟩
  exact key N (Nat.le_refl _)
theorem row_at {f : α → PyData} {d : α} {r : List α} {i : Nat} (h : i < r.length) : (r[i]?).map (fun a => Dt.dat (f a)) = some (.dat (f (r.getD i d))) := by
  rw [List.getD_eq_getElem?_getD, List.getElem?_eq_getElem h]; rfl
theorem row_map {f : α → PyData} {d : α} {r : List α} {n : Nat} (e : r.length = n) : (List.range n).map (fun i => f (r.getD i d)) = r.map f := by
  subst e
  refine List.ext_getElem? fun i => ?_
  rw [List.getElem?_map, List.getElem?_map]
  by_cases z : i < r.length
  · rw [List.getElem?_range z, List.getElem?_eq_getElem z]
    show some (f (r.getD i d)) = _
    rw [List.getD_eq_getElem?_getD, List.getElem?_eq_getElem z]; rfl
  · rw [List.getElem?_eq_none (by rw [List.length_range]; omega), List.getElem?_eq_none (by omega)]; rfl
end
end DL
/-! (Ka) -/
namespace DL
open PySem PySem.Spec PyProof.Rows L2

local macro_rules | `(tactic| fail "l") => `(tactic| first | exact Nat.le_of_ble_eq_true rfl | omega | (simp only [List.length_map, List.length_append, List.length_cons, List.length_nil]; omega))
local macro_rules | `(tactic| fail "aS") => `(tactic| with_reducible first | refine ws_seq ?_ | refine ws_if ?_ | refine ws_ret ?_ | refine ws_asg ?_ | refine ws_drop ?_ | refine ws_next ?_ | refine ws_retN ?_ | refine ws_fldF ?_ | refine ws_fldN ?_ | refine ws_dput ?_ | refine ws_asgT5 ?_ | refine ws_asgT4 ?_ | refine ws_asgT3 ?_)
local macro_rules | `(tactic| fail "aO") => `(tactic| with_reducible first | refine we_ix ?_ | refine we_II ?_ | refine we_IB ?_ | refine we_eq ?_ | refine we_ne ?_ | refine we_add ?_ | refine we_addG ?_ | refine we_IC ?_ | refine we_eqD ?_ | refine we_neD ?_ | refine we_inD ?_ | refine we_notInD ?_ | refine we_in ?_ | refine we_inSg ?_)
local macro_rules | `(tactic| fail "aC") => `(tactic| with_reducible first | refine we_len ?_ | refine we_lenD ?_ | refine we_all ?_ | refine we_any ?_ | refine we_int1 ?_ | refine we_strI ?_ | refine we_listOf ?_ | refine we_tupOf ?_ | refine we_sum ?_ | refine we_abs ?_ | refine we_min2 ?_ | refine we_gcd ?_)
local macro_rules | `(tactic| fail "aE") => `(tactic| first
  | ((with_reducible apply we_var); rfl)
  | with_reducible refine we_int ?_ | with_reducible refine we_str ?_ | with_reducible refine we_non ?_ | with_reducible refine we_bl ?_
  | ((with_reducible show WE _ (tOp _ _ _) _ _ _); fail "aO")
  | ((with_reducible show WE _ (tCB _ _) _ _ _); fail "aC")
  | with_reducible refine we_call ?_ | with_reducible refine we_fld ?_ | with_reducible refine we_meth' ?_ | with_reducible refine we_tup ?_ | with_reducible refine we_isi (by decide) ?_ | with_reducible refine we_lst ?_ | with_reducible refine we_lstG ?_
  | with_reducible refine we_and ?_ | with_reducible refine we_or ?_ | with_reducible refine we_not ?_ | with_reducible refine we_chainI ?_ | with_reducible refine we_isN ?_ | with_reducible refine we_notN ?_ | with_reducible refine we_append ?_ | with_reducible refine we_extend ?_ | with_reducible refine we_index ?_
  | with_reducible refine we_slL ?_ | with_reducible refine we_slT ?_ | with_reducible refine we_dget ?_ | with_reducible refine we_din ?_ | with_reducible refine we_dnotin ?_ | with_reducible refine we_dictG ?_ | with_reducible refine we_prop ?_ | with_reducible refine we_join ?_ | with_reducible refine we_neg ?_ | with_reducible refine we_lenSet ?_)
local macro_rules | `(tactic| fail "aT") => `(tactic| with_reducible first | refine wt_val ?_ | refine wt_tst ?_ | refine wt_and ?_ | refine wt_or ?_ | refine wt_not ?_ | refine wt_yes ?_)
local macro_rules | `(tactic| fail "aD") => `(tactic| with_reducible first | refine dEq_ii ?_ | refine dEq_ss ?_ | refine dEq_bb ?_ | refine dEq_nn ?_ | refine dEq_ni ?_ | refine dEq_in ?_ | refine dAdd_ii ?_ | refine dInt_i ?_ | refine dInt_b ?_ | refine dLen_l ?_ | refine dLen_t ?_)
local macro_rules | `(tactic| fail "a") => `(tactic| first
  | ((with_reducible show WE _ _ _ _ _); fail "aE")
  | ((with_reducible show WA _ _ _ _ _); (with_reducible first | refine wa_cons ?_ | refine wa_nil ?_))
  | ((with_reducible show WS _ _ _ _ _); fail "aS")
  | ((with_reducible show WT _ _ _ _ _); fail "aT")
  | ((with_reducible show WG _ _ _ _ _ _ _); first | with_reducible refine wg_name ?_ | ((with_reducible refine wg_tup ?_ ?_); rfl))
  | ((with_reducible show WGs _ _ _ _ _ _ _); (with_reducible first | refine wgs_cons ?_ | refine wgs_nil ?_))
  | ((with_reducible show WO _ _ _ _ _); (with_reducible first | refine wo_none ?_ | refine wo_some ?_))
  | ((with_reducible show dIx _ _ _ _); first | ((with_reducible apply dIx_t); rfl) | ((with_reducible apply dIx_l); rfl))
  | ((with_reducible show dAdd _ _ _ _); first | with_reducible refine dAdd_ii ?_ | ((with_reducible refine dAdd_ll ?_ ?_); fail "l") | ((with_reducible apply dAdd_ol); (fail "h"); (fail "l")) | ((with_reducible refine dAdd_tt ?_ ?_); fail "l") | ((with_reducible refine dAdd_ss ?_ ?_); fail "l"))
  | fail "aD")
local macro_rules | `(tactic| fail "e") => `(tactic| ((fail_if_success (with_reducible show ∃ _ : NF, _)); (fail_if_success (with_reducible show ∃ _ : PF, _)); (fail_if_success (with_reducible show ∃ _ : DF, _)); (first | with_reducible refine ⟨_, _, rfl, rfl, ?_⟩ | with_reducible refine ⟨_, rfl, ?_⟩ | with_reducible refine ⟨rfl, ?_⟩ | with_reducible refine ⟨_, _, rfl, ?_⟩ | with_reducible refine ⟨_, _, _, rfl, ?_⟩ | with_reducible refine ⟨_, _, _, _, rfl, ?_⟩ | with_reducible refine ⟨_, _, _, _, _, rfl, ?_⟩ | ((refine ⟨?l, ?_⟩); (case l => (with_reducible show _ < 1000000); fail "l")) | ((refine ⟨?l, ?_⟩); (case l => (with_reducible show _ ≤ 1000000); fail "l")))))
local macro_rules | `(tactic| fail "g") => `(tactic| ((funext gb; simp only [updG, dropG]; repeat' split) <;> first | rfl | (exfalso; simp_all; done) | (simp_all; done)))
local macro_rules | `(tactic| fail "q") => `(tactic| first | assumption | exact Ne.symm (by assumption))
local macro_rules | `(tactic| fail "h") => `(tactic| first | assumption | exact updG_same | ((rw [updG_ne]); (fail "h"); (fail "q")))
local macro_rules | `(tactic| fail "z") => `(tactic| first | rfl | exact ⟨rfl, rfl⟩ | exact ⟨_, rfl, rfl⟩ | exact ⟨_, _, rfl, rfl⟩ | exact ⟨_, _, _, rfl, rfl⟩ | assumption)
local macro_rules | `(tactic| fail "f") => `(tactic| first
  | refine ⟨_, _, rfl, .inr (.inl rfl), ?_⟩ | refine ⟨_, _, rfl, .inl rfl, ?_⟩
  | (refine ⟨_, ?ds, rfl, .inr (.inr ⟨_, rfl, ?h1⟩), ?_⟩; (case h1 => fail "h"))
  | (refine ⟨_, ?ds, rfl, .inr ⟨_, rfl, ?h1⟩, ?_⟩; (case h1 => fail "h"))
  | ((with_reducible refine ⟨_, ?ds, ?d, rfl, ?h1, ?h2, ?_⟩); (case h1 => fail "h"); (case h2 => rfl))
  | ((with_reducible refine ⟨_, ?ds, rfl, ?h1, ?_⟩); (case h1 => fail "h"))
  | ((with_reducible refine ⟨_, ?ns, ?ds, rfl, ?h1, ?h2, ?_⟩); (case h1 => fail "h"); (case h2 => decide))
  | ((with_reducible refine ⟨_, ?ns, ?ds, rfl, (?h1 : _ = some (GO.ins _ ?ns ?ds)), ?_⟩); (case h1 => fail "h"))
  | ((with_reducible refine ⟨_, rfl, ⟨?ys, ?h1⟩, ?_⟩); (case h1 => fail "h"))
  | ((with_reducible refine ⟨_, ?xs, rfl, ?h1, ?h2, ?_⟩); (case h1 => fail "h"); (case h2 => omega)))
local macro_rules | `(tactic| fail "y") => `(tactic| first
  | ((with_reducible refine ⟨fun _ => ?_, fun hbb => ?nope⟩); (case nope => first | exact Bool.noConfusion (show true = false from hbb) | exact Bool.noConfusion (show false = true from hbb) | exact absurd (of_decide_eq_true hbb) (by omega) | exact absurd (of_decide_eq_false hbb) (by omega) | (simp at hbb; done) | (simp at hbb; omega)))
  | ((with_reducible refine ⟨fun hbb => ?nope, fun _ => ?_⟩); (case nope => first | exact Bool.noConfusion (show true = false from hbb) | exact Bool.noConfusion (show false = true from hbb) | exact absurd (of_decide_eq_true hbb) (by omega) | exact absurd (of_decide_eq_false hbb) (by omega) | (simp at hbb; done) | (simp at hbb; omega))))
local macro_rules | `(tactic| fail "w") => `(tactic| repeat fail "a")
local macro_rules | `(tactic| fail "x") => `(tactic| repeat (first | fail "a" | fail "f" | fail "e" | fail "y"))

/-! ### the desk -/
structure DSt where
  tn : Int
  com : List (Nat × (Int × Int))
  opn : List (Nat × (Opn × Int))
  lb : Option (List (Int × Int))
  bb : Option ((Opn × Int) × List (Opn × Int))
structure DF where
  A : List Ag
  ks : List Str
  g : Addr
  n : Addr
  c : Addr
  s : Addr
  d : Addr
  dc : Addr
  dp : Addr
  key : Str
abbrev deskO (K : PySem.W.Frag) (f : DF) (st : DSt) : GO := .ins (He.ga K "Desk") ns_Desk [.obj f.g, .obj f.n, .dat (.str f.key), .dat (.int 1), .dat (.int st.tn), .obj f.dc, .obj f.dp, .dat (lbD st.lb), .dat (bbD st.bb)]
structure DkOk (f : DF) : Prop where
  okA : okG f.A
  key : f.ks[0]? = some f.key
  klen : f.ks.length = f.A.length + 1
/-- what the desk holds -/
structure DInv (f : DF) (st : DSt) : Prop where
  com : DcOk f.A.length st.com
  opn : DcOk f.A.length st.opn
  lb : ∀ L, st.lb = some L → L.length = f.A.length
  ok : ∀ p ∈ st.opn, okO p.2.1
structure DAt (K : PySem.W.Frag) (f : DF) (cs : List Ct) (sg : List Sg) (st : DSt) (G : GH) : Prop where
  gm : G f.g = some (gameO K f.A)
  N : NotAt K f.ks f.n f.c f.s cs sg G
  dt : G f.d = some (deskO K f st)
  dc : G f.dc = some (.dic (dcG prD2 st.com))
  dp : G f.dp = some (.dic (dcG obD st.opn))
  cs_ : f.c ≠ f.s
  cp_ : f.dc ≠ f.dp
section
variable {K : PySem.W.Frag} {f : DF} {cs cs' : List Ct} {sg sg' : List Sg} {st st' : DSt} {G : GH}
theorem DAt.setS (a : DAt K f cs sg st G) (h : ∀ x ∈ sg', okS x) : DAt K f cs sg' st (updG G f.s (.lst (sg'.map sgD))) :=
  ⟨by rw [updG_ne (neG a.gm a.N.hs (by intro z; cases z))]; exact a.gm, a.N.setS a.cs_ h, by rw [updG_ne (neG a.dt a.N.hs (by intro z; cases z))]; exact a.dt, by rw [updG_ne (neG a.dc a.N.hs (by intro z; cases z))]; exact a.dc, by rw [updG_ne (neG a.dp a.N.hs (by intro z; cases z))]; exact a.dp, a.cs_, a.cp_⟩
theorem DAt.setD (a : DAt K f cs sg st G) (h1 : st'.com = st.com) (h2 : st'.opn = st.opn) : DAt K f cs sg st' (updG G f.d (deskO K f st')) :=
  ⟨by rw [updG_ne (neG a.gm a.dt (ins_ne (by decide +kernel)))]; exact a.gm, a.N.other (neG a.N.nt a.dt (ins_ne (by decide +kernel))) (neG a.N.hc a.dt (by intro z; cases z)) (neG a.N.hs a.dt (by intro z; cases z)), updG_same,
    by rw [updG_ne (neG a.dc a.dt (by intro z; cases z)), h1]; exact a.dc, by rw [updG_ne (neG a.dp a.dt (by intro z; cases z)), h2]; exact a.dp, a.cs_, a.cp_⟩
theorem DAt.setC (a : DAt K f cs sg st G) {l : List (Nat × (Int × Int))} : DAt K f cs sg { st with com := l } (updG G f.dc (.dic (dcG prD2 l))) :=
  ⟨by rw [updG_ne (neG a.gm a.dc (by intro z; cases z))]; exact a.gm, a.N.other (neG a.N.nt a.dc (by intro z; cases z)) (neG a.N.hc a.dc (by intro z; cases z)) (neG a.N.hs a.dc (by intro z; cases z)), by rw [updG_ne (neG a.dt a.dc (by intro z; cases z))]; exact a.dt, updG_same, by rw [updG_ne a.cp_.symm]; exact a.dp, a.cs_, a.cp_⟩
theorem DAt.setO (a : DAt K f cs sg st G) {l : List (Nat × (Opn × Int))} : DAt K f cs sg { st with opn := l } (updG G f.dp (.dic (dcG obD l))) :=
  ⟨by rw [updG_ne (neG a.gm a.dp (by intro z; cases z))]; exact a.gm, a.N.other (neG a.N.nt a.dp (by intro z; cases z)) (neG a.N.hc a.dp (by intro z; cases z)) (neG a.N.hs a.dp (by intro z; cases z)), by rw [updG_ne (neG a.dt a.dp (by intro z; cases z))]; exact a.dt, by rw [updG_ne a.cp_]; exact a.dc, updG_same, a.cs_, a.cp_⟩
end
abbrev dEnt (k : Str) (b : By) : Sg := ((0 : Int), (k, b))
abbrev dLet (sg : List Sg) (k : Str) (b : By) : Lt := (k, (0 : Int), b, ((ix (dEnt k b) (addc (dEnt k b) sg) : Nat) : Int))
abbrev F_Desk_letter (K : PySem.W.Frag) : FT := F3 fun x y z G Φ => ∃ (f : DF) (cs : List Ct) (sg : List Sg) (st : DSt) (k : Str) (b : By), x = .obj f.d ∧ DAt K f cs sg st G ∧ DkOk f ∧ y = .dat (.str k) ∧ z = .dat b.d ∧ k ∈ kinds5 ∧ b.ok ∧ sg.length < 900000 ∧
  Φ (.dat (ltD (dLet sg k b))) (updG G f.s (.lst ((addc (dEnt k b) sg).map sgD)))
abbrev F_Desk_begin (K : PySem.W.Frag) : FT := F1 fun x G Φ => ∃ (f : DF) (cs : List Ct) (sg : List Sg) (st : DSt), x = .obj f.d ∧ DAt K f cs sg st G ∧ DkOk f ∧ sg.length < 900000 ∧
  Φ (.dat (.list [ltD (dLet sg "call" (.num st.tn))])) (updG G f.s (.lst ((addc (dEnt "call" (.num st.tn)) sg).map sgD)))
/-- a step of the desk -/
structure DStep (f : DF) (sg : List Sg) (out : List Lt) (sg' : List Sg) (st' : DSt) : Prop where
  inv : DInv f st'
  sx : ∃ xs, sg' = sg ++ xs ∧ xs.length ≤ 1 ∧ ∀ x ∈ xs, x.1 = (0 : Int)
  oks : ∀ x ∈ sg', okS x
  ol : out.length ≤ 1
  ook : ∀ l ∈ out, okL l
theorem DStep.stay {f : DF} {sg : List Sg} {st : DSt} (h : DInv f st) (o : ∀ x ∈ sg, okS x) : DStep f sg [] sg st := ⟨h, ⟨[], by simp, by simp, fun x hx => (by cases hx)⟩, o, by simp, fun l hl => (by cases hl)⟩
theorem DStep.told {f : DF} {sg : List Sg} {st : DSt} {k : Str} {b : By} (h : DInv f st) (o : ∀ x ∈ sg, okS x) (hk : k ∈ kinds5) (hb : b.ok) : DStep f sg [dLet sg k b] (addc (dEnt k b) sg) st := by
  obtain ⟨ys, e, h1, h2⟩ := addc_one (a := dEnt k b) (xs := sg)
  exact ⟨h, ⟨ys, e, h1, fun x hx => by rw [h2 x hx]⟩, addc_ok o ⟨hk, hb⟩, by simp, fun l hl => by rw [List.mem_singleton.mp hl]; exact ⟨hk, hb⟩⟩
abbrev dG (K : PySem.W.Frag) (f : DF) (G : GH) (sg' : List Sg) (st' : DSt) : GH :=
  updG (updG (updG (updG G f.s (.lst (sg'.map sgD))) f.dc (.dic (dcG prD2 st'.com))) f.dp (.dic (dcG obD st'.opn))) f.d (deskO K f st')
theorem dG_same {K : PySem.W.Frag} {f : DF} {cs : List Ct} {sg : List Sg} {st : DSt} {G : GH} (a : DAt K f cs sg st G) : dG K f G sg st = G := by
  unfold dG
  rw [updG_self a.N.hs, updG_self a.dc, updG_self a.dp, updG_self a.dt]
/-- what has been written is the desk's -/
theorem dG_of {K : PySem.W.Frag} {f : DF} {cs : List Ct} {sg : List Sg} {st : DSt} {G : GH} (a : DAt K f cs sg st G) : G = dG K f G sg st := (dG_same a).symm
abbrev F_Desk_take_commit (K : PySem.W.Frag) : FT := F3 fun x y z G Φ => ∃ (f : DF) (cs : List Ct) (sg : List Sg) (st : DSt) (j : Nat) (q : Int × Int), x = .obj f.d ∧ DAt K f cs sg st G ∧ DkOk f ∧ y = .dat (.int ((j : Nat) : Int)) ∧ 1 ≤ j ∧ j ≤ f.A.length ∧ z = .dat (prD2 q) ∧ sg.length < 900000 ∧ DInv f st ∧
  ∀ out sg' st', DStep f sg out sg' st' → Φ (.dat (.list (out.map ltD))) (dG K f G sg' st')
abbrev F_Desk_take_open (K : PySem.W.Frag) : FT := F3 fun x y z G Φ => ∃ (f : DF) (cs : List Ct) (sg : List Sg) (st : DSt) (j : Nat) (b : By) (i : Int), x = .obj f.d ∧ DAt K f cs sg st G ∧ DkOk f ∧ y = .dat (.int ((j : Nat) : Int)) ∧ 1 ≤ j ∧ j ≤ f.A.length ∧ z = .dat (.tuple [b.d, .int i]) ∧ b.ok ∧ sg.length < 900000 ∧ DInv f st ∧
  ∀ out sg' st', DStep f sg out sg' st' → Φ (.dat (.list (out.map ltD))) (dG K f G sg' st')
abbrev F_Desk_take (K : PySem.W.Frag) : FT := F2 fun x y G Φ => ∃ (f : DF) (cs : List Ct) (sg : List Sg) (st : DSt) (l : Lt), x = .obj f.d ∧ DAt K f cs sg st G ∧ DkOk f ∧ y = .dat (ltD l) ∧ okL l ∧ sg.length < 900000 ∧ DInv f st ∧
  ∀ out sg' st', DStep f sg out sg' st' → Φ (.dat (.list (out.map ltD))) (dG K f G sg' st')
abbrev F_Desk_init (K : PySem.W.Frag) : FT := F6 fun x ga ru no ke rn G Φ => ∃ (f : DF) (rl : List (List Rt)) (cs : List Ct) (sg : List Sg), x = .obj f.d ∧ G f.d = some (.ins (He.ga K "Desk") [] []) ∧ ga = .obj f.g ∧ ru = .dat (ruleD f.A.length rl) ∧ no = .obj f.n ∧ ke = .dat (.str f.key) ∧ rn = .dat (.int 1) ∧
  G f.g = some (gameO K f.A) ∧ NotAt K f.ks f.n f.c f.s cs sg G ∧ f.c ≠ f.s ∧ DkOk f ∧ okR f.A rl ∧ cs.length < 900000 ∧
  ∀ dc dp tn a b, (Ct.terms a b).ok → G dc = none → G dp = none → dc ≠ dp → dc ≠ f.d → dp ≠ f.d → Φ (.dat .none) (updG (updG (updG (updG G f.c (.lst ((addc (.terms a b) cs).map Ct.d))) dc (.dic [])) dp (.dic [])) f.d (deskO K { f with dc := dc, dp := dp } ⟨tn, [], [], none, none⟩))
theorem dG_dc {K : PySem.W.Frag} {f : DF} {sg' : List Sg} {st' : DSt} {G : GH} {X : GO} (h : f.dc ≠ f.s) : dG K f (updG G f.dc X) sg' st' = dG K f G sg' st' := by
  unfold dG
  rw [upd_comm h, updG_updG]
theorem dG_dp {K : PySem.W.Frag} {f : DF} {sg' : List Sg} {st' : DSt} {G : GH} {X : GO} (h : f.dp ≠ f.s) (h2 : f.dp ≠ f.dc) : dG K f (updG G f.dp X) sg' st' = dG K f G sg' st' := by
  unfold dG
  rw [upd_comm h, upd_comm h2, updG_updG]
theorem dG_d {K : PySem.W.Frag} {f : DF} {sg' : List Sg} {st' : DSt} {G : GH} {X : GO} (h : f.d ≠ f.s) (h2 : f.d ≠ f.dc) (h3 : f.d ≠ f.dp) : dG K f (updG G f.d X) sg' st' = dG K f G sg' st' := by
  unfold dG
  rw [upd_comm h, upd_comm h2, upd_comm h3, updG_updG]
theorem DAt.ne {K : PySem.W.Frag} {f : DF} {cs : List Ct} {sg : List Sg} {st : DSt} {G : GH} (a : DAt K f cs sg st G) : f.dc ≠ f.s ∧ f.dp ≠ f.s ∧ f.d ≠ f.s ∧ f.d ≠ f.dc ∧ f.d ≠ f.dp :=
  ⟨neG a.dc a.N.hs (by intro z; cases z), neG a.dp a.N.hs (by intro z; cases z), neG a.dt a.N.hs (by intro z; cases z), neG a.dt a.dc (by intro z; cases z), neG a.dt a.dp (by intro z; cases z)⟩
theorem dG_s {K : PySem.W.Frag} {f : DF} {sg' : List Sg} {st' : DSt} {G : GH} {X : GO} : dG K f (updG G f.s X) sg' st' = dG K f G sg' st' := by
  unfold dG
  rw [updG_updG]

theorem sc_Desk_letter : FnScope ["self", "kind", "body", "signature"] ["self", "kind", "body"] (defScope (inClass (top 76) 1)) := ⟨rfl, rfl, rfl, by decide +kernel, rfl, by decide +kernel, by decide +kernel⟩
theorem n_Desk_letter {P : Program} {w : World} {K : PySem.W.Frag} {mg : Str → Option Value} {base : Heap} {fd : FuncData} {dvs : List V} {kws : List (Str × V)} (e : Ev P w K mg base) (FD : FunD K "letter" "Desk.letter" (defArgs (inClass (top 76) 1)) (defBody (inClass (top 76) 1)) (defScope (inClass (top 76) 1)) dvs kws (He.ma K (He.ga K "Desk") "letter") fd) : FnOk P w K mg base CX0 18 (He.ma K (He.ga K "Desk") "letter") fd ["self", "kind", "body"] (spD K (F_Desk_letter K)) := by
  have S := sc_Desk_letter
  refine okD FD S (fun _ _ _ h => len3 h) fun cdv A outer s H E hr => ⟨_, (pss_cons (ps_set (i := 3) S.nd rfl (by first | exact Or.inl rfl | exact Or.inr rfl) (k_me K e.c_Notary e.h_Notary_sign (o_Notary_sign e) (hr.mono (by decide)) (k_fld K e.f_Desk_notary (pv 0)) (pa_cons pe_int (pa_cons (k_fld K e.f_Desk_key (pv 0)) (pa_cons (pe_tup (pa_cons (pv 1) (pa_cons (k_fld K e.f_Desk_round_number (pv 0)) (pa_cons (pv 2) pa_nil)))) pa_nil)))))
      (pss_one (ps_ret (pe_tup (pa_cons (pv 1) (pa_cons (k_fld K e.f_Desk_round_number (pv 0)) (pa_cons pe_int (pa_cons (pv 2) (pa_cons (pv 3) pa_nil))))))))), ?_⟩
  intro ds G Φ h
  try dsimp only [cxK, blkK]
  obtain ⟨x, y, z, rfl, f, cs, sg, st, kk, b, rfl, a, o, rfl, rfl, hk, hb, hs, k⟩ := h
  have h1 := a.dt
  have h2 := a.N.nt
  have hok : okS (dEnt kk b) := ⟨hk, hb⟩
  have a1 := a.setS (addc_ok a.N.oks hok)
  have h3 := a1.dt
  fail "x"
  refine ⟨f.ks, f.n, f.c, f.s, cs, sg, 0, f.key, (kk, b), rfl, a.N, rfl, rfl, rfl, o.key, ⟨hk, hb⟩, hs, ?_⟩
  fail "x"
  exact k
theorem o_Desk_letter {P : Program} {w : World} {K : PySem.W.Frag} {mg : Str → Option Value} {base : Heap} (e : Ev P w K mg base) : OkD P w K mg base 18 (He.ma K (He.ga K "Desk") "letter") ["self", "kind", "body"] [] (F_Desk_letter K) := by
  obtain ⟨fd, FD⟩ := e.d_Desk_letter
  exact okN FD (n_Desk_letter e FD) fun _ _ _ _ _ _ us hl => match us, hl with | [_, _, _], _ => rfl
theorem sc_Desk_begin : FnScope ["self"] ["self"] (defScope (inClass (top 76) 2)) := ⟨rfl, rfl, rfl, by decide +kernel, rfl, by decide +kernel, by decide +kernel⟩
theorem n_Desk_begin {P : Program} {w : World} {K : PySem.W.Frag} {mg : Str → Option Value} {base : Heap} {fd : FuncData} {dvs : List V} {kws : List (Str × V)} (e : Ev P w K mg base) (FD : FunD K "begin" "Desk.begin" (defArgs (inClass (top 76) 2)) (defBody (inClass (top 76) 2)) (defScope (inClass (top 76) 2)) dvs kws (He.ma K (He.ga K "Desk") "begin") fd) : FnOk P w K mg base CX0 19 (He.ma K (He.ga K "Desk") "begin") fd ["self"] (spD K (F_Desk_begin K)) := by
  have S := sc_Desk_begin
  refine okD FD S (fun _ _ _ h => len1 h) fun cdv A outer s H E hr => ⟨_, (pss_one (ps_ret (pe_lst (pa_cons (k_me K e.c_Desk e.h_Desk_letter (o_Desk_letter e) (hr.mono (by decide)) (pv 0) (pa_cons pe_str (pa_cons (k_fld K e.f_Desk_terms_number (pv 0)) pa_nil))) pa_nil)))), ?_⟩
  intro ds G Φ h
  try dsimp only [cxK, blkK]
  obtain ⟨x, rfl, f, cs, sg, st, rfl, a, o, hs, k⟩ := h
  have h1 := a.dt
  fail "x"
  refine ⟨f, cs, sg, st, "call", .num st.tn, rfl, a, o, rfl, rfl, by decide +kernel, trivial, hs, ?_⟩
  fail "x"
  exact k
theorem o_Desk_begin {P : Program} {w : World} {K : PySem.W.Frag} {mg : Str → Option Value} {base : Heap} (e : Ev P w K mg base) : OkD P w K mg base 19 (He.ma K (He.ga K "Desk") "begin") ["self"] [] (F_Desk_begin K) := by
  obtain ⟨fd, FD⟩ := e.d_Desk_begin
  exact okN FD (n_Desk_begin e FD) fun _ _ _ _ _ _ us hl => match us, hl with | [_], _ => rfl
theorem sc_Desk_take_commit : FnScope ["self", "sender", "pair", "index"] ["self", "sender", "pair"] (defScope (inClass (top 76) 4)) := ⟨rfl, rfl, rfl, by decide +kernel, rfl, by decide +kernel, by decide +kernel⟩
theorem n_Desk_take_commit {P : Program} {w : World} {K : PySem.W.Frag} {mg : Str → Option Value} {base : Heap} {fd : FuncData} {dvs : List V} {kws : List (Str × V)} (e : Ev P w K mg base) (FD : FunD K "take_commit" "Desk.take_commit" (defArgs (inClass (top 76) 4)) (defBody (inClass (top 76) 4)) (defScope (inClass (top 76) 4)) dvs kws (He.ma K (He.ga K "Desk") "take_commit") fd) : FnOk P w K mg base CX0 19 (He.ma K (He.ga K "Desk") "take_commit") fd ["self", "sender", "pair"] (spD K (F_Desk_take_commit K)) := by
  have S := sc_Desk_take_commit
  refine okD FD S (fun _ _ _ h => len3 h) fun cdv A outer s H E hr => ⟨_, (pss_cons (ps_if (pt_cmp (pc_dnotin (room1 hr) (pv 1) (k_fld K e.f_Desk_commits (pv 0)))) (pss_one (ps_dput (room1 hr) (k_fld K e.f_Desk_commits (pv 0)) (pv 1) (pv 2) (by rfl))) pss_nil)
      (pss_cons (ps_if (pt_cmpR op_lt (pe_callB call_lenDD rfl e.x_len (by decide +kernel) (pa_cons (k_fld K e.f_Desk_commits (pv 0)) pa_nil)) (pe_callB (k_len K) rfl e.x_len (by decide +kernel) (pa_cons (k_fld K e.f_Game_agents (k_fld K e.f_Desk_game (pv 0))) pa_nil)) (nomark _)) (pss_one (ps_ret (pe_lst pa_nil))) pss_nil)
      (pss_cons (ps_fldF e.f_Desk_list_body (by decide) (pv 0) (pe_callTy (k_tup K) rfl e.x_tuple (by decide +kernel) (pa_cons (pe_lc (own := [("index", 3)]) rfl S.nd (pi_range1 rfl e.x_range (pa_cons (pe_callB (k_len K) rfl e.x_len (by decide +kernel) (pa_cons (k_fld K e.f_Game_agents (k_fld K e.f_Desk_game (pv 0))) pa_nil)) pa_nil)) (blkOk_by (by rfl)) (fun _ _ _ _ _ => (pg_name (i := 3) S.nd rfl (by first | exact Or.inl rfl | exact Or.inr rfl))) (fun _ _ _ _ _ => pts_nil) (fun _ _ _ _ _ => (pe_dget (room1 hr) (k_fld K e.f_Desk_commits (pv 0)) (pe_op (k_add K) (pv 3) pe_int) (fun _ _ => rfl)))) pa_nil)))
      (pss_one (ps_ret (pe_lst (pa_cons (k_me K e.c_Desk e.h_Desk_letter (o_Desk_letter e) (hr.mono (by decide)) (pv 0) (pa_cons pe_str (pa_cons (k_fld K e.f_Desk_list_body (pv 0)) pa_nil))) pa_nil))))))), ?_⟩
  intro ds G Φ h
  try dsimp only [cxK, blkK]
  obtain ⟨x, y, z, rfl, f, cs, sg, st, j, q, rfl, a, o, rfl, j1, j2, rfl, hs, inv, k⟩ := h
  have h1 := a.dt
  have h2 := a.N.nt
  have h3 := a.gm
  have h4 := a.dc
  have n3 := o.okA.n3
  have n1 := o.okA.n1
  have hl : ((f.A.map agD).length : Int) = (f.A.length : Int) := by rw [List.length_map]
  obtain ⟨e1, e2, e3, e4, e5⟩ := a.ne
  fail "x"
  refine ⟨f.dc, _, _, _, rfl, h4, rfl, rfl, ?_⟩
  rw [look_dcG]
  cases hlk : lookN st.com j with
  | none =>
    have a1 := a.setC (l := st.com ++ [(j, q)])
    have inv1 : DInv f { st with com := st.com ++ [(j, q)] } := ⟨inv.com.add hlk j1 j2, inv.opn, inv.lb, inv.ok⟩
    fail "x"
    refine ⟨f.dc, _, _, _, rfl, h4, rfl, rfl, by unfold dcG; rw [List.length_map]; have := inv.com.le; omega, ?_⟩
    rw [put_dcG hlk]
    have k1 : ∀ (out : List Lt) (sg' : List Sg) (st' : DSt), DStep f sg out sg' st' → Φ (Dt.dat (PyData.list (List.map ltD out))) (dG K f (updG G f.dc (.dic (dcG prD2 (st.com ++ [(j, q)])))) sg' st') := fun out sg' st' h => phi_eq (k out sg' st' h) (dG_dc e1).symm
    generalize updG G f.dc (.dic (dcG prD2 (st.com ++ [(j, q)]))) = G1 at *
    generalize ({ st with com := st.com ++ [(j, q)] } : DSt) = st1 at *
    have h5 := a1.dt
    have h6 := a1.gm
    have h7 := a1.N.nt
    have h8 := a1.dc
    have hd : (dcG prD2 st1.com).length = st1.com.length := by unfold dcG; rw [List.length_map]
    fail "x"
    rw [hd]
    refine ⟨fun hb => ?_, fun hb => ?_⟩
    · fail "x"
      exact phi_eq (k1 [] sg st1 (DStep.stay inv1 a1.N.oks)) (dG_same a1)
    have hN : f.A.length ≤ st1.com.length := by
      have := of_decide_eq_false hb
      omega
    obtain ⟨r, hr1, hr2, hr3⟩ := inv1.com.row hN
    have a2 := a1.setD (st' := { st1 with lb := some r }) rfl rfl
    have inv2 : DInv f { st1 with lb := some r } := ⟨inv1.com, inv1.opn, fun L e => by cases e; exact hr1, inv1.ok⟩
    have h9 := a2.dt
    fail "x"
    refine we_mapL (wi_rng1 ?_)
    fail "x"
    refine ⟨by omega, by omega, ?_⟩
    refine ⟨[3], Nat, List.range f.A.length, fun i => .int (i : Nat), fun i => prD2 (r.getD i (0, 0)), ?_, by decide, by rw [List.length_range]; omega, fun i hi => ?_, ?_⟩
    · unfold upD
      rw [hl, Int.toNat_natCast]
      exact List.map_congr_left fun i _ => by rw [Int.zero_add]
    · have hi := List.mem_range.mp hi
      fail "x"
      refine ⟨f.dc, _, _, _, _, rfl, h8, rfl, rfl, ?_, rfl, rfl⟩
      rw [show ((i : Nat) : Int) + 1 = ((i + 1 : Nat) : Int) by omega, look_dcG, hr2 i hi]
      exact row_at (by omega)
    rw [row_map hr1]
    fail "x"
    refine ⟨f, cs, sg, { st1 with lb := some r }, "list", .prs r, rfl, a2, o, rfl, rfl, by decide +kernel, show r.length ≤ 3 by omega, hs, ?_⟩
    fail "x"
    have h10 := k1 _ _ _ (DStep.told inv2 a1.N.oks (k := "list") (b := .prs r) (by decide +kernel) (show r.length ≤ 3 by omega))
    exact phi_eq h10 ((dG_s.trans (dG_d e3 e4 e5)).symm.trans (dG_same (a2.setS (addc_ok a1.N.oks ⟨(by decide +kernel : ("list" : Str) ∈ kinds5), show r.length ≤ 3 by omega⟩))))
  | some v =>
    have a1 := a
    have inv1 := inv
    have k1 := k
    fail "x"
    generalize G = G1 at *
    generalize st = st1 at *
    have h5 := a1.dt
    have h6 := a1.gm
    have h7 := a1.N.nt
    have h8 := a1.dc
    have hd : (dcG prD2 st1.com).length = st1.com.length := by unfold dcG; rw [List.length_map]
    fail "x"
    rw [hd]
    refine ⟨fun hb => ?_, fun hb => ?_⟩
    · fail "x"
      exact phi_eq (k1 [] sg st1 (DStep.stay inv1 a1.N.oks)) (dG_same a1)
    have hN : f.A.length ≤ st1.com.length := by
      have := of_decide_eq_false hb
      omega
    obtain ⟨r, hr1, hr2, hr3⟩ := inv1.com.row hN
    have a2 := a1.setD (st' := { st1 with lb := some r }) rfl rfl
    have inv2 : DInv f { st1 with lb := some r } := ⟨inv1.com, inv1.opn, fun L e => by cases e; exact hr1, inv1.ok⟩
    have h9 := a2.dt
    fail "x"
    refine we_mapL (wi_rng1 ?_)
    fail "x"
    refine ⟨by omega, by omega, ?_⟩
    refine ⟨[3], Nat, List.range f.A.length, fun i => .int (i : Nat), fun i => prD2 (r.getD i (0, 0)), ?_, by decide, by rw [List.length_range]; omega, fun i hi => ?_, ?_⟩
    · unfold upD
      rw [hl, Int.toNat_natCast]
      exact List.map_congr_left fun i _ => by rw [Int.zero_add]
    · have hi := List.mem_range.mp hi
      fail "x"
      refine ⟨f.dc, _, _, _, _, rfl, h8, rfl, rfl, ?_, rfl, rfl⟩
      rw [show ((i : Nat) : Int) + 1 = ((i + 1 : Nat) : Int) by omega, look_dcG, hr2 i hi]
      exact row_at (by omega)
    rw [row_map hr1]
    fail "x"
    refine ⟨f, cs, sg, { st1 with lb := some r }, "list", .prs r, rfl, a2, o, rfl, rfl, by decide +kernel, show r.length ≤ 3 by omega, hs, ?_⟩
    fail "x"
    have h10 := k1 _ _ _ (DStep.told inv2 a1.N.oks (k := "list") (b := .prs r) (by decide +kernel) (show r.length ≤ 3 by omega))
    exact phi_eq h10 ((dG_s.trans (dG_d e3 e4 e5)).symm.trans (dG_same (a2.setS (addc_ok a1.N.oks ⟨(by decide +kernel : ("list" : Str) ∈ kinds5), show r.length ≤ 3 by omega⟩))))
theorem o_Desk_take_commit {P : Program} {w : World} {K : PySem.W.Frag} {mg : Str → Option Value} {base : Heap} (e : Ev P w K mg base) : OkD P w K mg base 19 (He.ma K (He.ga K "Desk") "take_commit") ["self", "sender", "pair"] [] (F_Desk_take_commit K) := by
  obtain ⟨fd, FD⟩ := e.d_Desk_take_commit
  exact okN FD (n_Desk_take_commit e FD) fun _ _ _ _ _ _ us hl => match us, hl with | [_, _, _], _ => rfl
theorem sc_Desk_take_open : FnScope ["self", "sender", "pair", "index"] ["self", "sender", "pair"] (defScope (inClass (top 76) 5)) := ⟨rfl, rfl, rfl, by decide +kernel, rfl, by decide +kernel, by decide +kernel⟩
theorem n_Desk_take_open {P : Program} {w : World} {K : PySem.W.Frag} {mg : Str → Option Value} {base : Heap} {fd : FuncData} {dvs : List V} {kws : List (Str × V)} (e : Ev P w K mg base) (FD : FunD K "take_open" "Desk.take_open" (defArgs (inClass (top 76) 5)) (defBody (inClass (top 76) 5)) (defScope (inClass (top 76) 5)) dvs kws (He.ma K (He.ga K "Desk") "take_open") fd) : FnOk P w K mg base CX0 19 (He.ma K (He.ga K "Desk") "take_open") fd ["self", "sender", "pair"] (spD K (F_Desk_take_open K)) := by
  have S := sc_Desk_take_open
  refine okD FD S (fun _ _ _ h => len3 h) fun cdv A outer s H E hr => ⟨_, (pss_cons (ps_if (pt_cmp (pc_isN (k_fld K e.f_Desk_list_body (pv 0)))) (pss_one (ps_ret (pe_lst pa_nil))) pss_nil)
      (pss_cons (ps_if (pt_not (pt_val (k_cl K (o_open_fits e) (hr.mono (by decide)) e.g_open_fits (pa_cons (k_fld K e.f_Desk_notary (pv 0)) (pa_cons (k_fld K e.f_Desk_game (pv 0)) (pa_cons (k_fld K e.f_Desk_round_number (pv 0)) (pa_cons (pv 1) (pa_cons (k_fld K e.f_Desk_list_body (pv 0)) (pa_cons (pe_ix (k_ix K) (pv 2) pe_int (fun _ _ => rfl)) pa_nil))))))))) (pss_one (ps_ret (pe_lst pa_nil))) pss_nil)
      (pss_cons (ps_if (pt_cmp (pc_dnotin (room1 hr) (pv 1) (k_fld K e.f_Desk_opens (pv 0)))) (pss_one (ps_dput (room1 hr) (k_fld K e.f_Desk_opens (pv 0)) (pv 1) (pv 2) (by rfl))) pss_nil)
      (pss_cons (ps_if (pt_cmpR op_lt (pe_callB call_lenDD rfl e.x_len (by decide +kernel) (pa_cons (k_fld K e.f_Desk_opens (pv 0)) pa_nil)) (pe_callB (k_len K) rfl e.x_len (by decide +kernel) (pa_cons (k_fld K e.f_Game_agents (k_fld K e.f_Desk_game (pv 0))) pa_nil)) (nomark _)) (pss_one (ps_ret (pe_lst pa_nil))) pss_nil)
      (pss_cons (ps_fldF e.f_Desk_book_body (by decide) (pv 0) (pe_callTy (k_tup K) rfl e.x_tuple (by decide +kernel) (pa_cons (pe_lc (own := [("index", 3)]) rfl S.nd (pi_range1 rfl e.x_range (pa_cons (pe_callB (k_len K) rfl e.x_len (by decide +kernel) (pa_cons (k_fld K e.f_Game_agents (k_fld K e.f_Desk_game (pv 0))) pa_nil)) pa_nil)) (blkOk_by (by rfl)) (fun _ _ _ _ _ => (pg_name (i := 3) S.nd rfl (by first | exact Or.inl rfl | exact Or.inr rfl))) (fun _ _ _ _ _ => pts_nil) (fun _ _ _ _ _ => (pe_dget (room1 hr) (k_fld K e.f_Desk_opens (pv 0)) (pe_op (k_add K) (pv 3) pe_int) (fun _ _ => rfl)))) pa_nil)))
      (pss_one (ps_ret (pe_lst (pa_cons (k_me K e.c_Desk e.h_Desk_letter (o_Desk_letter e) (hr.mono (by decide)) (pv 0) (pa_cons pe_str (pa_cons (k_fld K e.f_Desk_book_body (pv 0)) pa_nil))) pa_nil))))))))), ?_⟩
  intro ds G Φ h
  try dsimp only [cxK, blkK]
  obtain ⟨x, y, z, rfl, f, cs, sg, st, j, b, i0, rfl, a, o, rfl, j1, j2, rfl, hbo, hs, inv, k⟩ := h
  have h1 := a.dt
  have h2 := a.N.nt
  have h3 := a.gm
  have h4 := a.dp
  have n3 := o.okA.n3
  have n1 := o.okA.n1
  have hl : ((f.A.map agD).length : Int) = (f.A.length : Int) := by rw [List.length_map]
  obtain ⟨e1, e2, e3, e4, e5⟩ := a.ne
  have kf : Φ (.dat (.list [])) G := phi_eq (k [] sg st (DStep.stay inv a.N.oks)) (dG_same a)
  cases hlb : st.lb with
  | none =>
    simp only [deskO, hlb, lbD] at h1
    fail "x"
    exact kf
  | some L =>
    have hL := inv.lb L hlb
    simp only [deskO, hlb, lbD] at h1
    fail "x"
    refine ⟨_, _, _, _, _, _, rfl, f.g, f.A, f.ks, f.n, f.c, f.s, cs, sg, j - 1, L, b, rfl, rfl, a.gm, o.okA, a.N, rfl, congrArg (fun i => Dt.dat (.int i)) (by omega), by omega, hL, rfl, rfl, hbo, fun r hr => ?_⟩
    fail "x"
    refine ⟨fun hb => ?_, fun hb => ?_⟩
    · fail "x"
      exact kf
    have hr' := hr (by simpa using hb)
    obtain ⟨op, rfl, hF⟩ := hr'
    fail "x"
    refine ⟨f.dp, _, _, _, rfl, h4, rfl, rfl, ?_⟩
    rw [look_dcG]
    cases hlk : lookN st.opn j with
    | none =>
      have a1 := a.setO (l := st.opn ++ [(j, (op, i0))])
      have inv1 : DInv f { st with opn := st.opn ++ [(j, (op, i0))] } := ⟨inv.com, inv.opn.add hlk j1 j2, inv.lb, fun p hp => by
        rcases List.mem_append.mp hp with hp | hp
        · exact inv.ok p hp
        · rw [List.mem_singleton.mp hp]; exact hbo⟩
      fail "x"
      refine ⟨f.dp, _, _, _, rfl, h4, rfl, rfl, by unfold dcG; rw [List.length_map]; have := inv.opn.le; omega, ?_⟩
      rw [show (Dt.dat (.tuple [By.d (.opn op), .int i0])) = .dat (obD (op, i0)) from rfl, put_dcG hlk]
      have k1 : ∀ (out : List Lt) (sg' : List Sg) (st' : DSt), DStep f sg out sg' st' → Φ (Dt.dat (PyData.list (List.map ltD out))) (dG K f (updG G f.dp (.dic (dcG obD (st.opn ++ [(j, (op, i0))])))) sg' st') := fun out sg' st' h => phi_eq (k out sg' st' h) (dG_dp e2 a.cp_.symm).symm
      generalize updG G f.dp (.dic (dcG obD (st.opn ++ [(j, (op, i0))]))) = G1 at *
      generalize ({ st with opn := st.opn ++ [(j, (op, i0))] } : DSt) = st1 at *
      have h5 := a1.dt
      have h6 := a1.gm
      have h7 := a1.N.nt
      have h8 := a1.dp
      have hd : (dcG obD st1.opn).length = st1.opn.length := by unfold dcG; rw [List.length_map]
      fail "x"
      rw [hd]
      refine ⟨fun hb => ?_, fun hb => ?_⟩
      · fail "x"
        exact phi_eq (k1 [] sg st1 (DStep.stay inv1 a1.N.oks)) (dG_same a1)
      have hN : f.A.length ≤ st1.opn.length := by
        have := of_decide_eq_false hb
        omega
      obtain ⟨r, hr1, hr2, hr3⟩ := inv1.opn.row hN
      cases r with
      | nil => rw [← hr1] at n1; cases n1
      | cons r0 r =>
      have hl3 : r.length ≤ 2 := by rw [List.length_cons] at hr1; omega
      have hbk : (By.bks r0 r).ok := by
        have ok : ∀ p ∈ r0 :: r, okO p.1 := fun p hp => by
          obtain ⟨i, hi⟩ := hr3 p hp
          exact inv1.ok _ hi
        exact ⟨hl3, ok r0 (by simp), fun p hp => ok p (List.mem_cons_of_mem _ hp)⟩
      have a2 := a1.setD (st' := { st1 with bb := some (r0, r) }) rfl rfl
      have inv2 : DInv f { st1 with bb := some (r0, r) } := ⟨inv1.com, inv1.opn, inv1.lb, inv1.ok⟩
      have h9 := a2.dt
      fail "x"
      refine we_mapL (wi_rng1 ?_)
      fail "x"
      refine ⟨by omega, by omega, ?_⟩
      refine ⟨[3], Nat, List.range f.A.length, fun i => .int (i : Nat), fun i => obD ((r0 :: r).getD i r0), ?_, by decide, by rw [List.length_range]; omega, fun i hi => ?_, ?_⟩
      · unfold upD
        rw [hl, Int.toNat_natCast]
        exact List.map_congr_left fun i _ => by rw [Int.zero_add]
      · have hi := List.mem_range.mp hi
        fail "x"
        refine ⟨f.dp, _, _, _, _, rfl, h8, rfl, rfl, ?_, rfl, rfl⟩
        rw [show ((i : Nat) : Int) + 1 = ((i + 1 : Nat) : Int) by omega, look_dcG, hr2 i hi]
        exact row_at (by omega)
      rw [row_map hr1]
      fail "x"
      refine ⟨f, cs, sg, { st1 with bb := some (r0, r) }, "book", .bks r0 r, rfl, a2, o, rfl, rfl, by decide +kernel, hbk, hs, ?_⟩
      fail "x"
      have h10 := k1 _ _ _ (DStep.told inv2 a1.N.oks (k := "book") (b := .bks r0 r) (by decide +kernel) hbk)
      exact phi_eq h10 ((dG_s.trans (dG_d e3 e4 e5)).symm.trans (dG_same (a2.setS (addc_ok a1.N.oks ⟨(by decide +kernel : ("book" : Str) ∈ kinds5), hbk⟩))))
    | some v =>
      have a1 := a
      have inv1 := inv
      have k1 := k
      fail "x"
      generalize G = G1 at *
      generalize st = st1 at *
      have h5 := a1.dt
      have h6 := a1.gm
      have h7 := a1.N.nt
      have h8 := a1.dp
      have hd : (dcG obD st1.opn).length = st1.opn.length := by unfold dcG; rw [List.length_map]
      fail "x"
      rw [hd]
      refine ⟨fun hb => ?_, fun hb => ?_⟩
      · fail "x"
        exact phi_eq (k1 [] sg st1 (DStep.stay inv1 a1.N.oks)) (dG_same a1)
      have hN : f.A.length ≤ st1.opn.length := by
        have := of_decide_eq_false hb
        omega
      obtain ⟨r, hr1, hr2, hr3⟩ := inv1.opn.row hN
      cases r with
      | nil => rw [← hr1] at n1; cases n1
      | cons r0 r =>
      have hl3 : r.length ≤ 2 := by rw [List.length_cons] at hr1; omega
      have hbk : (By.bks r0 r).ok := by
        have ok : ∀ p ∈ r0 :: r, okO p.1 := fun p hp => by
          obtain ⟨i, hi⟩ := hr3 p hp
          exact inv1.ok _ hi
        exact ⟨hl3, ok r0 (by simp), fun p hp => ok p (List.mem_cons_of_mem _ hp)⟩
      have a2 := a1.setD (st' := { st1 with bb := some (r0, r) }) rfl rfl
      have inv2 : DInv f { st1 with bb := some (r0, r) } := ⟨inv1.com, inv1.opn, inv1.lb, inv1.ok⟩
      have h9 := a2.dt
      fail "x"
      refine we_mapL (wi_rng1 ?_)
      fail "x"
      refine ⟨by omega, by omega, ?_⟩
      refine ⟨[3], Nat, List.range f.A.length, fun i => .int (i : Nat), fun i => obD ((r0 :: r).getD i r0), ?_, by decide, by rw [List.length_range]; omega, fun i hi => ?_, ?_⟩
      · unfold upD
        rw [hl, Int.toNat_natCast]
        exact List.map_congr_left fun i _ => by rw [Int.zero_add]
      · have hi := List.mem_range.mp hi
        fail "x"
        refine ⟨f.dp, _, _, _, _, rfl, h8, rfl, rfl, ?_, rfl, rfl⟩
        rw [show ((i : Nat) : Int) + 1 = ((i + 1 : Nat) : Int) by omega, look_dcG, hr2 i hi]
        exact row_at (by omega)
      rw [row_map hr1]
      fail "x"
      refine ⟨f, cs, sg, { st1 with bb := some (r0, r) }, "book", .bks r0 r, rfl, a2, o, rfl, rfl, by decide +kernel, hbk, hs, ?_⟩
      fail "x"
      have h10 := k1 _ _ _ (DStep.told inv2 a1.N.oks (k := "book") (b := .bks r0 r) (by decide +kernel) hbk)
      exact phi_eq h10 ((dG_s.trans (dG_d e3 e4 e5)).symm.trans (dG_same (a2.setS (addc_ok a1.N.oks ⟨(by decide +kernel : ("book" : Str) ∈ kinds5), hbk⟩))))
theorem o_Desk_take_open {P : Program} {w : World} {K : PySem.W.Frag} {mg : Str → Option Value} {base : Heap} (e : Ev P w K mg base) : OkD P w K mg base 19 (He.ma K (He.ga K "Desk") "take_open") ["self", "sender", "pair"] [] (F_Desk_take_open K) := by
  obtain ⟨fd, FD⟩ := e.d_Desk_take_open
  exact okN FD (n_Desk_take_open e FD) fun _ _ _ _ _ _ us hl => match us, hl with | [_, _, _], _ => rfl
end DL
/-! (Kb) -/
namespace DL
open PySem PySem.Spec PyProof.Rows L2

local macro_rules | `(tactic| fail "l") => `(tactic| first | exact Nat.le_of_ble_eq_true rfl | omega | (simp only [List.length_map, List.length_append, List.length_cons, List.length_nil]; omega))
local macro_rules | `(tactic| fail "aS") => `(tactic| with_reducible first | refine ws_seq ?_ | refine ws_if ?_ | refine ws_ret ?_ | refine ws_asg ?_ | refine ws_drop ?_ | refine ws_next ?_ | refine ws_retN ?_ | refine ws_fldF ?_ | refine ws_fldN ?_ | refine ws_dput ?_ | refine ws_asgT5 ?_ | refine ws_asgT4 ?_ | refine ws_asgT3 ?_)
local macro_rules | `(tactic| fail "aO") => `(tactic| with_reducible first | refine we_ix ?_ | refine we_II ?_ | refine we_IB ?_ | refine we_eq ?_ | refine we_ne ?_ | refine we_add ?_ | refine we_addG ?_ | refine we_IC ?_ | refine we_eqD ?_ | refine we_neD ?_ | refine we_inD ?_ | refine we_notInD ?_ | refine we_in ?_ | refine we_inSg ?_)
local macro_rules | `(tactic| fail "aC") => `(tactic| with_reducible first | refine we_len ?_ | refine we_lenD ?_ | refine we_all ?_ | refine we_any ?_ | refine we_int1 ?_ | refine we_strI ?_ | refine we_listOf ?_ | refine we_tupOf ?_ | refine we_sum ?_ | refine we_abs ?_ | refine we_min2 ?_ | refine we_gcd ?_)
local macro_rules | `(tactic| fail "aE") => `(tactic| first
  | ((with_reducible apply we_var); rfl)
  | with_reducible refine we_int ?_ | with_reducible refine we_str ?_ | with_reducible refine we_non ?_ | with_reducible refine we_bl ?_
  | ((with_reducible show WE _ (tOp _ _ _) _ _ _); fail "aO")
  | ((with_reducible show WE _ (tCB _ _) _ _ _); fail "aC")
  | with_reducible refine we_call ?_ | with_reducible refine we_fld ?_ | with_reducible refine we_meth' ?_ | with_reducible refine we_tup ?_ | with_reducible refine we_isi (by decide) ?_ | with_reducible refine we_lst ?_ | with_reducible refine we_lstG ?_
  | with_reducible refine we_and ?_ | with_reducible refine we_or ?_ | with_reducible refine we_not ?_ | with_reducible refine we_chainI ?_ | with_reducible refine we_isN ?_ | with_reducible refine we_notN ?_ | with_reducible refine we_append ?_ | with_reducible refine we_extend ?_ | with_reducible refine we_index ?_
  | with_reducible refine we_slL ?_ | with_reducible refine we_slT ?_ | with_reducible refine we_dget ?_ | with_reducible refine we_din ?_ | with_reducible refine we_dnotin ?_ | with_reducible refine we_dictG ?_ | with_reducible refine we_prop ?_ | with_reducible refine we_join ?_ | with_reducible refine we_neg ?_ | with_reducible refine we_lenSet ?_)
local macro_rules | `(tactic| fail "aT") => `(tactic| with_reducible first | refine wt_val ?_ | refine wt_tst ?_ | refine wt_and ?_ | refine wt_or ?_ | refine wt_not ?_ | refine wt_yes ?_)
local macro_rules | `(tactic| fail "aD") => `(tactic| with_reducible first | refine dEq_ii ?_ | refine dEq_ss ?_ | refine dEq_bb ?_ | refine dEq_nn ?_ | refine dEq_ni ?_ | refine dEq_in ?_ | refine dAdd_ii ?_ | refine dInt_i ?_ | refine dInt_b ?_ | refine dLen_l ?_ | refine dLen_t ?_)
local macro_rules | `(tactic| fail "a") => `(tactic| first
  | ((with_reducible show WE _ _ _ _ _); fail "aE")
  | ((with_reducible show WA _ _ _ _ _); (with_reducible first | refine wa_cons ?_ | refine wa_nil ?_))
  | ((with_reducible show WS _ _ _ _ _); fail "aS")
  | ((with_reducible show WT _ _ _ _ _); fail "aT")
  | ((with_reducible show WG _ _ _ _ _ _ _); first | with_reducible refine wg_name ?_ | ((with_reducible refine wg_tup ?_ ?_); rfl))
  | ((with_reducible show WGs _ _ _ _ _ _ _); (with_reducible first | refine wgs_cons ?_ | refine wgs_nil ?_))
  | ((with_reducible show WO _ _ _ _ _); (with_reducible first | refine wo_none ?_ | refine wo_some ?_))
  | ((with_reducible show dIx _ _ _ _); first | ((with_reducible apply dIx_t); rfl) | ((with_reducible apply dIx_l); rfl))
  | ((with_reducible show dAdd _ _ _ _); first | with_reducible refine dAdd_ii ?_ | ((with_reducible refine dAdd_ll ?_ ?_); fail "l") | ((with_reducible apply dAdd_ol); (fail "h"); (fail "l")) | ((with_reducible refine dAdd_tt ?_ ?_); fail "l") | ((with_reducible refine dAdd_ss ?_ ?_); fail "l"))
  | fail "aD")
local macro_rules | `(tactic| fail "e") => `(tactic| ((fail_if_success (with_reducible show ∃ _ : NF, _)); (fail_if_success (with_reducible show ∃ _ : PF, _)); (fail_if_success (with_reducible show ∃ _ : DF, _)); (first | with_reducible refine ⟨_, _, rfl, rfl, ?_⟩ | with_reducible refine ⟨_, rfl, ?_⟩ | with_reducible refine ⟨rfl, ?_⟩ | with_reducible refine ⟨_, _, rfl, ?_⟩ | with_reducible refine ⟨_, _, _, rfl, ?_⟩ | with_reducible refine ⟨_, _, _, _, rfl, ?_⟩ | with_reducible refine ⟨_, _, _, _, _, rfl, ?_⟩ | ((refine ⟨?l, ?_⟩); (case l => (with_reducible show _ < 1000000); fail "l")) | ((refine ⟨?l, ?_⟩); (case l => (with_reducible show _ ≤ 1000000); fail "l")))))
local macro_rules | `(tactic| fail "g") => `(tactic| ((funext gb; simp only [updG, dropG]; repeat' split) <;> first | rfl | (exfalso; simp_all; done) | (simp_all; done)))
local macro_rules | `(tactic| fail "q") => `(tactic| first | assumption | exact Ne.symm (by assumption))
local macro_rules | `(tactic| fail "h") => `(tactic| first | assumption | exact updG_same | ((rw [updG_ne]); (fail "h"); (fail "q")))
local macro_rules | `(tactic| fail "z") => `(tactic| first | rfl | exact ⟨rfl, rfl⟩ | exact ⟨_, rfl, rfl⟩ | exact ⟨_, _, rfl, rfl⟩ | exact ⟨_, _, _, rfl, rfl⟩ | assumption)
local macro_rules | `(tactic| fail "f") => `(tactic| first
  | refine ⟨_, _, rfl, .inr (.inl rfl), ?_⟩ | refine ⟨_, _, rfl, .inl rfl, ?_⟩
  | (refine ⟨_, ?ds, rfl, .inr (.inr ⟨_, rfl, ?h1⟩), ?_⟩; (case h1 => fail "h"))
  | (refine ⟨_, ?ds, rfl, .inr ⟨_, rfl, ?h1⟩, ?_⟩; (case h1 => fail "h"))
  | ((with_reducible refine ⟨_, ?ds, ?d, rfl, ?h1, ?h2, ?_⟩); (case h1 => fail "h"); (case h2 => rfl))
  | ((with_reducible refine ⟨_, ?ds, rfl, ?h1, ?_⟩); (case h1 => fail "h"))
  | ((with_reducible refine ⟨_, ?ns, ?ds, rfl, ?h1, ?h2, ?_⟩); (case h1 => fail "h"); (case h2 => decide))
  | ((with_reducible refine ⟨_, ?ns, ?ds, rfl, (?h1 : _ = some (GO.ins _ ?ns ?ds)), ?_⟩); (case h1 => fail "h"))
  | ((with_reducible refine ⟨_, rfl, ⟨?ys, ?h1⟩, ?_⟩); (case h1 => fail "h"))
  | ((with_reducible refine ⟨_, ?xs, rfl, ?h1, ?h2, ?_⟩); (case h1 => fail "h"); (case h2 => omega)))
local macro_rules | `(tactic| fail "y") => `(tactic| first
  | ((with_reducible refine ⟨fun _ => ?_, fun hbb => ?nope⟩); (case nope => first | exact Bool.noConfusion (show true = false from hbb) | exact Bool.noConfusion (show false = true from hbb) | exact absurd (of_decide_eq_true hbb) (by omega) | exact absurd (of_decide_eq_false hbb) (by omega) | (simp at hbb; done) | (simp at hbb; omega)))
  | ((with_reducible refine ⟨fun hbb => ?nope, fun _ => ?_⟩); (case nope => first | exact Bool.noConfusion (show true = false from hbb) | exact Bool.noConfusion (show false = true from hbb) | exact absurd (of_decide_eq_true hbb) (by omega) | exact absurd (of_decide_eq_false hbb) (by omega) | (simp at hbb; done) | (simp at hbb; omega))))
local macro_rules | `(tactic| fail "w") => `(tactic| repeat fail "a")
local macro_rules | `(tactic| fail "x") => `(tactic| repeat (first | fail "a" | fail "f" | fail "e" | fail "y"))

theorem kinds_orD {z : Str} (h : z ∈ kinds5) : z = "call" ∨ z = "commit" ∨ z = "list" ∨ z = "open" ∨ z = "book" := by
  simpa [kinds5] using h

theorem sc_Desk_take : FnScope ["self", "letter", "kind", "round_number", "sender", "body", "signature"] ["self", "letter"] (defScope (inClass (top 76) 3)) := ⟨rfl, rfl, rfl, by decide +kernel, rfl, by decide +kernel, by decide +kernel⟩
theorem n_Desk_take {P : Program} {w : World} {K : PySem.W.Frag} {mg : Str → Option Value} {base : Heap} {fd : FuncData} {dvs : List V} {kws : List (Str × V)} (e : Ev P w K mg base) (FD : FunD K "take" "Desk.take" (defArgs (inClass (top 76) 3)) (defBody (inClass (top 76) 3)) (defScope (inClass (top 76) 3)) dvs kws (He.ma K (He.ga K "Desk") "take") fd) : FnOk P w K mg base CX0 20 (He.ma K (He.ga K "Desk") "take") fd ["self", "letter"] (spD K (F_Desk_take K)) := by
  have S := sc_Desk_take
  refine okD FD S (fun _ _ _ h => len2 h) fun cdv A outer s H E hr => ⟨_, (pss_cons (ps_if (pt_not (pt_val (k_cl K (o_is_signed e) (hr.mono (by decide)) e.g_is_signed (pa_cons (k_fld K e.f_Desk_notary (pv 0)) (pa_cons (pv 1) pa_nil))))) (pss_one (ps_ret (pe_lst pa_nil))) pss_nil)
      (pss_cons (ps_asg (pv 1) (k_gtup K (n := 5) rfl (pgs_cons (pg_name (i := 2) S.nd rfl (by first | exact Or.inl rfl | exact Or.inr rfl)) (pgs_cons (pg_name (i := 3) S.nd rfl (by first | exact Or.inl rfl | exact Or.inr rfl)) (pgs_cons (pg_name (i := 4) S.nd rfl (by first | exact Or.inl rfl | exact Or.inr rfl)) (pgs_cons (pg_name (i := 5) S.nd rfl (by first | exact Or.inl rfl | exact Or.inr rfl)) (pgs_cons (pg_name (i := 6) S.nd rfl (by first | exact Or.inl rfl | exact Or.inr rfl)) pgs_nil)))))))
      (pss_cons (ps_if (PW.pt (pw_or (pt_cmpR op_ne (pv 3) (k_fld K e.f_Desk_round_number (pv 0)) (nomark _)) (pw_or1 (pt_not (pt_chain op_le op_le pe_int (pv 4) (pe_callB (k_len K) rfl e.x_len (by decide +kernel) (pa_cons (k_fld K e.f_Game_agents (k_fld K e.f_Desk_game (pv 0))) pa_nil))))))) (pss_one (ps_ret (pe_lst pa_nil))) pss_nil)
      (pss_cons (ps_if (PW.pt (pw_and (pt_cmpR op_eq (pv 2) pe_str (nomark _)) (pw_and1 (pt_val (k_cl K (o_is_integer e) (hr.mono (by decide)) e.g_is_integer (pa_cons (pv 5) pa_nil)))))) (pss_one (ps_ret (k_me K e.c_Desk e.h_Desk_take_commit (o_Desk_take_commit e) (hr.mono (by decide)) (pv 0) (pa_cons (pv 4) (pa_cons (pe_tup (pa_cons (pv 5) (pa_cons (pv 6) pa_nil))) pa_nil))))) pss_nil)
      (pss_cons (ps_if (pt_cmpR op_eq (pv 2) pe_str (nomark _)) (pss_one (ps_ret (k_me K e.c_Desk e.h_Desk_take_open (o_Desk_take_open e) (hr.mono (by decide)) (pv 0) (pa_cons (pv 4) (pa_cons (pe_tup (pa_cons (pv 5) (pa_cons (pv 6) pa_nil))) pa_nil))))) pss_nil)
      (pss_one (ps_ret (pe_lst pa_nil)))))))), ?_⟩
  intro ds G Φ h
  try dsimp only [cxK, blkK]
  obtain ⟨x, y, rfl, f, cs, sg, st, l, rfl, a, o, rfl, hl, hs, inv, k⟩ := h
  have kf : Φ (.dat (.list [])) G := phi_eq (k [] sg st (DStep.stay inv a.N.oks)) (dG_same a)
  obtain ⟨kk, snd, b, sig⟩ := l
  have h1 := a.dt
  have h2 := a.N.nt
  have h3 := a.gm
  have hlA : ((f.A.map agD).length : Int) = (f.A.length : Int) := by rw [List.length_map]
  fail "x"
  refine ⟨f.ks, f.n, f.c, f.s, cs, sg, (kk, snd, b, sig), rfl, a.N, rfl, hl, ?_⟩
  fail "x"
  refine ⟨fun hv => ?_, fun hv => ?_⟩
  · fail "x"
    exact kf
  fail "x"
  refine ⟨fun hb1 => ?_, fun hb1 => ?_⟩
  case refine_2 =>
    fail "x"
    exact kf
  fail "x"
  refine ⟨fun hb2 => ?_, fun hb2 => ?_⟩
  · fail "x"
    exact kf
  have j1 : 1 ≤ snd := of_decide_eq_true hb1
  have j2 : snd ≤ f.A.length := by
    have : snd ≤ ((f.A.map agD).length : Int) := by simpa using hb2
    omega
  obtain ⟨j, rfl⟩ : ∃ j : Nat, snd = (j : Int) := ⟨snd.toNat, by omega⟩
  rcases kinds_orD hl.1 with e | e | e | e | e
  · have e : kk = "call" := e
    subst e
    fail "x"
    exact kf
  · have e : kk = "commit" := e
    subst e
    cases b with
    | num i =>
      fail "x"
      exact ⟨f, cs, sg, st, j, (i, sig), rfl, a, o, rfl, by omega, by omega, rfl, hs, inv, k⟩
    | prs l =>
      fail "x"
      exact kf
    | opn p =>
      fail "x"
      exact kf
    | bks p l =>
      fail "x"
      exact kf
  · have e : kk = "list" := e
    subst e
    fail "x"
    exact kf
  · have e : kk = "open" := e
    subst e
    fail "x"
    exact ⟨f, cs, sg, st, j, b, sig, rfl, a, o, rfl, by omega, by omega, rfl, hl.2, hs, inv, k⟩
  · have e : kk = "book" := e
    subst e
    fail "x"
    exact kf
theorem o_Desk_take {P : Program} {w : World} {K : PySem.W.Frag} {mg : Str → Option Value} {base : Heap} (e : Ev P w K mg base) : OkD P w K mg base 20 (He.ma K (He.ga K "Desk") "take") ["self", "letter"] [] (F_Desk_take K) := by
  obtain ⟨fd, FD⟩ := e.d_Desk_take
  exact okN FD (n_Desk_take e FD) fun _ _ _ _ _ _ us hl => match us, hl with | [_, _], _ => rfl
theorem sc_Desk_init : FnScope ["self", "game", "rule", "notary", "key", "round_number"] ["self", "game", "rule", "notary", "key", "round_number"] (defScope (inClass (top 76) 0)) := ⟨rfl, rfl, rfl, by decide +kernel, rfl, by decide +kernel, by decide +kernel⟩
theorem n_Desk_init {P : Program} {w : World} {K : PySem.W.Frag} {mg : Str → Option Value} {base : Heap} {fd : FuncData} {dvs : List V} {kws : List (Str × V)} (e : Ev P w K mg base) (FD : FunD K "__init__" "Desk.__init__" (defArgs (inClass (top 76) 0)) (defBody (inClass (top 76) 0)) (defScope (inClass (top 76) 0)) dvs kws (He.ma K (He.ga K "Desk") "__init__") fd) : FnOk P w K mg base CX0 18 (He.ma K (He.ga K "Desk") "__init__") fd ["self", "game", "rule", "notary", "key", "round_number"] (spD K (F_Desk_init K)) := by
  have S := sc_Desk_init
  refine okD FD S (fun _ _ _ h => len6 h) fun cdv A outer s H E hr => ⟨_, (pss_cons (ps_expr (k_cl K (o_check_round e) (hr.mono (by decide)) e.g_check_round (pa_cons (pv 1) (pa_cons (pv 3) (pa_cons (pv 5) pa_nil)))))
      (pss_cons (ps_if (pt_not (pt_val (k_me K e.c_Notary e.h_Notary_is_key (o_Notary_is_key e) (hr.mono (by decide)) (pv 3) (pa_cons pe_int (pa_cons (pv 4) pa_nil))))) pss_never pss_nil)
      (pss_cons (ps_fldN (ns := []) e.c_Desk e.a_Desk_game (by decide) (by decide) (pv 0) (pv 1))
      (pss_cons (ps_fldN (ns := ["game"]) e.c_Desk e.a_Desk_notary (by decide) (by decide) (pv 0) (pv 3))
      (pss_cons (ps_fldN (ns := ["game", "notary"]) e.c_Desk e.a_Desk_key (by decide) (by decide) (pv 0) (pv 4))
      (pss_cons (ps_fldN (ns := ["game", "notary", "key"]) e.c_Desk e.a_Desk_round_number (by decide) (by decide) (pv 0) (pv 5))
      (pss_cons (ps_fldN (ns := ["game", "notary", "key", "round_number"]) e.c_Desk e.a_Desk_terms_number (by decide) (by decide) (pv 0) (k_me K e.c_Notary e.h_Notary_number (o_Notary_number e) (hr.mono (by decide)) (pv 3) (pa_cons (k_cl K (o_terms e) (hr.mono (by decide)) e.g_terms (pa_cons (pv 1) (pa_cons (pv 2) pa_nil))) pa_nil)))
      (pss_cons (ps_fldN (ns := ["game", "notary", "key", "round_number", "terms_number"]) e.c_Desk e.a_Desk_commits (by decide) (by decide) (pv 0) pe_dnewK)
      (pss_cons (ps_fldN (ns := ["game", "notary", "key", "round_number", "terms_number", "commits"]) e.c_Desk e.a_Desk_opens (by decide) (by decide) (pv 0) pe_dnewK)
      (pss_cons (ps_fldN (ns := ["game", "notary", "key", "round_number", "terms_number", "commits", "opens"]) e.c_Desk e.a_Desk_list_body (by decide) (by decide) (pv 0) pe_non)
      (pss_one (ps_fldN (ns := ["game", "notary", "key", "round_number", "terms_number", "commits", "opens", "list_body"]) e.c_Desk e.a_Desk_book_body (by decide) (by decide) (pv 0) pe_non)))))))))))), ?_⟩
  intro ds G Φ h
  try dsimp only [cxK, blkK]
  obtain ⟨x, ga, ru, no, ke, rn, rfl, f, rl, cs, sg, rfl, hd, rfl, rfl, rfl, rfl, rfl, hg, N, hcs, o, hrl, hc, k⟩ := h
  have h2 := N.nt
  have hl : ((f.A.map agD).length : Int) = (f.A.length : Int) := by rw [List.length_map]
  fail "x"
  refine ⟨f.g, f.A, f.ks, f.n, f.c, f.s, cs, sg, rfl, hg, o.okA, rfl, N, o.klen, rfl, ?_⟩
  fail "x"
  refine ⟨f.ks, f.n, f.c, f.s, cs, sg, 0, f.key, rfl, N, rfl, rfl, o.key, ?_⟩
  have hnp : f.n ≠ f.d := neG h2 hd (ins_ne (by decide +kernel))
  have hgp : f.g ≠ f.d := neG hg hd (ins_ne (by decide +kernel))
  have hcp : f.c ≠ f.d := neG N.hc hd (by intro z; cases z)
  have hsp : f.s ≠ f.d := neG N.hs hd (by intro z; cases z)
  fail "x"
  try simp only [updG_updG]
  fail "x"
  refine ⟨f.g, f.A, rl, rfl, by rw [updG_ne hgp]; exact hg, o.okA, hrl, rfl, fun a b hab => ?_⟩
  fail "x"
  refine ⟨f.ks, f.n, f.c, f.s, cs, sg, .terms a b, rfl, N.other hnp hcp hsp, rfl, hab, hc, ?_⟩
  fail "x"
  intro dc hdc
  try simp only [updG_updG] at hdc
  have h3 := N.hc
  have hkc : dc ≠ f.c := fun z => by
    subst z
    rw [updG_ne hcp, updG_same] at hdc
    cases hdc
  have hkf : dc ≠ f.d := fun z => by
    subst z
    rw [updG_same] at hdc
    cases hdc
  rw [updG_ne hkf, updG_ne hkc, updG_ne hkf] at hdc
  fail "x"
  intro dp hdp
  have hpd : dp ≠ f.d := fun z => by
    subst z
    rw [updG_same] at hdp
    cases hdp
  rw [updG_ne hpd] at hdp
  have hpc : dp ≠ dc := fun z => by
    subst z
    rw [updG_same] at hdp
    cases hdp
  rw [updG_ne hpc, updG_ne hpd] at hdp
  have hpk : dp ≠ f.c := fun z => by
    rw [z, updG_same] at hdp
    cases hdp
  rw [updG_ne hpk, updG_ne hpd] at hdp
  fail "x"
  exact phi_eq (k dc dp _ a b hab hdc hdp hpc.symm hkf hpd) (by fail "g")
theorem o_Desk_init {P : Program} {w : World} {K : PySem.W.Frag} {mg : Str → Option Value} {base : Heap} (e : Ev P w K mg base) : OkD P w K mg base 18 (He.ma K (He.ga K "Desk") "__init__") ["self", "game", "rule", "notary", "key", "round_number"] [] (F_Desk_init K) := by
  obtain ⟨fd, FD⟩ := e.d_Desk_init
  exact okN FD (n_Desk_init e FD) fun _ _ _ _ _ _ us hl => match us, hl with | [_, _, _, _, _, _], _ => rfl
end DL
/-! (Ma) -/
namespace DL
open PySem PySem.Spec PyProof.Rows L2

local macro_rules | `(tactic| fail "l") => `(tactic| first | exact Nat.le_of_ble_eq_true rfl | omega | (simp only [List.length_map, List.length_append, List.length_cons, List.length_nil]; omega))
local macro_rules | `(tactic| fail "aS") => `(tactic| with_reducible first | refine ws_seq ?_ | refine ws_if ?_ | refine ws_ret ?_ | refine ws_asg ?_ | refine ws_drop ?_ | refine ws_next ?_ | refine ws_retN ?_ | refine ws_fldF ?_ | refine ws_fldN ?_ | refine ws_dput ?_ | refine ws_asgT5 ?_ | refine ws_asgT4 ?_ | refine ws_asgT3 ?_)
local macro_rules | `(tactic| fail "aO") => `(tactic| with_reducible first | refine we_ix ?_ | refine we_II ?_ | refine we_IB ?_ | refine we_eq ?_ | refine we_ne ?_ | refine we_add ?_ | refine we_addG ?_ | refine we_IC ?_ | refine we_eqD ?_ | refine we_neD ?_ | refine we_inD ?_ | refine we_notInD ?_ | refine we_in ?_ | refine we_inSg ?_)
local macro_rules | `(tactic| fail "aC") => `(tactic| with_reducible first | refine we_len ?_ | refine we_lenD ?_ | refine we_all ?_ | refine we_any ?_ | refine we_int1 ?_ | refine we_strI ?_ | refine we_listOf ?_ | refine we_tupOf ?_ | refine we_sum ?_ | refine we_abs ?_ | refine we_min2 ?_ | refine we_gcd ?_)
local macro_rules | `(tactic| fail "aE") => `(tactic| first
  | ((with_reducible apply we_var); rfl)
  | with_reducible refine we_int ?_ | with_reducible refine we_str ?_ | with_reducible refine we_non ?_ | with_reducible refine we_bl ?_
  | ((with_reducible show WE _ (tOp _ _ _) _ _ _); fail "aO")
  | ((with_reducible show WE _ (tCB _ _) _ _ _); fail "aC")
  | with_reducible refine we_call ?_ | with_reducible refine we_fld ?_ | with_reducible refine we_meth' ?_ | with_reducible refine we_tup ?_ | with_reducible refine we_isi (by decide) ?_ | with_reducible refine we_lst ?_ | with_reducible refine we_lstG ?_
  | with_reducible refine we_and ?_ | with_reducible refine we_or ?_ | with_reducible refine we_not ?_ | with_reducible refine we_chainI ?_ | with_reducible refine we_isN ?_ | with_reducible refine we_notN ?_ | with_reducible refine we_append ?_ | with_reducible refine we_extend ?_ | with_reducible refine we_index ?_
  | with_reducible refine we_slL ?_ | with_reducible refine we_slT ?_ | with_reducible refine we_dget ?_ | with_reducible refine we_din ?_ | with_reducible refine we_dnotin ?_ | with_reducible refine we_dictG ?_ | with_reducible refine we_prop ?_ | with_reducible refine we_join ?_ | with_reducible refine we_neg ?_ | with_reducible refine we_lenSet ?_)
local macro_rules | `(tactic| fail "aT") => `(tactic| with_reducible first | refine wt_val ?_ | refine wt_tst ?_ | refine wt_and ?_ | refine wt_or ?_ | refine wt_not ?_ | refine wt_yes ?_)
local macro_rules | `(tactic| fail "aD") => `(tactic| with_reducible first | refine dEq_ii ?_ | refine dEq_ss ?_ | refine dEq_bb ?_ | refine dEq_nn ?_ | refine dEq_ni ?_ | refine dEq_in ?_ | refine dAdd_ii ?_ | refine dInt_i ?_ | refine dInt_b ?_ | refine dLen_l ?_ | refine dLen_t ?_)
local macro_rules | `(tactic| fail "a") => `(tactic| first
  | ((with_reducible show WE _ _ _ _ _); fail "aE")
  | ((with_reducible show WA _ _ _ _ _); (with_reducible first | refine wa_cons ?_ | refine wa_nil ?_))
  | ((with_reducible show WS _ _ _ _ _); fail "aS")
  | ((with_reducible show WT _ _ _ _ _); fail "aT")
  | ((with_reducible show WG _ _ _ _ _ _ _); first | with_reducible refine wg_name ?_ | ((with_reducible refine wg_tup ?_ ?_); rfl))
  | ((with_reducible show WGs _ _ _ _ _ _ _); (with_reducible first | refine wgs_cons ?_ | refine wgs_nil ?_))
  | ((with_reducible show WO _ _ _ _ _); (with_reducible first | refine wo_none ?_ | refine wo_some ?_))
  | ((with_reducible show dIx _ _ _ _); first | ((with_reducible apply dIx_t); rfl) | ((with_reducible apply dIx_l); rfl))
  | ((with_reducible show dAdd _ _ _ _); first | with_reducible refine dAdd_ii ?_ | ((with_reducible refine dAdd_ll ?_ ?_); fail "l") | ((with_reducible apply dAdd_ol); (fail "h"); (fail "l")) | ((with_reducible refine dAdd_tt ?_ ?_); fail "l") | ((with_reducible refine dAdd_ss ?_ ?_); fail "l"))
  | fail "aD")
local macro_rules | `(tactic| fail "e") => `(tactic| ((fail_if_success (with_reducible show ∃ _ : NF, _)); (fail_if_success (with_reducible show ∃ _ : PF, _)); (fail_if_success (with_reducible show ∃ _ : DF, _)); (first | with_reducible refine ⟨_, _, rfl, rfl, ?_⟩ | with_reducible refine ⟨_, rfl, ?_⟩ | with_reducible refine ⟨rfl, ?_⟩ | with_reducible refine ⟨_, _, rfl, ?_⟩ | with_reducible refine ⟨_, _, _, rfl, ?_⟩ | with_reducible refine ⟨_, _, _, _, rfl, ?_⟩ | with_reducible refine ⟨_, _, _, _, _, rfl, ?_⟩ | ((refine ⟨?l, ?_⟩); (case l => (with_reducible show _ < 1000000); fail "l")) | ((refine ⟨?l, ?_⟩); (case l => (with_reducible show _ ≤ 1000000); fail "l")))))
local macro_rules | `(tactic| fail "g") => `(tactic| ((funext gb; simp only [updG, dropG]; repeat' split) <;> first | rfl | (exfalso; simp_all; done) | (simp_all; done)))
local macro_rules | `(tactic| fail "q") => `(tactic| first | assumption | exact Ne.symm (by assumption))
local macro_rules | `(tactic| fail "h") => `(tactic| first | assumption | exact updG_same | ((rw [updG_ne]); (fail "h"); (fail "q")))
local macro_rules | `(tactic| fail "z") => `(tactic| first | rfl | exact ⟨rfl, rfl⟩ | exact ⟨_, rfl, rfl⟩ | exact ⟨_, _, rfl, rfl⟩ | exact ⟨_, _, _, rfl, rfl⟩ | assumption)
local macro_rules | `(tactic| fail "f") => `(tactic| first
  | refine ⟨_, _, rfl, .inr (.inl rfl), ?_⟩ | refine ⟨_, _, rfl, .inl rfl, ?_⟩
  | (refine ⟨_, ?ds, rfl, .inr (.inr ⟨_, rfl, ?h1⟩), ?_⟩; (case h1 => fail "h"))
  | (refine ⟨_, ?ds, rfl, .inr ⟨_, rfl, ?h1⟩, ?_⟩; (case h1 => fail "h"))
  | ((with_reducible refine ⟨_, ?ds, ?d, rfl, ?h1, ?h2, ?_⟩); (case h1 => fail "h"); (case h2 => rfl))
  | ((with_reducible refine ⟨_, ?ds, rfl, ?h1, ?_⟩); (case h1 => fail "h"))
  | ((with_reducible refine ⟨_, ?ns, ?ds, rfl, ?h1, ?h2, ?_⟩); (case h1 => fail "h"); (case h2 => decide))
  | ((with_reducible refine ⟨_, ?ns, ?ds, rfl, (?h1 : _ = some (GO.ins _ ?ns ?ds)), ?_⟩); (case h1 => fail "h"))
  | ((with_reducible refine ⟨_, rfl, ⟨?ys, ?h1⟩, ?_⟩); (case h1 => fail "h"))
  | ((with_reducible refine ⟨_, ?xs, rfl, ?h1, ?h2, ?_⟩); (case h1 => fail "h"); (case h2 => omega)))
local macro_rules | `(tactic| fail "y") => `(tactic| first
  | ((with_reducible refine ⟨fun _ => ?_, fun hbb => ?nope⟩); (case nope => first | exact Bool.noConfusion (show true = false from hbb) | exact Bool.noConfusion (show false = true from hbb) | exact absurd (of_decide_eq_true hbb) (by omega) | exact absurd (of_decide_eq_false hbb) (by omega) | (simp at hbb; done) | (simp at hbb; omega)))
  | ((with_reducible refine ⟨fun hbb => ?nope, fun _ => ?_⟩); (case nope => first | exact Bool.noConfusion (show true = false from hbb) | exact Bool.noConfusion (show false = true from hbb) | exact absurd (of_decide_eq_true hbb) (by omega) | exact absurd (of_decide_eq_false hbb) (by omega) | (simp at hbb; done) | (simp at hbb; omega))))
local macro_rules | `(tactic| fail "w") => `(tactic| repeat fail "a")
local macro_rules | `(tactic| fail "x") => `(tactic| repeat (first | fail "a" | fail "f" | fail "e" | fail "y"))

/-! ### the net -/
structure NSt where
  cs : List Ct
  sg : List Sg
  sent : List Lt
  ds : DSt
  ps : Nat → PSt
abbrev Rp := Int × Str × Rt
structure NF where
  A : List Ag
  rl : List (List Rt)
  ks : List Str
  hon : List Bool
  reps : List Rp
  g : Addr
  n : Addr
  c : Addr
  s : Addr
  t : Addr
  se : Addr
  d : Addr
  dc : Addr
  dp : Addr
  pt : Addr
  pa : Nat → Addr
  ka : Nat → Addr
def NF.hb (f : NF) (m : Nat) : Bool := f.hon.getD m false
abbrev NF.H (f : NF) (m : Nat) : Prop := 1 ≤ m ∧ m ≤ f.A.length ∧ f.hb m = true
abbrev NF.H0 (f : NF) : Prop := f.hb 0 = true
def NF.rp (f : NF) (m : Nat) : Rp := f.reps.getD (m - 1) (0, "", (0, 1))
abbrev NF.pf (f : NF) (m : Nat) : PF := ⟨f.A, f.rl, f.ks, f.g, f.n, f.c, f.s, f.pa m, f.ka m, m, f.ks.getD m "", (f.rp m).2.1, (f.rp m).1, (f.rp m).2.2⟩
abbrev NF.df (f : NF) : DF := ⟨f.A, f.ks, f.g, f.n, f.c, f.s, f.d, f.dc, f.dp, f.ks.getD 0 ""⟩
def hons (hb : Nat → Bool) (i : Nat) : List Nat := ((List.range i).map (· + 1)).filter hb
def pdG (pa : Nat → Addr) (l : List Nat) : List (Key × Dt) := l.map fun m => (.inl ((m : Nat) : Int), .obj (pa m))
def NF.dk (f : NF) : Dt := if f.hb 0 = true then .obj f.d else .dat .none
abbrev netO (K : PySem.W.Frag) (f : NF) : GO := .ins (He.ga K "Net") ns_Net [.obj f.n, .dat (.list (f.ks.map .str)), .dat (.list (f.hon.map .bool)), .dat (.int 1), .obj f.se, f.dk, .obj f.pt]
structure NOk (f : NF) : Prop where
  okA : okG f.A
  okR : okR f.A f.rl
  okK : okKeys f.ks
  klen : f.ks.length = f.A.length + 1
  hlen : f.hon.length = f.A.length + 1
  rlen : f.reps.length = f.A.length
  reps : ∀ m, f.H m → (∃ a, f.A[m - 1]? = some a ∧ 0 ≤ (f.rp m).1 ∧ (f.rp m).1 < (a.2.length : Int)) ∧ PyData.strOk (f.rp m).2.1 = true ∧ (f.rp m).2.2 ∈ ticks ∧ (f.rp m).2.2 ≠ (1, 1)
  cs_ : f.c ≠ f.s
  sc_ : f.se ≠ f.c
  ss_ : f.se ≠ f.s
  d_ : f.H0 → f.dc ≠ f.dp ∧ f.pt ≠ f.dc ∧ f.pt ≠ f.dp
  k_ : ∀ m, f.H m → f.ka m ≠ f.c ∧ f.ka m ≠ f.s ∧ f.ka m ≠ f.se
  kk_ : ∀ m j, f.H m → f.H j → m ≠ j → f.ka m ≠ f.ka j ∧ f.pa m ≠ f.pa j
structure NAt (K : PySem.W.Frag) (f : NF) (st : NSt) (G : GH) : Prop where
  gm : G f.g = some (gameO K f.A)
  N : NotAt K f.ks f.n f.c f.s st.cs st.sg G
  tt : G f.t = some (netO K f)
  se : G f.se = some (.lst (st.sent.map ltD))
  pt : G f.pt = some (.dic (pdG f.pa (hons f.hb f.A.length)))
  d : f.H0 → G f.d = some (deskO K f.df st.ds) ∧ G f.dc = some (.dic (dcG prD2 st.ds.com)) ∧ G f.dp = some (.dic (dcG obD st.ds.opn))
  p : ∀ m, f.H m → G (f.pa m) = some (partyO K (f.pf m) (st.ps m)) ∧ G (f.ka m) = some (.lst ((st.ps m).kept.map ltD))
/-- what the net holds -/
structure NInv (f : NF) (st : NSt) : Prop where
  d : f.H0 → DInv f.df st.ds
  p : ∀ m, f.H m → PInv (f.pf m) st.cs st.sg (st.ps m)
  k : ∀ m, f.H m → ∀ l ∈ (st.ps m).kept, okL l
  se : ∀ l ∈ st.sent, okL l
  sl : st.sent.length ≤ 400
/-- how long the lists are at most -/
structure NLe (B : Nat) (f : NF) (st : NSt) : Prop where
  c : st.cs.length ≤ B
  s : st.sg.length ≤ B
  k : ∀ m, f.H m → (st.ps m).kept.length ≤ B
theorem NLe.mono {B C : Nat} {f : NF} {st : NSt} (h : NLe B f st) (e : B ≤ C) : NLe C f st := ⟨by have := h.c; omega, by have := h.s; omega, fun m hm => by have := h.k m hm; omega⟩
theorem NLe.se {B C : Nat} {f : NF} {st : NSt} {l : List Lt} (h : NLe B f st) (e : B ≤ C) : NLe C f { st with sent := l } := ⟨Nat.le_trans h.c e, Nat.le_trans h.s e, fun m hm => Nat.le_trans (h.k m hm) e⟩
/-- from one state to a later one -/
structure NGo (K : PySem.W.Frag) (f : NF) (st : NSt) (G : GH) (st' : NSt) (G' : GH) : Prop where
  at_ : NAt K f st' G'
  inv : NInv f st'
  bb : ∀ m, f.H m → ∀ q, (st.ps m).bb = some q → (st'.ps m).bb = some q
  nums : ∀ a, G a = some .nums → G' a = some .nums
  sl : st.sent.length ≤ st'.sent.length
section
variable {K : PySem.W.Frag} {f : NF} {st st' st'' : NSt} {G G' G'' : GH}
theorem NGo.refl (a : NAt K f st G) (i : NInv f st) : NGo K f st G st G := ⟨a, i, fun _ _ _ h => h, fun _ h => h, Nat.le_refl _⟩
theorem NGo.trans (h : NGo K f st G st' G') (k : NGo K f st' G' st'' G'') : NGo K f st G st'' G'' := ⟨k.at_, k.inv, fun m hm q e => k.bb m hm q (h.bb m hm q e), fun a e => k.nums a (h.nums a e), Nat.le_trans h.sl k.sl⟩
theorem NOk.pOk (o : NOk f) {m : Nat} (h : f.H m) : POk (f.pf m) := by
  obtain ⟨⟨a, h1, h2, h3⟩, h4, h5, h6⟩ := o.reps m h
  have hk : m < f.ks.length := by rw [o.klen]; omega
  exact ⟨o.okA, o.okR, by show f.ks[m]? = some (f.ks.getD m ""); rw [List.getD_eq_getElem?_getD, List.getElem?_eq_getElem hk]; rfl, o.klen, h.1, h.2.1, h4, h5⟩
theorem NOk.dOk (o : NOk f) : DkOk f.df := by
  have hk : 0 < f.ks.length := by rw [o.klen]; omega
  exact ⟨o.okA, by show f.ks[0]? = some (f.ks.getD 0 ""); rw [List.getD_eq_getElem?_getD, List.getElem?_eq_getElem hk]; rfl, o.klen⟩
theorem NAt.pAt (a : NAt K f st G) (o : NOk f) (i : NInv f st) {m : Nat} (h : f.H m) : PAt K (f.pf m) st.cs st.sg (st.ps m) G :=
  ⟨a.gm, a.N, (a.p m h).1, (a.p m h).2, o.cs_, (o.k_ m h).1, (o.k_ m h).2.1, i.k m h⟩
theorem NAt.dAt (a : NAt K f st G) (o : NOk f) (h : f.H0) : DAt K f.df st.cs st.sg st.ds G :=
  ⟨a.gm, a.N, (a.d h).1, (a.d h).2.1, (a.d h).2.2, o.cs_, (o.d_ h).1⟩
theorem pG_ne {p : PF} {cs : List Ct} {sg : List Sg} {q : PSt} {a : Addr} (h1 : a ≠ p.c) (h2 : a ≠ p.s) (h3 : a ≠ p.kp) (h4 : a ≠ p.p) : pG K p G cs sg q a = G a := by
  unfold pG
  rw [updG_ne h4, updG_ne h3, updG_ne h2, updG_ne h1]
theorem dG_ne {p : DF} {sg : List Sg} {q : DSt} {a : Addr} (h1 : a ≠ p.s) (h2 : a ≠ p.dc) (h3 : a ≠ p.dp) (h4 : a ≠ p.d) : dG K p G sg q a = G a := by
  unfold dG
  rw [updG_ne h4, updG_ne h3, updG_ne h2, updG_ne h1]
abbrev NSt.party (st : NSt) (m : Nat) (cs : List Ct) (sg : List Sg) (q : PSt) : NSt := { st with cs := cs, sg := sg, ps := fun j => if j = m then q else st.ps j }
theorem kLI {xs : List PyData} {C : Addr} {ns : List Str} {ds : List Dt} : GO.lst xs ≠ .ins C ns ds := fun z => by cases z
theorem kLD {xs : List PyData} {ds : List (Key × Dt)} : GO.lst xs ≠ .dic ds := fun z => by cases z
theorem kIL {xs : List PyData} {C : Addr} {ns : List Str} {ds : List Dt} : GO.ins C ns ds ≠ .lst xs := fun z => by cases z
theorem kID {l : List (Key × Dt)} {C : Addr} {ns : List Str} {ds : List Dt} : GO.ins C ns ds ≠ .dic l := fun z => by cases z
theorem kDL {xs : List PyData} {l : List (Key × Dt)} : GO.dic l ≠ .lst xs := fun z => by cases z
theorem kDI {l : List (Key × Dt)} {C : Addr} {ns : List Str} {ds : List Dt} : GO.dic l ≠ .ins C ns ds := fun z => by cases z
theorem kNL {xs : List PyData} : GO.nums ≠ .lst xs := fun z => by cases z
theorem kNI {C : Addr} {ns : List Str} {ds : List Dt} : GO.nums ≠ .ins C ns ds := fun z => by cases z
theorem kND {l : List (Key × Dt)} : GO.nums ≠ .dic l := fun z => by cases z
theorem NAt.party (a : NAt K f st G) (o : NOk f) {m : Nat} (h : f.H m) {cs' : List Ct} {sg' : List Sg} {q : PSt} (okc : ∀ x ∈ cs', x.ok) (oks : ∀ x ∈ sg', okS x) : NAt K f (st.party m cs' sg' q) (pG K (f.pf m) G cs' sg' q) := by
  have hc := a.N.hc
  have hs := a.N.hs
  obtain ⟨hp, hk⟩ := a.p m h
  obtain ⟨k1, k2, k3⟩ := o.k_ m h
  have ins : ∀ {x : Addr} {C : Addr} {ns : List Str} {ds : List Dt}, G x = some (.ins C ns ds) → ns ≠ ns_Party → pG K (f.pf m) G cs' sg' q x = some (.ins C ns ds) := fun e z => by
    rw [pG_ne (neG e hc kIL) (neG e hs kIL) (neG e hk kIL) (neG e hp (ins_ne z))]; exact e
  have dic : ∀ {x : Addr} {l : List (Key × Dt)}, G x = some (.dic l) → pG K (f.pf m) G cs' sg' q x = some (.dic l) := fun e => by
    rw [pG_ne (neG e hc kDL) (neG e hs kDL) (neG e hk kDL) (neG e hp kDI)]; exact e
  refine ⟨ins a.gm (by decide +kernel), ⟨ins a.N.nt (by decide +kernel), ?_, ?_, okc, oks⟩, ins a.tt (by decide +kernel), ?_, dic a.pt, fun h0 => ?_, fun j hj => ?_⟩
  · show updG _ _ _ f.c = _
    rw [updG_ne (neG hc hp kLI), updG_ne (Ne.symm k1), updG_ne o.cs_, updG_same]
  · show updG _ _ _ f.s = _
    rw [updG_ne (neG hs hp kLI), updG_ne (Ne.symm k2), updG_same]
  · rw [pG_ne o.sc_ o.ss_ (Ne.symm k3) (neG a.se hp kLI)]; exact a.se
  · obtain ⟨d1, d2, d3⟩ := a.d h0
    exact ⟨ins d1 (by decide +kernel), dic d2, dic d3⟩
  · obtain ⟨e1, e2⟩ := a.p j hj
    by_cases z : j = m
    · subst z
      show pG K (f.pf j) G cs' sg' q (f.pa j) = some (partyO K (f.pf j) (if j = j then q else st.ps j)) ∧ pG K (f.pf j) G cs' sg' q (f.ka j) = some (GO.lst ((if j = j then q else st.ps j).kept.map ltD))
      rw [if_pos rfl]
      exact ⟨updG_same, by show updG _ (f.pa j) _ (f.ka j) = _; rw [updG_ne (neG hk hp kLI), updG_same]⟩
    · obtain ⟨z1, z2⟩ := o.kk_ j m hj h z
      obtain ⟨l1, l2, l3⟩ := o.k_ j hj
      show pG K (f.pf m) G cs' sg' q (f.pa j) = some (partyO K (f.pf j) (if j = m then q else st.ps j)) ∧ pG K (f.pf m) G cs' sg' q (f.ka j) = some (GO.lst ((if j = m then q else st.ps j).kept.map ltD))
      rw [if_neg z]
      exact ⟨by rw [pG_ne (neG e1 hc kIL) (neG e1 hs kIL) (neG e1 hk kIL) z2]; exact e1, by rw [pG_ne l1 l2 z1 (neG e2 hp kLI)]; exact e2⟩
theorem NAt.desk (a : NAt K f st G) (o : NOk f) (h : f.H0) {sg' : List Sg} {q : DSt} (oks : ∀ x ∈ sg', okS x) : NAt K f { st with sg := sg', ds := q } (dG K f.df G sg' q) := by
  have hs := a.N.hs
  obtain ⟨hd, hc, hp⟩ := a.d h
  obtain ⟨k1, k2, k3⟩ := o.d_ h
  have ins : ∀ {x : Addr} {C : Addr} {ns : List Str} {ds : List Dt}, G x = some (.ins C ns ds) → ns ≠ ns_Desk → dG K f.df G sg' q x = some (.ins C ns ds) := fun e z => by
    rw [dG_ne (neG e hs kIL) (neG e hc kID) (neG e hp kID) (neG e hd (ins_ne z))]; exact e
  have lst : ∀ {x : Addr} {l : List PyData}, G x = some (.lst l) → x ≠ f.s → dG K f.df G sg' q x = some (.lst l) := fun e z => by
    rw [dG_ne z (neG e hc kLD) (neG e hp kLD) (neG e hd kLI)]; exact e
  refine ⟨ins a.gm (by decide +kernel), ⟨ins a.N.nt (by decide +kernel), lst a.N.hc o.cs_, ?_, a.N.okc, oks⟩, ins a.tt (by decide +kernel), lst a.se o.ss_, ?_, fun _ => ⟨updG_same, ?_, ?_⟩, fun j hj => ?_⟩
  · show updG _ _ _ f.s = _
    rw [updG_ne (neG hs hd kLI), updG_ne (neG hs hp kLD), updG_ne (neG hs hc kLD), updG_same]
  · rw [dG_ne (neG a.pt hs kDL) k2 k3 (neG a.pt hd kDI)]; exact a.pt
  · show updG _ _ _ f.dc = _
    rw [updG_ne (neG hc hd kDI), updG_ne k1, updG_same]
  · show updG _ _ _ f.dp = _
    rw [updG_ne (neG hp hd kDI), updG_same]
  · obtain ⟨e1, e2⟩ := a.p j hj
    exact ⟨ins e1 (by decide +kernel), lst e2 (o.k_ j hj).2.1⟩
theorem NAt.setSe (a : NAt K f st G) (o : NOk f) {l : List Lt} : NAt K f { st with sent := l } (updG G f.se (.lst (l.map ltD))) := by
  have hs := a.se
  have ins : ∀ {x : Addr} {C : Addr} {ns : List Str} {ds : List Dt}, G x = some (.ins C ns ds) → updG G f.se (.lst (l.map ltD)) x = some (.ins C ns ds) := fun e => by rw [updG_ne (neG e hs kIL)]; exact e
  have dic : ∀ {x : Addr} {z : List (Key × Dt)}, G x = some (.dic z) → updG G f.se (.lst (l.map ltD)) x = some (.dic z) := fun e => by rw [updG_ne (neG e hs kDL)]; exact e
  exact ⟨ins a.gm, ⟨ins a.N.nt, by rw [updG_ne o.sc_.symm]; exact a.N.hc, by rw [updG_ne o.ss_.symm]; exact a.N.hs, a.N.okc, a.N.oks⟩, ins a.tt, updG_same, dic a.pt, fun h => ⟨ins (a.d h).1, dic (a.d h).2.1, dic (a.d h).2.2⟩,
    fun m h => ⟨ins (a.p m h).1, by rw [updG_ne (o.k_ m h).2.2]; exact (a.p m h).2⟩⟩
theorem NAt.setCs (a : NAt K f st G) (o : NOk f) {l : List Ct} (okc : ∀ x ∈ l, x.ok) : NAt K f { st with cs := l } (updG G f.c (.lst (l.map Ct.d))) := by
  have hs := a.N.hc
  have ins : ∀ {x : Addr} {C : Addr} {ns : List Str} {ds : List Dt}, G x = some (.ins C ns ds) → updG G f.c (.lst (l.map Ct.d)) x = some (.ins C ns ds) := fun e => by rw [updG_ne (neG e hs kIL)]; exact e
  have dic : ∀ {x : Addr} {z : List (Key × Dt)}, G x = some (.dic z) → updG G f.c (.lst (l.map Ct.d)) x = some (.dic z) := fun e => by rw [updG_ne (neG e hs kDL)]; exact e
  exact ⟨ins a.gm, ⟨ins a.N.nt, updG_same, by rw [updG_ne o.cs_.symm]; exact a.N.hs, okc, a.N.oks⟩, ins a.tt, by rw [updG_ne o.sc_]; exact a.se, dic a.pt, fun h => ⟨ins (a.d h).1, dic (a.d h).2.1, dic (a.d h).2.2⟩,
    fun m h => ⟨ins (a.p m h).1, by rw [updG_ne (o.k_ m h).1]; exact (a.p m h).2⟩⟩
theorem NAt.setSg (a : NAt K f st G) (o : NOk f) {l : List Sg} (oks : ∀ x ∈ l, okS x) : NAt K f { st with sg := l } (updG G f.s (.lst (l.map sgD))) := by
  have hs := a.N.hs
  have ins : ∀ {x : Addr} {C : Addr} {ns : List Str} {ds : List Dt}, G x = some (.ins C ns ds) → updG G f.s (.lst (l.map sgD)) x = some (.ins C ns ds) := fun e => by rw [updG_ne (neG e hs kIL)]; exact e
  have dic : ∀ {x : Addr} {z : List (Key × Dt)}, G x = some (.dic z) → updG G f.s (.lst (l.map sgD)) x = some (.dic z) := fun e => by rw [updG_ne (neG e hs kDL)]; exact e
  exact ⟨ins a.gm, ⟨ins a.N.nt, by rw [updG_ne o.cs_]; exact a.N.hc, updG_same, a.N.okc, oks⟩, ins a.tt, by rw [updG_ne o.ss_]; exact a.se, dic a.pt, fun h => ⟨ins (a.d h).1, dic (a.d h).2.1, dic (a.d h).2.2⟩,
    fun m h => ⟨ins (a.p m h).1, by rw [updG_ne (o.k_ m h).2.1]; exact (a.p m h).2⟩⟩
/-! ### steps -/
theorem NGo.party (a : NAt K f st G) (o : NOk f) (i : NInv f st) {m : Nat} (h : f.H m) {out : List Lt} {cs' : List Ct} {sg' : List Sg} {q : PSt} (p : PStep 2 (f.pf m) st.cs st.sg (st.ps m) out cs' sg' q) : NGo K f st G (st.party m cs' sg' q) (pG K (f.pf m) G cs' sg' q) := by
  obtain ⟨xs, ex, hx⟩ := p.cx
  obtain ⟨ys, ey, hy, hz⟩ := p.sx
  refine ⟨a.party o h p.okc p.oks, ⟨i.d, fun j hj => ?_, fun j hj => ?_, i.se, i.sl⟩, fun j hj b e => ?_, fun x e => ?_, Nat.le_refl _⟩
  · show PInv (f.pf j) cs' sg' (if j = m then q else st.ps j)
    by_cases z : j = m
    · subst z; rw [if_pos rfl]; exact p.inv
    · rw [if_neg z, ex, ey]
      exact (i.p j hj).ext fun y hy e => z (by have := (hz y hy).symm.trans e; exact (Int.ofNat.inj this).symm)
  · show ∀ l ∈ (if j = m then q else st.ps j).kept, okL l
    by_cases z : j = m
    · subst z; rw [if_pos rfl]; exact p.kok
    · rw [if_neg z]; exact i.k j hj
  · show (if j = m then q else st.ps j).bb = some b
    by_cases z : j = m
    · subst z; rw [if_pos rfl]; exact p.bb b e
    · rw [if_neg z]; exact e
  · obtain ⟨hp, hk⟩ := a.p m h
    rw [pG_ne (neG e a.N.hc kNL) (neG e a.N.hs kNL) (neG e hk kNL) (neG e hp kNI)]; exact e
theorem NLe.party {B : Nat} (b : NLe B f st) {m : Nat} {out : List Lt} {cs' : List Ct} {sg' : List Sg} {q : PSt} (h : f.H m) (p : PStep 2 (f.pf m) st.cs st.sg (st.ps m) out cs' sg' q) : NLe (B + 2) f (st.party m cs' sg' q) := by
  obtain ⟨xs, ex, hx⟩ := p.cx
  obtain ⟨ys, ey, hy, hz⟩ := p.sx
  refine ⟨?_, ?_, fun j hj => ?_⟩
  · show cs'.length ≤ _
    have := b.c
    rw [ex, List.length_append]; omega
  · show sg'.length ≤ _
    have := b.s
    rw [ey, List.length_append]; omega
  · show (if j = m then q else st.ps j).kept.length ≤ _
    by_cases z : j = m
    · subst z; rw [if_pos rfl]; have := p.kl; have := b.k j hj; omega
    · rw [if_neg z]; have := b.k j hj; omega
theorem NGo.desk (a : NAt K f st G) (o : NOk f) (i : NInv f st) (h : f.H0) {out : List Lt} {sg' : List Sg} {q : DSt} (p : DStep f.df st.sg out sg' q) : NGo K f st G { st with sg := sg', ds := q } (dG K f.df G sg' q) := by
  obtain ⟨ys, ey, hy, hz⟩ := p.sx
  refine ⟨a.desk o h p.oks, ⟨fun _ => p.inv, fun j hj => ?_, i.k, i.se, i.sl⟩, fun j hj b e => e, fun x e => ?_, Nat.le_refl _⟩
  · show PInv (f.pf j) st.cs sg' (st.ps j)
    have := (i.p j hj).ext (xs := []) (ys := ys) fun y hy e => by
      have e2 := (hz y hy).symm.trans e
      have e3 : j = 0 := (Int.ofNat.inj e2).symm
      have := hj.1
      omega
    rw [List.append_nil] at this
    rw [ey]; exact this
  · obtain ⟨hd, hc, hp⟩ := a.d h
    rw [dG_ne (neG e a.N.hs kNL) (neG e hc kND) (neG e hp kND) (neG e hd kNI)]; exact e
theorem NLe.sg {B : Nat} (b : NLe B f st) {sg' : List Sg} {q : DSt} (h : sg'.length ≤ st.sg.length + 1) : NLe (B + 1) f { st with sg := sg', ds := q } :=
  ⟨by have := b.c; show st.cs.length ≤ _; omega, by have := b.s; show sg'.length ≤ _; omega, fun j hj => by have := b.k j hj; show (st.ps j).kept.length ≤ _; omega⟩
theorem NGo.setSe (a : NAt K f st G) (o : NOk f) (i : NInv f st) {l : List Lt} (hl : ∀ x ∈ l, okL x) (h4 : l.length ≤ 400) (h5 : st.sent.length ≤ l.length) : NGo K f st G { st with sent := l } (updG G f.se (.lst (l.map ltD))) :=
  ⟨a.setSe o, ⟨i.d, i.p, i.k, hl, h4⟩, fun _ _ _ e => e, fun x e => by rw [updG_ne (neG e a.se kNL)]; exact e, h5⟩
theorem NGo.number (a : NAt K f st G) (o : NOk f) (i : NInv f st) {ct : Ct} (h : ct.ok) : NGo K f st G { st with cs := addc ct st.cs } (updG G f.c (.lst ((addc ct st.cs).map Ct.d))) := by
  obtain ⟨xs, e, _⟩ := addc_one (a := ct) (xs := st.cs)
  refine ⟨a.setCs o (addc_ok a.N.okc h), ⟨i.d, fun j hj => ?_, i.k, i.se, i.sl⟩, fun _ _ _ e => e, fun x e => by rw [updG_ne (neG e a.N.hc kNL)]; exact e, Nat.le_refl _⟩
  have := (i.p j hj).ext (xs := xs) (ys := []) fun y hy => by cases hy
  rw [List.append_nil] at this
  show PInv (f.pf j) (addc ct st.cs) st.sg (st.ps j)
  rw [e]; exact this
theorem NLe.number {B : Nat} (b : NLe B f st) {ct : Ct} : NLe (B + 1) f { st with cs := addc ct st.cs } :=
  ⟨by have := b.c; have : (addc ct st.cs).length ≤ st.cs.length + 1 := addc_len; show (addc ct st.cs).length ≤ _; omega, by have := b.s; show st.sg.length ≤ _; omega, fun j hj => by have := b.k j hj; show (st.ps j).kept.length ≤ _; omega⟩
theorem NGo.sign (a : NAt K f st G) (o : NOk f) (i : NInv f st) {m : Nat} {ms : Ms} (h : okM ms) (hm : f.hb m = false) : NGo K f st G { st with sg := addc (((m : Nat) : Int), ms) st.sg } (updG G f.s (.lst ((addc (((m : Nat) : Int), ms) st.sg).map sgD))) := by
  obtain ⟨ys, e, _, hy⟩ := addc_one (a := ((((m : Nat) : Int), ms) : Sg)) (xs := st.sg)
  refine ⟨a.setSg o (addc_ok a.N.oks (show okS (((m : Nat) : Int), ms) from h)), ⟨i.d, fun j hj => ?_, i.k, i.se, i.sl⟩, fun _ _ _ e => e, fun x e => by rw [updG_ne (neG e a.N.hs kNL)]; exact e, Nat.le_refl _⟩
  have := (i.p j hj).ext (xs := []) (ys := ys) fun y h2 e => by
    rw [hy y h2] at e
    have e3 : m = j := Int.ofNat.inj e
    rw [e3, hj.2.2] at hm
    cases hm
  rw [List.append_nil] at this
  show PInv (f.pf j) st.cs (addc _ st.sg) (st.ps j)
  rw [e]; exact this
end
theorem hons_mem {hb : Nat → Bool} {i m : Nat} : m ∈ hons hb i ↔ 1 ≤ m ∧ m ≤ i ∧ hb m = true := by
  unfold hons
  rw [List.mem_filter, List.mem_map]
  constructor
  · rintro ⟨⟨j, h1, rfl⟩, h2⟩
    have := List.mem_range.mp h1
    exact ⟨by omega, by omega, h2⟩
  · rintro ⟨h1, h2, h3⟩
    exact ⟨⟨m - 1, List.mem_range.mpr (by omega), by omega⟩, h3⟩
theorem look_pd {pa : Nat → Addr} {k : Nat} : ∀ {l : List Nat}, lookD (pdG pa l) (.inl ((k : Nat) : Int)) = if k ∈ l then some (.obj (pa k)) else none
  | [] => rfl
  | m :: l => by
    have ih := look_pd (pa := pa) (k := k) (l := l)
    unfold lookD pdG at ih ⊢
    rw [List.map_cons, List.find?_cons]
    by_cases e : m = k
    · subst e
      rw [decide_eq_true rfl, if_pos (by simp)]
      rfl
    · rw [key_dec m k, decide_eq_false e]
      by_cases h : k ∈ l
      · rw [if_pos (by simp [h])]
        rw [if_pos h] at ih
        exact ih
      · rw [if_neg (by simp [h]; exact fun z => e z.symm)]
        rw [if_neg h] at ih
        exact ih
theorem hons_succ {hb : Nat → Bool} {i : Nat} : hons hb (i + 1) = hons hb i ++ (if hb (i + 1) = true then [i + 1] else []) := by
  unfold hons
  rw [List.range_succ, List.map_append, List.filter_append]
  congr 1
  show List.filter hb [i + 1] = _
  rw [List.filter_cons, List.filter_nil]
theorem hons_len {hb : Nat → Bool} {i : Nat} : (hons hb i).length ≤ i := by
  unfold hons
  refine Nat.le_trans (List.length_filter_le _ _) ?_
  rw [List.length_map, List.length_range]; exact Nat.le_refl _
theorem NF.hb_at {f : NF} {m : Nat} (h : m < f.hon.length) : f.hon[m]? = some (f.hb m) := by
  unfold NF.hb
  rw [List.getD_eq_getElem?_getD, List.getElem?_eq_getElem h]; rfl
/-! ### promises -/
abbrev F_Net_is_member (K : PySem.W.Frag) : FT := F2 fun x y G Φ => ∃ (f : NF) (st : NSt) (m : Int), x = .obj f.t ∧ NAt K f st G ∧ y = .dat (.int m) ∧ Φ (.dat (.bool (decide (0 ≤ m) && decide (m < (f.hon.length : Int))))) G
abbrev F_Net_letters (K : PySem.W.Frag) : FT := F1 fun x G Φ => ∃ (f : NF) (st : NSt), x = .obj f.t ∧ NAt K f st G ∧ st.sent.length ≤ 400 ∧ Φ (.dat (.list (st.sent.map ltD))) G
abbrev F_Net_add (K : PySem.W.Frag) : FT := F2 fun x y G Φ => ∃ (f : NF) (st : NSt) (out : List Lt), x = .obj f.t ∧ NAt K f st G ∧ NOk f ∧ NInv f st ∧ y = .dat (.list (out.map ltD)) ∧ out.length ≤ 1 ∧ (∀ l ∈ out, okL l) ∧
  ∀ (xs : List PyData) (l : List Lt), (∀ x ∈ l, okL x) → l.length ≤ 400 → st.sent.length ≤ l.length → Φ (.dat (.list xs)) (updG G f.se (.lst (l.map ltD)))
abbrev F_Net_begin (K : PySem.W.Frag) : FT := F1 fun x G Φ => ∃ (f : NF) (st : NSt) (B : Nat), x = .obj f.t ∧ NAt K f st G ∧ NOk f ∧ NInv f st ∧ NLe B f st ∧ B ≤ 100000 ∧ ∀ xs st' G', NGo K f st G st' G' → NLe (B + 2) f st' → Φ (.dat (.list xs)) G'
abbrev F_Net_deliver (K : PySem.W.Frag) : FT := F3 fun x y z G Φ => ∃ (f : NF) (st : NSt) (B j m : Nat), x = .obj f.t ∧ NAt K f st G ∧ NOk f ∧ NInv f st ∧ NLe B f st ∧ B ≤ 100000 ∧ y = .dat (.int ((j : Nat) : Int)) ∧ j < st.sent.length ∧ z = .dat (.int ((m : Nat) : Int)) ∧ m ≤ f.A.length ∧
  ∀ xs st' G', NGo K f st G st' G' → NLe (B + 2) f st' → Φ (.dat (.list xs)) G'
abbrev F_Net_forge (K : PySem.W.Frag) : FT := F4 fun x y z u G Φ => ∃ (f : NF) (st : NSt) (B m : Nat) (k : Str) (b : By), x = .obj f.t ∧ NAt K f st G ∧ NOk f ∧ NInv f st ∧ NLe B f st ∧ B ≤ 100000 ∧ y = .dat (.int ((m : Nat) : Int)) ∧ m ≤ f.A.length ∧ f.hb m = false ∧ z = .dat (.str k) ∧ u = .dat b.d ∧ k ∈ kinds5 ∧ b.ok ∧
  ∀ xs st' G', NGo K f st G st' G' → NLe (B + 2) f st' → Φ (.dat (.list xs)) G'
def resO (f : NF) (st : NSt) (m : Nat) : PyData := if m ∈ hons f.hb f.A.length then (match (st.ps m).bb with | none => .none | some q => resD f.A f.rl (q.1 :: q.2)) else .none
abbrev F_Net_result_of (K : PySem.W.Frag) : FT := F2 fun x y G Φ => ∃ (f : NF) (st : NSt) (m : Nat), x = .obj f.t ∧ NAt K f st G ∧ NOk f ∧ NInv f st ∧ y = .dat (.int ((m : Nat) : Int)) ∧ Φ (.dat (resO f st m)) G
abbrev F_Net_receipts_of (K : PySem.W.Frag) : FT := F2 fun x y G Φ => ∃ (f : NF) (st : NSt) (m : Nat), x = .obj f.t ∧ NAt K f st G ∧ NOk f ∧ NInv f st ∧ y = .dat (.int ((m : Nat) : Int)) ∧ f.H m ∧ Φ (.dat (.list ((st.ps m).kept.map ltD))) G

theorem sc_Net_is_member : FnScope ["self", "member"] ["self", "member"] (defScope (inClass (top 83) 1)) := ⟨rfl, rfl, rfl, by decide +kernel, rfl, by decide +kernel, by decide +kernel⟩
theorem n_Net_is_member {P : Program} {w : World} {K : PySem.W.Frag} {mg : Str → Option Value} {base : Heap} {fd : FuncData} {dvs : List V} {kws : List (Str × V)} (e : Ev P w K mg base) (FD : FunD K "is_member" "Net.is_member" (defArgs (inClass (top 83) 1)) (defBody (inClass (top 83) 1)) (defScope (inClass (top 83) 1)) dvs kws (He.ma K (He.ga K "Net") "is_member") fd) : FnOk P w K mg base CX0 2 (He.ma K (He.ga K "Net") "is_member") fd ["self", "member"] (spD K (F_Net_is_member K)) := by
  have S := sc_Net_is_member
  refine okD FD S (fun _ _ _ h => len2 h) fun cdv A outer s H E hr => ⟨_, (pss_one (ps_ret (pe_and (k_cl K (o_is_integer e) (hr.mono (by decide)) e.g_is_integer (pa_cons (pv 1) pa_nil)) (pe_one (pe_chain op_le op_lt pe_int (pv 1) (pe_callB (k_len K) rfl e.x_len (by decide +kernel) (pa_cons (k_fld K e.f_Net_honest (pv 0)) pa_nil))))))), ?_⟩
  intro ds G Φ h
  try dsimp only [cxK, blkK]
  obtain ⟨x, y, rfl, f, st, m, rfl, a, rfl, k⟩ := h
  have h1 := a.tt
  have hl : ((f.hon.map PyData.bool).length : Int) = (f.hon.length : Int) := by rw [List.length_map]
  fail "x"
  refine ⟨fun hb => ?_, fun hb => ?_⟩
  · rw [hb] at k
    fail "x"
    rw [hl]
    exact k
  · rw [hb] at k
    exact k
theorem o_Net_is_member {P : Program} {w : World} {K : PySem.W.Frag} {mg : Str → Option Value} {base : Heap} (e : Ev P w K mg base) : OkD P w K mg base 2 (He.ma K (He.ga K "Net") "is_member") ["self", "member"] [] (F_Net_is_member K) := by
  obtain ⟨fd, FD⟩ := e.d_Net_is_member
  exact okN FD (n_Net_is_member e FD) fun _ _ _ _ _ _ us hl => match us, hl with | [_, _], _ => rfl
theorem sc_Net_letters : FnScope ["self"] ["self"] (defScope (inClass (top 83) 2)) := ⟨rfl, rfl, rfl, by decide +kernel, rfl, by decide +kernel, by decide +kernel⟩
theorem n_Net_letters {P : Program} {w : World} {K : PySem.W.Frag} {mg : Str → Option Value} {base : Heap} {fd : FuncData} {dvs : List V} {kws : List (Str × V)} (e : Ev P w K mg base) (FD : FunD K "letters" "Net.letters" (defArgs (inClass (top 83) 2)) (defBody (inClass (top 83) 2)) (defScope (inClass (top 83) 2)) dvs kws (He.ma K (He.ga K "Net") "letters") fd) : FnOk P w K mg base CX0 1 (He.ma K (He.ga K "Net") "letters") fd ["self"] (spD K (F_Net_letters K)) := by
  have S := sc_Net_letters
  refine okD FD S (fun _ _ _ h => len1 h) fun cdv A outer s H E hr => ⟨_, (pss_one (ps_ret (pe_callTy (k_list K) rfl e.x_list (by decide +kernel) (pa_cons (k_fld K e.f_Net_sent (pv 0)) pa_nil)))), ?_⟩
  intro ds G Φ h
  try dsimp only [cxK, blkK]
  obtain ⟨x, rfl, f, st, rfl, a, hl, k⟩ := h
  have h1 := a.tt
  have h2 := a.se
  fail "x"
  exact k
theorem o_Net_letters {P : Program} {w : World} {K : PySem.W.Frag} {mg : Str → Option Value} {base : Heap} (e : Ev P w K mg base) : OkD P w K mg base 1 (He.ma K (He.ga K "Net") "letters") ["self"] [] (F_Net_letters K) := by
  obtain ⟨fd, FD⟩ := e.d_Net_letters
  exact okN FD (n_Net_letters e FD) fun _ _ _ _ _ _ us hl => match us, hl with | [_], _ => rfl
theorem sc_Net_add : FnScope ["self", "letters", "numbers", "letter"] ["self", "letters"] (defScope (inClass (top 83) 3)) := ⟨rfl, rfl, rfl, by decide +kernel, rfl, by decide +kernel, by decide +kernel⟩
theorem n_Net_add {P : Program} {w : World} {K : PySem.W.Frag} {mg : Str → Option Value} {base : Heap} {fd : FuncData} {dvs : List V} {kws : List (Str × V)} (e : Ev P w K mg base) (FD : FunD K "add" "Net.add" (defArgs (inClass (top 83) 3)) (defBody (inClass (top 83) 3)) (defScope (inClass (top 83) 3)) dvs kws (He.ma K (He.ga K "Net") "add") fd) : FnOk P w K mg base CX0 1 (He.ma K (He.ga K "Net") "add") fd ["self", "letters"] (spD K (F_Net_add K)) := by
  have S := sc_Net_add
  refine okD FD S (fun _ _ _ h => len2 h) fun cdv A outer s H E hr => ⟨_, (pss_cons (ps_set (i := 2) S.nd rfl (by first | exact Or.inl rfl | exact Or.inr rfl) (pe_lstG pa_nil))
      (pss_cons (ps_for PassesOwn.never rfl (k_ilist K (pv 1)) (pg_name (i := 3) S.nd rfl (by first | exact Or.inl rfl | exact Or.inr rfl)) (pss_one (ps_if (pt_cmpR op_lt (pe_callB (k_len K) rfl e.x_len (by decide +kernel) (pa_cons (k_fld K e.f_Net_sent (pv 0)) pa_nil)) (pe_gI e.i_MOST_LETTERS) (nomark _)) (pss_cons (ps_expr (k_bm K PySem.F.plainAttrs_list PySem.F.slot_list_append PySem.F.type_list_append mt_append (pv 2) (pa_cons (pe_callB (k_len K) rfl e.x_len (by decide +kernel) (pa_cons (k_fld K e.f_Net_sent (pv 0)) pa_nil)) pa_nil)))
      (pss_one (ps_expr (k_bm K PySem.F.plainAttrs_list PySem.F.slot_list_append PySem.F.type_list_append mt_append (k_fld K e.f_Net_sent (pv 0)) (pa_cons (pv 3) pa_nil))))) pss_nil)))
      (pss_one (ps_ret (pv 2))))), ?_⟩
  intro ds G Φ h
  try dsimp only [cxK, blkK]
  obtain ⟨x, y, rfl, f, st, out, rfl, a, o, i, rfl, ho, hok, k⟩ := h
  have h1 := a.tt
  have h2 := a.se
  fail "x"
  intro p hp
  have hse : f.se ≠ p := neG_none h2 hp
  have htp : f.t ≠ p := neG_none h1 hp
  have hts : f.t ≠ f.se := neG h1 h2 kIL
  fail "x"
  refine ws_for (wi_list ?_)
  fail "x"
  refine ⟨[3], fun j δ G' => ∃ (y : Option Dt) (ns : List PyData) (l : List Lt), δ = [some (.obj f.t), some (.dat (.list (out.map ltD))), some (.obj p), y] ∧ G' = updG (updG G p (.lst ns)) f.se (.lst (l.map ltD)) ∧ ns.length ≤ j ∧ (∀ x ∈ l, okL x) ∧ l.length ≤ 400 ∧ st.sent.length ≤ l.length, ⟨none, [], st.sent, rfl, ?_, Nat.le_refl _, i.se, i.sl, Nat.le_refl _⟩, ?_, ?_⟩
  · exact (updG_self (by rw [updG_ne hse]; exact h2)).symm
  · rintro j x δ' G' hx ⟨y, ns, l, rfl, rfl, hn, hl1, hl2, hl3⟩
    obtain ⟨lt, hlt, rfl⟩ := map_get hx
    have hj : j < 1 := Nat.lt_of_lt_of_le (List.getElem?_eq_some_iff.mp hlt).1 ho
    have h3 : updG (updG G p (.lst ns)) f.se (.lst (l.map ltD)) f.t = some (netO K f) := by rw [updG_ne hts, updG_ne htp]; exact h1
    have h4 : updG (updG G p (.lst ns)) f.se (.lst (l.map ltD)) f.se = some (.lst (l.map ltD)) := updG_same
    have h5 : updG (updG G p (.lst ns)) f.se (.lst (l.map ltD)) p = some (.lst ns) := by rw [updG_ne (Ne.symm hse), updG_same]
    fail "x"
    refine dLen_o h4 ?_
    fail "x"
    rw [List.length_map]
    refine ⟨fun hb => ?_, fun hb => ?_⟩
    · have hb : (l.length : Int) < 400 := of_decide_eq_true hb
      fail "x"
      refine dLen_o h4 ?_
      fail "x"
      refine ⟨_, ns ++ [.int (((l.map ltD).length : Nat) : Int)], l ++ [lt], rfl, ?_, by rw [List.length_append]; show _ + 1 ≤ _; omega, fun x hx => ?_, by rw [List.length_append]; show _ + 1 ≤ _; omega, by rw [List.length_append]; omega⟩
      · rw [upd_comm hse, updG_updG, updG_updG, List.map_append]; rfl
      · rcases List.mem_append.mp hx with hx | hx
        · exact hl1 x hx
        · rw [List.mem_singleton.mp hx]; exact hok _ (List.mem_of_getElem? hlt)
    · fail "x"
      exact ⟨_, ns, l, rfl, rfl, by omega, hl1, hl2, hl3⟩
  · rintro δ' G' ⟨y, ns, l, rfl, rfl, hn, hl1, hl2, hl3⟩
    have h5 : updG (updG G p (.lst ns)) f.se (.lst (l.map ltD)) p = some (.lst ns) := by rw [updG_ne (Ne.symm hse), updG_same]
    refine ws_ret (we_let rfl h5 ?_)
    rw [drop_ne hse, drop_same, drop_none hp]
    exact k ns l hl1 hl2 hl3
theorem o_Net_add {P : Program} {w : World} {K : PySem.W.Frag} {mg : Str → Option Value} {base : Heap} (e : Ev P w K mg base) : OkD P w K mg base 1 (He.ma K (He.ga K "Net") "add") ["self", "letters"] [] (F_Net_add K) := by
  obtain ⟨fd, FD⟩ := e.d_Net_add
  exact okN FD (n_Net_add e FD) fun _ _ _ _ _ _ us hl => match us, hl with | [_, _], _ => rfl
end DL
/-! (Mb) -/
namespace DL
open PySem PySem.Spec PyProof.Rows L2

local macro_rules | `(tactic| fail "l") => `(tactic| first | exact Nat.le_of_ble_eq_true rfl | omega | (simp only [List.length_map, List.length_append, List.length_cons, List.length_nil]; omega))
local macro_rules | `(tactic| fail "aS") => `(tactic| with_reducible first | refine ws_seq ?_ | refine ws_if ?_ | refine ws_ret ?_ | refine ws_asg ?_ | refine ws_drop ?_ | refine ws_next ?_ | refine ws_retN ?_ | refine ws_fldF ?_ | refine ws_fldN ?_ | refine ws_dput ?_ | refine ws_asgT5 ?_ | refine ws_asgT4 ?_ | refine ws_asgT3 ?_)
local macro_rules | `(tactic| fail "aO") => `(tactic| with_reducible first | refine we_ix ?_ | refine we_II ?_ | refine we_IB ?_ | refine we_eq ?_ | refine we_ne ?_ | refine we_add ?_ | refine we_addG ?_ | refine we_IC ?_ | refine we_eqD ?_ | refine we_neD ?_ | refine we_inD ?_ | refine we_notInD ?_ | refine we_in ?_ | refine we_inSg ?_)
local macro_rules | `(tactic| fail "aC") => `(tactic| with_reducible first | refine we_len ?_ | refine we_lenD ?_ | refine we_all ?_ | refine we_any ?_ | refine we_int1 ?_ | refine we_strI ?_ | refine we_listOf ?_ | refine we_tupOf ?_ | refine we_sum ?_ | refine we_abs ?_ | refine we_min2 ?_ | refine we_gcd ?_)
local macro_rules | `(tactic| fail "aE") => `(tactic| first
  | ((with_reducible apply we_var); rfl)
  | with_reducible refine we_int ?_ | with_reducible refine we_str ?_ | with_reducible refine we_non ?_ | with_reducible refine we_bl ?_
  | ((with_reducible show WE _ (tOp _ _ _) _ _ _); fail "aO")
  | ((with_reducible show WE _ (tCB _ _) _ _ _); fail "aC")
  | with_reducible refine we_call ?_ | with_reducible refine we_fld ?_ | with_reducible refine we_meth' ?_ | with_reducible refine we_tup ?_ | with_reducible refine we_isi (by decide) ?_ | with_reducible refine we_lst ?_ | with_reducible refine we_lstG ?_
  | with_reducible refine we_and ?_ | with_reducible refine we_or ?_ | with_reducible refine we_not ?_ | with_reducible refine we_chainI ?_ | with_reducible refine we_isN ?_ | with_reducible refine we_notN ?_ | with_reducible refine we_append ?_ | with_reducible refine we_extend ?_ | with_reducible refine we_index ?_
  | with_reducible refine we_slL ?_ | with_reducible refine we_slT ?_ | with_reducible refine we_dget ?_ | with_reducible refine we_din ?_ | with_reducible refine we_dnotin ?_ | with_reducible refine we_dictG ?_ | with_reducible refine we_prop ?_ | with_reducible refine we_join ?_ | with_reducible refine we_neg ?_ | with_reducible refine we_lenSet ?_)
local macro_rules | `(tactic| fail "aT") => `(tactic| with_reducible first | refine wt_val ?_ | refine wt_tst ?_ | refine wt_and ?_ | refine wt_or ?_ | refine wt_not ?_ | refine wt_yes ?_)
local macro_rules | `(tactic| fail "aD") => `(tactic| with_reducible first | refine dEq_ii ?_ | refine dEq_ss ?_ | refine dEq_bb ?_ | refine dEq_nn ?_ | refine dEq_ni ?_ | refine dEq_in ?_ | refine dAdd_ii ?_ | refine dInt_i ?_ | refine dInt_b ?_ | refine dLen_l ?_ | refine dLen_t ?_)
local macro_rules | `(tactic| fail "a") => `(tactic| first
  | ((with_reducible show WE _ _ _ _ _); fail "aE")
  | ((with_reducible show WA _ _ _ _ _); (with_reducible first | refine wa_cons ?_ | refine wa_nil ?_))
  | ((with_reducible show WS _ _ _ _ _); fail "aS")
  | ((with_reducible show WT _ _ _ _ _); fail "aT")
  | ((with_reducible show WG _ _ _ _ _ _ _); first | with_reducible refine wg_name ?_ | ((with_reducible refine wg_tup ?_ ?_); rfl))
  | ((with_reducible show WGs _ _ _ _ _ _ _); (with_reducible first | refine wgs_cons ?_ | refine wgs_nil ?_))
  | ((with_reducible show WO _ _ _ _ _); (with_reducible first | refine wo_none ?_ | refine wo_some ?_))
  | ((with_reducible show dIx _ _ _ _); first | ((with_reducible apply dIx_t); rfl) | ((with_reducible apply dIx_l); rfl))
  | ((with_reducible show dAdd _ _ _ _); first | with_reducible refine dAdd_ii ?_ | ((with_reducible refine dAdd_ll ?_ ?_); fail "l") | ((with_reducible apply dAdd_ol); (fail "h"); (fail "l")) | ((with_reducible refine dAdd_tt ?_ ?_); fail "l") | ((with_reducible refine dAdd_ss ?_ ?_); fail "l"))
  | fail "aD")
local macro_rules | `(tactic| fail "e") => `(tactic| ((fail_if_success (with_reducible show ∃ _ : NF, _)); (fail_if_success (with_reducible show ∃ _ : PF, _)); (fail_if_success (with_reducible show ∃ _ : DF, _)); (first | with_reducible refine ⟨_, _, rfl, rfl, ?_⟩ | with_reducible refine ⟨_, rfl, ?_⟩ | with_reducible refine ⟨rfl, ?_⟩ | with_reducible refine ⟨_, _, rfl, ?_⟩ | with_reducible refine ⟨_, _, _, rfl, ?_⟩ | with_reducible refine ⟨_, _, _, _, rfl, ?_⟩ | with_reducible refine ⟨_, _, _, _, _, rfl, ?_⟩ | ((refine ⟨?l, ?_⟩); (case l => (with_reducible show _ < 1000000); fail "l")) | ((refine ⟨?l, ?_⟩); (case l => (with_reducible show _ ≤ 1000000); fail "l")))))
local macro_rules | `(tactic| fail "g") => `(tactic| ((funext gb; simp only [updG, dropG]; repeat' split) <;> first | rfl | (exfalso; simp_all; done) | (simp_all; done)))
local macro_rules | `(tactic| fail "q") => `(tactic| first | assumption | exact Ne.symm (by assumption))
local macro_rules | `(tactic| fail "h") => `(tactic| first | assumption | exact updG_same | ((rw [updG_ne]); (fail "h"); (fail "q")))
local macro_rules | `(tactic| fail "z") => `(tactic| first | rfl | exact ⟨rfl, rfl⟩ | exact ⟨_, rfl, rfl⟩ | exact ⟨_, _, rfl, rfl⟩ | exact ⟨_, _, _, rfl, rfl⟩ | assumption)
local macro_rules | `(tactic| fail "f") => `(tactic| first
  | refine ⟨_, _, rfl, .inr (.inl rfl), ?_⟩ | refine ⟨_, _, rfl, .inl rfl, ?_⟩
  | (refine ⟨_, ?ds, rfl, .inr (.inr ⟨_, rfl, ?h1⟩), ?_⟩; (case h1 => fail "h"))
  | (refine ⟨_, ?ds, rfl, .inr ⟨_, rfl, ?h1⟩, ?_⟩; (case h1 => fail "h"))
  | ((with_reducible refine ⟨_, ?ds, ?d, rfl, ?h1, ?h2, ?_⟩); (case h1 => fail "h"); (case h2 => rfl))
  | ((with_reducible refine ⟨_, ?ds, rfl, ?h1, ?_⟩); (case h1 => fail "h"))
  | ((with_reducible refine ⟨_, ?ns, ?ds, rfl, ?h1, ?h2, ?_⟩); (case h1 => fail "h"); (case h2 => decide))
  | ((with_reducible refine ⟨_, ?ns, ?ds, rfl, (?h1 : _ = some (GO.ins _ ?ns ?ds)), ?_⟩); (case h1 => fail "h"))
  | ((with_reducible refine ⟨_, rfl, ⟨?ys, ?h1⟩, ?_⟩); (case h1 => fail "h"))
  | ((with_reducible refine ⟨_, ?xs, rfl, ?h1, ?h2, ?_⟩); (case h1 => fail "h"); (case h2 => omega)))
local macro_rules | `(tactic| fail "y") => `(tactic| first
  | ((with_reducible refine ⟨fun _ => ?_, fun hbb => ?nope⟩); (case nope => first | exact Bool.noConfusion (show true = false from hbb) | exact Bool.noConfusion (show false = true from hbb) | exact absurd (of_decide_eq_true hbb) (by omega) | exact absurd (of_decide_eq_false hbb) (by omega) | (simp at hbb; done) | (simp at hbb; omega)))
  | ((with_reducible refine ⟨fun hbb => ?nope, fun _ => ?_⟩); (case nope => first | exact Bool.noConfusion (show true = false from hbb) | exact Bool.noConfusion (show false = true from hbb) | exact absurd (of_decide_eq_true hbb) (by omega) | exact absurd (of_decide_eq_false hbb) (by omega) | (simp at hbb; done) | (simp at hbb; omega))))
local macro_rules | `(tactic| fail "w") => `(tactic| repeat fail "a")
local macro_rules | `(tactic| fail "x") => `(tactic| repeat (first | fail "a" | fail "f" | fail "e" | fail "y"))

theorem sc_Net_begin : FnScope ["self"] ["self"] (defScope (inClass (top 83) 4)) := ⟨rfl, rfl, rfl, by decide +kernel, rfl, by decide +kernel, by decide +kernel⟩
theorem n_Net_begin {P : Program} {w : World} {K : PySem.W.Frag} {mg : Str → Option Value} {base : Heap} {fd : FuncData} {dvs : List V} {kws : List (Str × V)} (e : Ev P w K mg base) (FD : FunD K "begin" "Net.begin" (defArgs (inClass (top 83) 4)) (defBody (inClass (top 83) 4)) (defScope (inClass (top 83) 4)) dvs kws (He.ma K (He.ga K "Net") "begin") fd) : FnOk P w K mg base CX0 20 (He.ma K (He.ga K "Net") "begin") fd ["self"] (spD K (F_Net_begin K)) := by
  have S := sc_Net_begin
  refine okD FD S (fun _ _ _ h => len1 h) fun cdv A outer s H E hr => ⟨_, (pss_cons (ps_if (pt_cmp (pc_isN (k_fld K e.f_Net_desk (pv 0)))) (pss_one (ps_ret (pe_lst pa_nil))) pss_nil)
      (pss_one (ps_ret (k_me K e.c_Net e.h_Net_add (o_Net_add e) (hr.mono (by decide)) (pv 0) (pa_cons (k_me0 K e.c_Desk e.h_Desk_begin (o_Desk_begin e) (hr.mono (by decide)) (k_fld K e.f_Net_desk (pv 0))) pa_nil))))), ?_⟩
  intro ds G Φ h
  try dsimp only [cxK, blkK]
  obtain ⟨x, rfl, f, st, B, rfl, a, o, i, b, hB, k⟩ := h
  have h1 := a.tt
  have hbs := b.s
  cases h0 : f.hb 0 with
  | false =>
    have hdk : f.dk = .dat .none := by unfold NF.dk; rw [h0]; rfl
    simp only [netO, hdk] at h1
    fail "x"
    exact k [] st G (.refl a i) (b.mono (by omega))
  | true =>
    have hdk : f.dk = .obj f.d := by unfold NF.dk; rw [h0]; rfl
    have h1' := h1
    simp only [netO, hdk] at h1
    have da := a.dAt o h0
    have h3 := da.dt
    fail "x"
    refine ⟨f.df, st.cs, st.sg, st.ds, rfl, da, o.dOk, by omega, ?_⟩
    have hok : okS (dEnt "call" (.num st.ds.tn)) := ⟨(by decide +kernel : ("call" : Str) ∈ kinds5), trivial⟩
    have go := NGo.desk a o i h0 (DStep.told (i.d h0) da.N.oks (k := "call") (b := .num st.ds.tn) hok.1 trivial)
    rw [show dG K f.df G _ st.ds = updG G f.s (.lst ((addc (dEnt "call" (.num st.ds.tn)) st.sg).map sgD)) from dG_s.symm.trans (dG_same (da.setS (addc_ok da.N.oks hok)))] at go
    fail "x"
    refine ⟨f, _, [dLet st.sg "call" (.num st.ds.tn)], rfl, go.at_, o, go.inv, rfl, by simp, fun l hl => by rw [List.mem_singleton.mp hl]; exact ⟨hok.1, trivial⟩, fun xs l h4 h5 h5' => ?_⟩
    have hb2 : NLe (B + 1) f { st with sg := addc (dEnt "call" (.num st.ds.tn)) st.sg, ds := st.ds } := b.sg addc_len
    fail "x"
    exact k xs _ _ (go.trans (NGo.setSe go.at_ o go.inv h4 h5 h5')) (hb2.se (Nat.le_succ _))
theorem o_Net_begin {P : Program} {w : World} {K : PySem.W.Frag} {mg : Str → Option Value} {base : Heap} (e : Ev P w K mg base) : OkD P w K mg base 20 (He.ma K (He.ga K "Net") "begin") ["self"] [] (F_Net_begin K) := by
  obtain ⟨fd, FD⟩ := e.d_Net_begin
  exact okN FD (n_Net_begin e FD) fun _ _ _ _ _ _ us hl => match us, hl with | [_], _ => rfl
theorem sc_Net_deliver : FnScope ["self", "number", "member"] ["self", "number", "member"] (defScope (inClass (top 83) 5)) := ⟨rfl, rfl, rfl, by decide +kernel, rfl, by decide +kernel, by decide +kernel⟩
theorem n_Net_deliver {P : Program} {w : World} {K : PySem.W.Frag} {mg : Str → Option Value} {base : Heap} {fd : FuncData} {dvs : List V} {kws : List (Str × V)} (e : Ev P w K mg base) (FD : FunD K "deliver" "Net.deliver" (defArgs (inClass (top 83) 5)) (defBody (inClass (top 83) 5)) (defScope (inClass (top 83) 5)) dvs kws (He.ma K (He.ga K "Net") "deliver") fd) : FnOk P w K mg base CX0 21 (He.ma K (He.ga K "Net") "deliver") fd ["self", "number", "member"] (spD K (F_Net_deliver K)) := by
  have S := sc_Net_deliver
  refine okD FD S (fun _ _ _ h => len3 h) fun cdv A outer s H E hr => ⟨_, (pss_cons (ps_if (PW.pt (pw_or (pt_not (pt_val (k_cl K (o_is_integer e) (hr.mono (by decide)) e.g_is_integer (pa_cons (pv 1) pa_nil)))) (pw_or1 (pt_not (pt_chain op_le op_lt pe_int (pv 1) (pe_callB (k_len K) rfl e.x_len (by decide +kernel) (pa_cons (k_fld K e.f_Net_sent (pv 0)) pa_nil))))))) pss_never pss_nil)
      (pss_cons (ps_if (pt_not (pt_val (k_me K e.c_Net e.h_Net_is_member (o_Net_is_member e) (hr.mono (by decide)) (pv 0) (pa_cons (pv 2) pa_nil)))) pss_never pss_nil)
      (pss_cons (ps_if (pt_not (pt_val (pe_ix (k_ix K) (k_fld K e.f_Net_honest (pv 0)) (pv 2) (fun _ _ => rfl)))) (pss_one (ps_ret (pe_lst pa_nil))) pss_nil)
      (pss_cons (ps_if (pt_cmpR op_eq (pv 2) pe_int (nomark _)) (pss_one (ps_ret (k_me K e.c_Net e.h_Net_add (o_Net_add e) (hr.mono (by decide)) (pv 0) (pa_cons (k_me K e.c_Desk e.h_Desk_take (o_Desk_take e) (hr.mono (by decide)) (k_fld K e.f_Net_desk (pv 0)) (pa_cons (pe_ix (k_ix K) (k_fld K e.f_Net_sent (pv 0)) (pv 1) (fun _ _ => rfl)) pa_nil)) pa_nil)))) pss_nil)
      (pss_one (ps_ret (k_me K e.c_Net e.h_Net_add (o_Net_add e) (hr.mono (by decide)) (pv 0) (pa_cons (k_me K e.c_Party e.h_Party_take (o_Party_take e) (hr.mono (by decide)) (pe_dget (room1 hr) (k_fld K e.f_Net_parties (pv 0)) (pv 2) (fun _ _ => rfl)) (pa_cons (pe_ix (k_ix K) (k_fld K e.f_Net_sent (pv 0)) (pv 1) (fun _ _ => rfl)) pa_nil)) pa_nil)))))))), ?_⟩
  intro ds G Φ h
  try dsimp only [cxK, blkK]
  obtain ⟨x, y, z, rfl, f, st, B, j, m, rfl, a, o, i, b, hB, rfl, hj, rfl, hm, k⟩ := h
  have h1 := a.tt
  have h2 := a.se
  have hbs := b.s
  have hbc := b.c
  have hl : ((st.sent.map ltD).length : Int) = (st.sent.length : Int) := by rw [List.length_map]
  have hh : f.hon.length = f.A.length + 1 := o.hlen
  have hjl : (st.sent.map ltD)[j]? = some (ltD st.sent[j]) := by rw [List.getElem?_map, List.getElem?_eq_getElem hj]; rfl
  have hok : okL st.sent[j] := i.se _ (List.getElem_mem hj)
  fail "x"
  refine dLen_o h2 ?_
  fail "x"
  refine dIx_l (atI_nat (by rw [List.getElem?_map, NF.hb_at (by omega)]; rfl)) ?_
  cases hbm : f.hb m with
  | false =>
    fail "x"
    exact k [] st G (.refl a i) (b.mono (by omega))
  | true =>
    cases m with
    | zero =>
      have da := a.dAt o hbm
      have h3 := da.dt
      have hdk : f.dk = .obj f.d := by unfold NF.dk; rw [hbm]; rfl
      simp only [netO, hdk] at h1
      fail "x"
      refine dIx_o h2 (atI_nat hjl) ?_
      fail "x"
      refine ⟨f.df, st.cs, st.sg, st.ds, st.sent[j], rfl, da, o.dOk, rfl, hok, by omega, i.d hbm, fun out sg' q p => ?_⟩
      have go := NGo.desk a o i hbm p
      fail "x"
      refine ⟨f, _, out, rfl, go.at_, o, go.inv, rfl, p.ol, p.ook, fun xs l h4 h5 h5' => ?_⟩
      have hb2 : NLe (B + 1) f { st with sg := sg', ds := q } := b.sg (by
        obtain ⟨ys, ey, hy, _⟩ := p.sx
        rw [ey, List.length_append]; omega)
      fail "x"
      exact k xs _ _ (go.trans (NGo.setSe go.at_ o go.inv h4 h5 h5')) (hb2.se (Nat.le_succ _))
    | succ m =>
      have hH : f.H (m + 1) := ⟨by omega, hm, hbm⟩
      have pa := a.pAt o i hH
      have h3 := pa.pt
      have h4 := a.pt
      have hbk := b.k _ hH
      fail "x"
      refine ⟨f.pt, _, _, _, _, rfl, h4, rfl, rfl, look_pd.trans (if_pos (hons_mem.mpr hH)), ?_⟩
      fail "x"
      refine dIx_o h2 (atI_nat hjl) ?_
      fail "x"
      refine ⟨f.pf (m + 1), st.cs, st.sg, st.ps (m + 1), st.sent[j], rfl, pa, o.pOk hH, rfl, hok, by omega, by omega, by omega, i.p _ hH, fun out cs' sg' q p => ?_⟩
      have go := NGo.party a o i hH p
      have hb2 := b.party hH p
      fail "x"
      refine ⟨f, _, out, rfl, go.at_, o, go.inv, rfl, p.ol, p.ook, fun xs l h5 h6 h6' => ?_⟩
      fail "x"
      exact k xs _ _ (go.trans (NGo.setSe go.at_ o go.inv h5 h6 h6')) (hb2.se (Nat.le_refl _))
theorem o_Net_deliver {P : Program} {w : World} {K : PySem.W.Frag} {mg : Str → Option Value} {base : Heap} (e : Ev P w K mg base) : OkD P w K mg base 21 (He.ma K (He.ga K "Net") "deliver") ["self", "number", "member"] [] (F_Net_deliver K) := by
  obtain ⟨fd, FD⟩ := e.d_Net_deliver
  exact okN FD (n_Net_deliver e FD) fun _ _ _ _ _ _ us hl => match us, hl with | [_, _, _], _ => rfl
theorem sc_Net_forge : FnScope ["self", "member", "kind", "body", "content", "signature"] ["self", "member", "kind", "body"] (defScope (inClass (top 83) 6)) := ⟨rfl, rfl, rfl, by decide +kernel, rfl, by decide +kernel, by decide +kernel⟩
theorem n_Net_forge {P : Program} {w : World} {K : PySem.W.Frag} {mg : Str → Option Value} {base : Heap} {fd : FuncData} {dvs : List V} {kws : List (Str × V)} (e : Ev P w K mg base) (FD : FunD K "forge" "Net.forge" (defArgs (inClass (top 83) 6)) (defBody (inClass (top 83) 6)) (defScope (inClass (top 83) 6)) dvs kws (He.ma K (He.ga K "Net") "forge") fd) : FnOk P w K mg base CX0 18 (He.ma K (He.ga K "Net") "forge") fd ["self", "member", "kind", "body"] (spD K (F_Net_forge K)) := by
  have S := sc_Net_forge
  refine okD FD S (fun _ _ _ h => len4 h) fun cdv A outer s H E hr => ⟨_, (pss_cons (ps_if (PW.pt (pw_or (pt_not (pt_val (k_me K e.c_Net e.h_Net_is_member (o_Net_is_member e) (hr.mono (by decide)) (pv 0) (pa_cons (pv 1) pa_nil)))) (pw_or1 (pt_val (pe_ix (k_ix K) (k_fld K e.f_Net_honest (pv 0)) (pv 1) (fun _ _ => rfl)))))) pss_never pss_nil)
      (pss_cons (ps_set (i := 4) S.nd rfl (by first | exact Or.inl rfl | exact Or.inr rfl) (pe_tup (pa_cons (pv 2) (pa_cons (k_fld K e.f_Net_round_number (pv 0)) (pa_cons (pv 3) pa_nil)))))
      (pss_cons (ps_set (i := 5) S.nd rfl (by first | exact Or.inl rfl | exact Or.inr rfl) (k_me K e.c_Notary e.h_Notary_sign (o_Notary_sign e) (hr.mono (by decide)) (k_fld K e.f_Net_notary (pv 0)) (pa_cons (pv 1) (pa_cons (pe_ix (k_ix K) (k_fld K e.f_Net_known_keys (pv 0)) (pv 1) (fun _ _ => rfl)) (pa_cons (pv 4) pa_nil)))))
      (pss_one (ps_ret (k_me K e.c_Net e.h_Net_add (o_Net_add e) (hr.mono (by decide)) (pv 0) (pa_cons (pe_lst (pa_cons (pe_tup (pa_cons (pv 2) (pa_cons (k_fld K e.f_Net_round_number (pv 0)) (pa_cons (pv 1) (pa_cons (pv 3) (pa_cons (pv 5) pa_nil)))))) pa_nil)) pa_nil))))))), ?_⟩
  intro ds G Φ h
  try dsimp only [cxK, blkK]
  obtain ⟨x, y, z, u, rfl, f, st, B, m, kk, bd, rfl, a, o, i, b, hB, rfl, hm, hf, rfl, rfl, hk, hb, k⟩ := h
  have h1 := a.tt
  have h2 := a.N.nt
  have hbs := b.s
  have hbc := b.c
  have hl : f.hon.length = f.A.length + 1 := o.hlen
  have hkl : f.ks.length = f.A.length + 1 := o.klen
  have hkm : f.ks[m]? = some f.ks[m] := List.getElem?_eq_getElem (by omega)
  fail "x"
  refine dIx_l (atI_nat (by rw [List.getElem?_map, NF.hb_at (by omega)]; rfl)) ?_
  rw [hf]
  fail "x"
  refine dIx_l (atI_nat (by rw [List.getElem?_map, hkm]; rfl)) ?_
  fail "x"
  refine ⟨f.ks, f.n, f.c, f.s, st.cs, st.sg, m, f.ks[m], (kk, bd), rfl, a.N, rfl, rfl, rfl, hkm, ⟨hk, hb⟩, by omega, ?_⟩
  have go := NGo.sign a o i (m := m) (ms := (kk, bd)) ⟨hk, hb⟩ hf
  have h3 := go.at_.tt
  fail "x"
  refine ⟨f, _, [((kk, (m : Int), bd, ((ix ((((m : Nat) : Int), (kk, bd)) : Sg) (addc (((m : Nat) : Int), (kk, bd)) st.sg) : Nat) : Int)) : Lt)], rfl, go.at_, o, go.inv, rfl, by simp, fun l hl => by rw [List.mem_singleton.mp hl]; exact ⟨hk, hb⟩, fun xs l h5 h6 h6' => ?_⟩
  have hb2 : NLe (B + 1) f { st with sg := addc (((m : Nat) : Int), (kk, bd)) st.sg } := b.sg (q := st.ds) addc_len
  exact k xs _ _ (go.trans (NGo.setSe go.at_ o go.inv h5 h6 h6')) (hb2.se (Nat.le_succ _))
theorem o_Net_forge {P : Program} {w : World} {K : PySem.W.Frag} {mg : Str → Option Value} {base : Heap} (e : Ev P w K mg base) : OkD P w K mg base 18 (He.ma K (He.ga K "Net") "forge") ["self", "member", "kind", "body"] [] (F_Net_forge K) := by
  obtain ⟨fd, FD⟩ := e.d_Net_forge
  exact okN FD (n_Net_forge e FD) fun _ _ _ _ _ _ us hl => match us, hl with | [_, _, _, _], _ => rfl
theorem sc_Net_result_of : FnScope ["self", "member"] ["self", "member"] (defScope (inClass (top 83) 7)) := ⟨rfl, rfl, rfl, by decide +kernel, rfl, by decide +kernel, by decide +kernel⟩
theorem n_Net_result_of {P : Program} {w : World} {K : PySem.W.Frag} {mg : Str → Option Value} {base : Heap} {fd : FuncData} {dvs : List V} {kws : List (Str × V)} (e : Ev P w K mg base) (FD : FunD K "result_of" "Net.result_of" (defArgs (inClass (top 83) 7)) (defBody (inClass (top 83) 7)) (defScope (inClass (top 83) 7)) dvs kws (He.ma K (He.ga K "Net") "result_of") fd) : FnOk P w K mg base CX0 7 (He.ma K (He.ga K "Net") "result_of") fd ["self", "member"] (spD K (F_Net_result_of K)) := by
  have S := sc_Net_result_of
  refine okD FD S (fun _ _ _ h => len2 h) fun cdv A outer s H E hr => ⟨_, (pss_cons (ps_if (pt_cmp (pc_dnotin (room1 hr) (pv 1) (k_fld K e.f_Net_parties (pv 0)))) (pss_one (ps_ret pe_non)) pss_nil)
      (pss_one (ps_ret (k_pr K e.c_Party e.p_Party_result (o_Party_result e) (hr.mono (by decide)) (pe_dget (room1 hr) (k_fld K e.f_Net_parties (pv 0)) (pv 1) (fun _ _ => rfl)))))), ?_⟩
  intro ds G Φ h
  try dsimp only [cxK, blkK]
  obtain ⟨x, y, rfl, f, st, m, rfl, a, o, i, rfl, k⟩ := h
  have h1 := a.tt
  have h2 := a.pt
  fail "x"
  refine ⟨f.pt, _, _, _, rfl, h2, rfl, rfl, ?_⟩
  rw [look_pd]
  unfold resO at k
  by_cases hm : m ∈ hons f.hb f.A.length
  · rw [if_pos hm] at k ⊢
    have hH : f.H m := hons_mem.mp hm
    have pa := a.pAt o i hH
    have h3 := pa.pt
    fail "x"
    refine ⟨f.pt, _, _, _, _, rfl, h2, rfl, rfl, look_pd.trans (if_pos hm), ?_⟩
    fail "x"
    refine ⟨f.pf m, st.cs, st.sg, st.ps m, rfl, pa, o.pOk hH, i.p m hH, fun e => ?_, fun q e => ?_⟩
    · rw [e] at k
      fail "x"
      exact k
    · rw [e] at k
      fail "x"
      exact k
  · rw [if_neg hm] at k ⊢
    fail "x"
    exact k
theorem o_Net_result_of {P : Program} {w : World} {K : PySem.W.Frag} {mg : Str → Option Value} {base : Heap} (e : Ev P w K mg base) : OkD P w K mg base 7 (He.ma K (He.ga K "Net") "result_of") ["self", "member"] [] (F_Net_result_of K) := by
  obtain ⟨fd, FD⟩ := e.d_Net_result_of
  exact okN FD (n_Net_result_of e FD) fun _ _ _ _ _ _ us hl => match us, hl with | [_, _], _ => rfl
theorem sc_Net_receipts_of : FnScope ["self", "member"] ["self", "member"] (defScope (inClass (top 83) 8)) := ⟨rfl, rfl, rfl, by decide +kernel, rfl, by decide +kernel, by decide +kernel⟩
theorem n_Net_receipts_of {P : Program} {w : World} {K : PySem.W.Frag} {mg : Str → Option Value} {base : Heap} {fd : FuncData} {dvs : List V} {kws : List (Str × V)} (e : Ev P w K mg base) (FD : FunD K "receipts_of" "Net.receipts_of" (defArgs (inClass (top 83) 8)) (defBody (inClass (top 83) 8)) (defScope (inClass (top 83) 8)) dvs kws (He.ma K (He.ga K "Net") "receipts_of") fd) : FnOk P w K mg base CX0 2 (He.ma K (He.ga K "Net") "receipts_of") fd ["self", "member"] (spD K (F_Net_receipts_of K)) := by
  have S := sc_Net_receipts_of
  refine okD FD S (fun _ _ _ h => len2 h) fun cdv A outer s H E hr => ⟨_, (pss_cons (ps_if (pt_cmp (pc_dnotin (room1 hr) (pv 1) (k_fld K e.f_Net_parties (pv 0)))) (pss_one (ps_ret (pe_lst pa_nil))) pss_nil)
      (pss_one (ps_ret (k_me0 K e.c_Party e.h_Party_receipts (o_Party_receipts e) (hr.mono (by decide)) (pe_dget (room1 hr) (k_fld K e.f_Net_parties (pv 0)) (pv 1) (fun _ _ => rfl)))))), ?_⟩
  intro ds G Φ h
  try dsimp only [cxK, blkK]
  obtain ⟨x, y, rfl, f, st, m, rfl, a, o, i, rfl, hH, k⟩ := h
  have h1 := a.tt
  have h2 := a.pt
  have hm := hons_mem.mpr hH
  have pa := a.pAt o i hH
  have h3 := pa.pt
  fail "x"
  refine ⟨f.pt, _, _, _, rfl, h2, rfl, rfl, ?_⟩
  rw [look_pd, if_pos hm]
  fail "x"
  refine ⟨f.pt, _, _, _, _, rfl, h2, rfl, rfl, look_pd.trans (if_pos hm), ?_⟩
  fail "x"
  refine ⟨f.pf m, st.cs, st.sg, st.ps m, rfl, pa, ?_⟩
  fail "x"
  exact k
theorem o_Net_receipts_of {P : Program} {w : World} {K : PySem.W.Frag} {mg : Str → Option Value} {base : Heap} (e : Ev P w K mg base) : OkD P w K mg base 2 (He.ma K (He.ga K "Net") "receipts_of") ["self", "member"] [] (F_Net_receipts_of K) := by
  obtain ⟨fd, FD⟩ := e.d_Net_receipts_of
  exact okN FD (n_Net_receipts_of e FD) fun _ _ _ _ _ _ us hl => match us, hl with | [_, _], _ => rfl
end DL
/-! (Mc) -/
namespace DL
open PySem PySem.Spec PyProof.Rows L2

local macro_rules | `(tactic| fail "l") => `(tactic| first | exact Nat.le_of_ble_eq_true rfl | omega | (simp only [List.length_map, List.length_append, List.length_cons, List.length_nil]; omega))
local macro_rules | `(tactic| fail "aS") => `(tactic| with_reducible first | refine ws_seq ?_ | refine ws_if ?_ | refine ws_ret ?_ | refine ws_asg ?_ | refine ws_drop ?_ | refine ws_next ?_ | refine ws_retN ?_ | refine ws_fldF ?_ | refine ws_fldN ?_ | refine ws_dput ?_ | refine ws_asgT5 ?_ | refine ws_asgT4 ?_ | refine ws_asgT3 ?_)
local macro_rules | `(tactic| fail "aO") => `(tactic| with_reducible first | refine we_ix ?_ | refine we_II ?_ | refine we_IB ?_ | refine we_eq ?_ | refine we_ne ?_ | refine we_add ?_ | refine we_addG ?_ | refine we_IC ?_ | refine we_eqD ?_ | refine we_neD ?_ | refine we_inD ?_ | refine we_notInD ?_ | refine we_in ?_ | refine we_inSg ?_)
local macro_rules | `(tactic| fail "aC") => `(tactic| with_reducible first | refine we_len ?_ | refine we_lenD ?_ | refine we_all ?_ | refine we_any ?_ | refine we_int1 ?_ | refine we_strI ?_ | refine we_listOf ?_ | refine we_tupOf ?_ | refine we_sum ?_ | refine we_abs ?_ | refine we_min2 ?_ | refine we_gcd ?_)
local macro_rules | `(tactic| fail "aE") => `(tactic| first
  | ((with_reducible apply we_var); rfl)
  | with_reducible refine we_int ?_ | with_reducible refine we_str ?_ | with_reducible refine we_non ?_ | with_reducible refine we_bl ?_
  | ((with_reducible show WE _ (tOp _ _ _) _ _ _); fail "aO")
  | ((with_reducible show WE _ (tCB _ _) _ _ _); fail "aC")
  | with_reducible refine we_call ?_ | with_reducible refine we_fld ?_ | with_reducible refine we_meth' ?_ | with_reducible refine we_tup ?_ | with_reducible refine we_isi (by decide) ?_ | with_reducible refine we_lst ?_ | with_reducible refine we_lstG ?_
  | with_reducible refine we_and ?_ | with_reducible refine we_or ?_ | with_reducible refine we_not ?_ | with_reducible refine we_chainI ?_ | with_reducible refine we_isN ?_ | with_reducible refine we_notN ?_ | with_reducible refine we_append ?_ | with_reducible refine we_extend ?_ | with_reducible refine we_index ?_
  | with_reducible refine we_slL ?_ | with_reducible refine we_slT ?_ | with_reducible refine we_dget ?_ | with_reducible refine we_din ?_ | with_reducible refine we_dnotin ?_ | with_reducible refine we_dictG ?_ | with_reducible refine we_prop ?_ | with_reducible refine we_join ?_ | with_reducible refine we_neg ?_ | with_reducible refine we_lenSet ?_)
local macro_rules | `(tactic| fail "aT") => `(tactic| with_reducible first | refine wt_val ?_ | refine wt_tst ?_ | refine wt_and ?_ | refine wt_or ?_ | refine wt_not ?_ | refine wt_yes ?_)
local macro_rules | `(tactic| fail "aD") => `(tactic| with_reducible first | refine dEq_ii ?_ | refine dEq_ss ?_ | refine dEq_bb ?_ | refine dEq_nn ?_ | refine dEq_ni ?_ | refine dEq_in ?_ | refine dAdd_ii ?_ | refine dInt_i ?_ | refine dInt_b ?_ | refine dLen_l ?_ | refine dLen_t ?_)
local macro_rules | `(tactic| fail "a") => `(tactic| first
  | ((with_reducible show WE _ _ _ _ _); fail "aE")
  | ((with_reducible show WA _ _ _ _ _); (with_reducible first | refine wa_cons ?_ | refine wa_nil ?_))
  | ((with_reducible show WS _ _ _ _ _); fail "aS")
  | ((with_reducible show WT _ _ _ _ _); fail "aT")
  | ((with_reducible show WG _ _ _ _ _ _ _); first | with_reducible refine wg_name ?_ | ((with_reducible refine wg_tup ?_ ?_); rfl))
  | ((with_reducible show WGs _ _ _ _ _ _ _); (with_reducible first | refine wgs_cons ?_ | refine wgs_nil ?_))
  | ((with_reducible show WO _ _ _ _ _); (with_reducible first | refine wo_none ?_ | refine wo_some ?_))
  | ((with_reducible show dIx _ _ _ _); first | ((with_reducible apply dIx_t); rfl) | ((with_reducible apply dIx_l); rfl))
  | ((with_reducible show dAdd _ _ _ _); first | with_reducible refine dAdd_ii ?_ | ((with_reducible refine dAdd_ll ?_ ?_); fail "l") | ((with_reducible apply dAdd_ol); (fail "h"); (fail "l")) | ((with_reducible refine dAdd_tt ?_ ?_); fail "l") | ((with_reducible refine dAdd_ss ?_ ?_); fail "l"))
  | fail "aD")
local macro_rules | `(tactic| fail "e") => `(tactic| ((fail_if_success (with_reducible show ∃ _ : NF, _)); (fail_if_success (with_reducible show ∃ _ : PF, _)); (fail_if_success (with_reducible show ∃ _ : DF, _)); (first | with_reducible refine ⟨_, _, rfl, rfl, ?_⟩ | with_reducible refine ⟨_, rfl, ?_⟩ | with_reducible refine ⟨rfl, ?_⟩ | with_reducible refine ⟨_, _, rfl, ?_⟩ | with_reducible refine ⟨_, _, _, rfl, ?_⟩ | with_reducible refine ⟨_, _, _, _, rfl, ?_⟩ | with_reducible refine ⟨_, _, _, _, _, rfl, ?_⟩ | ((refine ⟨?l, ?_⟩); (case l => (with_reducible show _ < 1000000); fail "l")) | ((refine ⟨?l, ?_⟩); (case l => (with_reducible show _ ≤ 1000000); fail "l")))))
local macro_rules | `(tactic| fail "g") => `(tactic| ((funext gb; simp only [updG, dropG]; repeat' split) <;> first | rfl | (exfalso; simp_all; done) | (simp_all; done)))
local macro_rules | `(tactic| fail "q") => `(tactic| first | assumption | exact Ne.symm (by assumption))
local macro_rules | `(tactic| fail "h") => `(tactic| first | assumption | exact updG_same | ((rw [updG_ne]); (fail "h"); (fail "q")))
local macro_rules | `(tactic| fail "z") => `(tactic| first | rfl | exact ⟨rfl, rfl⟩ | exact ⟨_, rfl, rfl⟩ | exact ⟨_, _, rfl, rfl⟩ | exact ⟨_, _, _, rfl, rfl⟩ | assumption)
local macro_rules | `(tactic| fail "f") => `(tactic| first
  | refine ⟨_, _, rfl, .inr (.inl rfl), ?_⟩ | refine ⟨_, _, rfl, .inl rfl, ?_⟩
  | (refine ⟨_, ?ds, rfl, .inr (.inr ⟨_, rfl, ?h1⟩), ?_⟩; (case h1 => fail "h"))
  | (refine ⟨_, ?ds, rfl, .inr ⟨_, rfl, ?h1⟩, ?_⟩; (case h1 => fail "h"))
  | ((with_reducible refine ⟨_, ?ds, ?d, rfl, ?h1, ?h2, ?_⟩); (case h1 => fail "h"); (case h2 => rfl))
  | ((with_reducible refine ⟨_, ?ds, rfl, ?h1, ?_⟩); (case h1 => fail "h"))
  | ((with_reducible refine ⟨_, ?ns, ?ds, rfl, ?h1, ?h2, ?_⟩); (case h1 => fail "h"); (case h2 => decide))
  | ((with_reducible refine ⟨_, ?ns, ?ds, rfl, (?h1 : _ = some (GO.ins _ ?ns ?ds)), ?_⟩); (case h1 => fail "h"))
  | ((with_reducible refine ⟨_, rfl, ⟨?ys, ?h1⟩, ?_⟩); (case h1 => fail "h"))
  | ((with_reducible refine ⟨_, ?xs, rfl, ?h1, ?h2, ?_⟩); (case h1 => fail "h"); (case h2 => omega)))
local macro_rules | `(tactic| fail "y") => `(tactic| first
  | ((with_reducible refine ⟨fun _ => ?_, fun hbb => ?nope⟩); (case nope => first | exact Bool.noConfusion (show true = false from hbb) | exact Bool.noConfusion (show false = true from hbb) | exact absurd (of_decide_eq_true hbb) (by omega) | exact absurd (of_decide_eq_false hbb) (by omega) | (simp at hbb; done) | (simp at hbb; omega)))
  | ((with_reducible refine ⟨fun hbb => ?nope, fun _ => ?_⟩); (case nope => first | exact Bool.noConfusion (show true = false from hbb) | exact Bool.noConfusion (show false = true from hbb) | exact absurd (of_decide_eq_true hbb) (by omega) | exact absurd (of_decide_eq_false hbb) (by omega) | (simp at hbb; done) | (simp at hbb; omega))))
local macro_rules | `(tactic| fail "w") => `(tactic| repeat fail "a")
local macro_rules | `(tactic| fail "x") => `(tactic| repeat (first | fail "a" | fail "f" | fail "e" | fail "y"))

/-! ### the net's beginning -/
theorem fresh_updG {G : GH} {a b : Addr} {o : GO} (h : updG G a o b = none) : b ≠ a ∧ G b = none := by
  by_cases z : b = a
  · rw [z, updG_same] at h; cases h
  · rw [updG_ne z] at h; exact ⟨z, h⟩
theorem dIx_abs {x y : Dt} {G : GH} {Φ : Dt → GH → Prop} (Q : GH → Prop) (hq : Q G) (h : ∀ G1, Q G1 → dIx x y G1 Φ) : dIx x y G Φ := h G hq
theorem ws_abs {K : PySem.W.Frag} {ts : TS} {δ : De} {G : GH} {E : DE} (Q : GH → Prop) (hq : Q G) (h : ∀ G1, Q G1 → WS K ts δ G1 E) : WS K ts δ G E := h G hq
theorem nums_upd {G G1 : GH} {a : Addr} {o u : GO} (h : ∀ x, G x = some .nums → G1 x = some .nums) (e : G1 a = some u) (d : GO.nums ≠ u) : ∀ x, G x = some .nums → updG G1 a o x = some .nums := fun x hx => by
  rw [updG_ne (neG (h x hx) e d)]; exact h x hx
theorem nums_new {G G1 : GH} {a : Addr} {o : GO} (h : ∀ x, G x = some .nums → G1 x = some .nums) (e : G1 a = none) : ∀ x, G x = some .nums → updG G1 a o x = some .nums := fun x hx => by
  rw [updG_ne (neG_none (h x hx) e)]; exact h x hx
abbrev rpD (r : Rp) : PyData := .tuple [.int r.1, .str r.2.1, rT r.2.2]
def RpOk (A : List Ag) (reps : List Rp) : Prop := ∀ (i : Nat) (r : Rp) (a : Ag), reps[i]? = some r → A[i]? = some a → 0 ≤ r.1 ∧ r.1 < (a.2.length : Int) ∧ PyData.strOk r.2.1 = true ∧ r.2.2 ∈ ticks ∧ r.2.2 ≠ (1, 1)
/-- the net while it is made: the first i parties stand -/
structure NBi (K : PySem.W.Frag) (f : NF) (st : NSt) (G : GH) (i : Nat) : Prop where
  gm : G f.g = some (gameO K f.A)
  N : NotAt K f.ks f.n f.c f.s st.cs st.sg G
  tt : G f.t = some (netO K f)
  se : G f.se = some (.lst (st.sent.map ltD))
  pt : G f.pt = some (.dic (pdG f.pa (hons f.hb i)))
  d : f.H0 → G f.d = some (deskO K f.df st.ds) ∧ G f.dc = some (.dic (dcG prD2 st.ds.com)) ∧ G f.dp = some (.dic (dcG obD st.ds.opn))
  p : ∀ m, f.H m → m ≤ i → G (f.pa m) = some (partyO K (f.pf m) (st.ps m)) ∧ G (f.ka m) = some (.lst ((st.ps m).kept.map ltD))
  cs_ : f.c ≠ f.s
  sc_ : f.se ≠ f.c
  ss_ : f.se ≠ f.s
  d_ : f.H0 → f.dc ≠ f.dp ∧ f.pt ≠ f.dc ∧ f.pt ≠ f.dp
  k_ : ∀ m, f.H m → m ≤ i → f.ka m ≠ f.c ∧ f.ka m ≠ f.s ∧ f.ka m ≠ f.se
  kk_ : ∀ m j, f.H m → f.H j → m ≤ i → j ≤ i → m ≠ j → f.ka m ≠ f.ka j ∧ f.pa m ≠ f.pa j
  fr : ∀ m, m ≤ i → (st.ps m).com = none ∧ (st.ps m).lb = none ∧ (st.ps m).bb = none ∧ (st.ps m).kept = []
  sg0 : st.sg = []
  se0 : st.sent = []
  ds0 : st.ds.com = [] ∧ st.ds.opn = [] ∧ st.ds.lb = none
  cl : st.cs.length ≤ i + 1
abbrev NF.pfx (f : NF) (x kp : Addr) (m : Nat) : PF := ⟨f.A, f.rl, f.ks, f.g, f.n, f.c, f.s, x, kp, m, f.ks.getD m "", (f.rp m).2.1, (f.rp m).1, (f.rp m).2.2⟩
abbrev NF.addP (f : NF) (i : Nat) (x kp : Addr) : NF := { f with pa := fun j => if j = i then x else f.pa j, ka := fun j => if j = i then kp else f.ka j }
section
variable {K : PySem.W.Frag} {f : NF} {st : NSt} {G : GH} {i : Nat}
theorem NBi.skip (h : NBi K f st G i) (hb : f.hb (i + 1) = false) (q : PSt) (hq : q.com = none ∧ q.lb = none ∧ q.bb = none ∧ q.kept = []) : NBi K f { st with ps := fun j => if j = i + 1 then q else st.ps j } G (i + 1) := by
  have up : ∀ m, f.H m → m ≤ i + 1 → m ≤ i := fun m hm e => by
    by_cases z : m = i + 1
    · subst z; rw [hm.2.2] at hb; cases hb
    · omega
  refine ⟨h.gm, h.N, h.tt, h.se, ?_, h.d, fun m hm e => ?_, h.cs_, h.sc_, h.ss_, h.d_, fun m hm e => h.k_ m hm (up m hm e), fun m j hm hj e1 e2 => h.kk_ m j hm hj (up m hm e1) (up j hj e2), fun m e => ?_, h.sg0, h.se0, h.ds0, Nat.le_succ_of_le h.cl⟩
  · rw [hons_succ, hb, if_neg (by decide), List.append_nil]; exact h.pt
  · show G (f.pa m) = some (partyO K (f.pf m) (if m = i + 1 then q else st.ps m)) ∧ G (f.ka m) = some (.lst ((if m = i + 1 then q else st.ps m).kept.map ltD))
    have := up m hm e
    rw [if_neg (by omega)]
    exact h.p m hm this
  · show (if m = i + 1 then q else st.ps m).com = none ∧ (if m = i + 1 then q else st.ps m).lb = none ∧ (if m = i + 1 then q else st.ps m).bb = none ∧ (if m = i + 1 then q else st.ps m).kept = []
    by_cases z : m = i + 1
    · rw [if_pos z]; exact hq
    · rw [if_neg z]; exact h.fr m (by omega)
theorem NBi.add (h : NBi K f st G i) (hb : f.hb (i + 1) = true) {x kp : Addr} {cs' : List Ct} {q : PSt} (hx : G x = none) (hk : G kp = none) (hkx : kp ≠ x) (okc : ∀ y ∈ cs', y.ok) (hl : cs'.length ≤ st.cs.length + 1) (hq : q.com = none ∧ q.lb = none ∧ q.bb = none ∧ q.kept = []) :
    NBi K (f.addP (i + 1) x kp) { st with cs := cs', ps := fun j => if j = i + 1 then q else st.ps j } (updG (updG (updG (updG (updG G x (.ins (He.ga K "Party") [] [])) f.c (.lst (cs'.map Ct.d))) kp (.lst [])) x (partyO K (f.pfx x kp (i + 1)) q)) f.pt (.dic (pdG (f.addP (i + 1) x kp).pa (hons f.hb (i + 1))))) (i + 1) := by
  have hN := h.N
  have ne : ∀ {y : Addr} {o : GO}, G y = some o → y ≠ x ∧ y ≠ kp := fun e => ⟨neG_none e hx, neG_none e hk⟩
  have old : ∀ {y : Addr} {o : GO}, G y = some o → y ≠ f.c → y ≠ f.pt → (updG (updG (updG (updG (updG G x (.ins (He.ga K "Party") [] [])) f.c (.lst (cs'.map Ct.d))) kp (.lst [])) x (partyO K (f.pfx x kp (i + 1)) q)) f.pt (.dic (pdG (f.addP (i + 1) x kp).pa (hons f.hb (i + 1))))) y = some o := fun e n1 n2 => by
    rw [updG_ne n2, updG_ne (ne e).1, updG_ne (ne e).2, updG_ne n1, updG_ne (ne e).1]; exact e
  have oI : ∀ {y : Addr} {C : Addr} {ns : List Str} {ds : List Dt}, G y = some (.ins C ns ds) → (updG (updG (updG (updG (updG G x (.ins (He.ga K "Party") [] [])) f.c (.lst (cs'.map Ct.d))) kp (.lst [])) x (partyO K (f.pfx x kp (i + 1)) q)) f.pt (.dic (pdG (f.addP (i + 1) x kp).pa (hons f.hb (i + 1))))) y = some (.ins C ns ds) := fun e => old e (neG e hN.hc kIL) (neG e h.pt kID)
  have oL : ∀ {y : Addr} {l : List PyData}, G y = some (.lst l) → y ≠ f.c → (updG (updG (updG (updG (updG G x (.ins (He.ga K "Party") [] [])) f.c (.lst (cs'.map Ct.d))) kp (.lst [])) x (partyO K (f.pfx x kp (i + 1)) q)) f.pt (.dic (pdG (f.addP (i + 1) x kp).pa (hons f.hb (i + 1))))) y = some (.lst l) := fun e n => old e n (neG e h.pt kLD)
  have oD : ∀ {y : Addr} {l : List (Key × Dt)}, G y = some (.dic l) → y ≠ f.pt → (updG (updG (updG (updG (updG G x (.ins (He.ga K "Party") [] [])) f.c (.lst (cs'.map Ct.d))) kp (.lst [])) x (partyO K (f.pfx x kp (i + 1)) q)) f.pt (.dic (pdG (f.addP (i + 1) x kp).pa (hons f.hb (i + 1))))) y = some (.dic l) := fun e n => old e (neG e hN.hc kDL) n
  have hcx := (ne hN.hc).1
  have hck := (ne hN.hc).2
  have hcp : f.c ≠ f.pt := neG hN.hc h.pt kLD
  refine ⟨oI h.gm, ⟨oI hN.nt, ?_, oL hN.hs h.cs_.symm, okc, hN.oks⟩, oI h.tt, oL h.se h.sc_, updG_same, fun h0 => ?_, fun m hm e => ?_, h.cs_, h.sc_, h.ss_, h.d_, fun m hm e => ?_, fun m j hm hj e1 e2 z => ?_, fun m e => ?_, h.sg0, h.se0, h.ds0, by have := h.cl; show cs'.length ≤ _; omega⟩
  · show updG _ _ _ f.c = _
    rw [updG_ne hcp, updG_ne hcx, updG_ne hck, updG_same]
  · obtain ⟨d1, d2, d3⟩ := h.d h0
    obtain ⟨n1, n2, n3⟩ := h.d_ h0
    exact ⟨oI d1, oD d2 n2.symm, oD d3 n3.symm⟩
  · by_cases z : m = i + 1
    · subst z
      have e1 : (f.addP (i + 1) x kp).pa (i + 1) = x := if_pos rfl
      have e2 : (f.addP (i + 1) x kp).ka (i + 1) = kp := if_pos rfl
      have e3 : (fun j => if j = i + 1 then q else st.ps j) (i + 1) = q := if_pos rfl
      show updG _ f.pt _ ((f.addP (i + 1) x kp).pa (i + 1)) = some (partyO K ((f.addP (i + 1) x kp).pf (i + 1)) ((fun j => if j = i + 1 then q else st.ps j) (i + 1))) ∧ updG _ f.pt _ ((f.addP (i + 1) x kp).ka (i + 1)) = some (.lst (((fun j => if j = i + 1 then q else st.ps j) (i + 1)).kept.map ltD))
      rw [show (f.addP (i + 1) x kp).pf (i + 1) = f.pfx x kp (i + 1) by unfold NF.pf; simp only [if_pos]; rfl, e1, e2, e3, hq.2.2.2]
      exact ⟨by rw [updG_ne (Ne.symm (ne h.pt).1), updG_same], by rw [updG_ne (Ne.symm (ne h.pt).2), updG_ne hkx, updG_same]; rfl⟩
    · have e1 : (f.addP (i + 1) x kp).pa m = f.pa m := if_neg z
      have e2 : (f.addP (i + 1) x kp).ka m = f.ka m := if_neg z
      have e3 : (fun j => if j = i + 1 then q else st.ps j) m = st.ps m := if_neg z
      obtain ⟨p1, p2⟩ := h.p m hm (by omega)
      show updG _ f.pt _ ((f.addP (i + 1) x kp).pa m) = some (partyO K ((f.addP (i + 1) x kp).pf m) ((fun j => if j = i + 1 then q else st.ps j) m)) ∧ updG _ f.pt _ ((f.addP (i + 1) x kp).ka m) = some (.lst (((fun j => if j = i + 1 then q else st.ps j) m).kept.map ltD))
      rw [show (f.addP (i + 1) x kp).pf m = f.pf m by unfold NF.pf; simp only [if_neg z]; rfl, e1, e2, e3]
      exact ⟨oI p1, oL p2 (h.k_ m hm (by omega)).1⟩
  · by_cases z : m = i + 1
    · subst z
      show (if i + 1 = i + 1 then kp else f.ka (i + 1)) ≠ _ ∧ (if i + 1 = i + 1 then kp else f.ka (i + 1)) ≠ _ ∧ (if i + 1 = i + 1 then kp else f.ka (i + 1)) ≠ _
      rw [if_pos rfl]
      exact ⟨Ne.symm hck, Ne.symm (ne hN.hs).2, Ne.symm (ne h.se).2⟩
    · show (if m = i + 1 then kp else f.ka m) ≠ _ ∧ (if m = i + 1 then kp else f.ka m) ≠ _ ∧ (if m = i + 1 then kp else f.ka m) ≠ _
      rw [if_neg z]
      exact h.k_ m hm (by omega)
  · show (if m = i + 1 then kp else f.ka m) ≠ (if j = i + 1 then kp else f.ka j) ∧ (if m = i + 1 then x else f.pa m) ≠ (if j = i + 1 then x else f.pa j)
    by_cases z1 : m = i + 1
    · rw [if_pos z1, if_pos z1, if_neg (by omega), if_neg (by omega)]
      obtain ⟨p1, p2⟩ := h.p j hj (by omega)
      exact ⟨Ne.symm (ne p2).2, Ne.symm (ne p1).1⟩
    · rw [if_neg z1, if_neg z1]
      obtain ⟨p1, p2⟩ := h.p m hm (by omega)
      by_cases z2 : j = i + 1
      · rw [if_pos z2, if_pos z2]
        exact ⟨(ne p2).2, (ne p1).1⟩
      · rw [if_neg z2, if_neg z2]
        exact h.kk_ m j hm hj (by omega) (by omega) z
  · show (if m = i + 1 then q else st.ps m).com = none ∧ (if m = i + 1 then q else st.ps m).lb = none ∧ (if m = i + 1 then q else st.ps m).bb = none ∧ (if m = i + 1 then q else st.ps m).kept = []
    by_cases z : m = i + 1
    · rw [if_pos z]; exact hq
    · rw [if_neg z]; exact h.fr m (by omega)
theorem NBi.done (h : NBi K f st G f.A.length) : NAt K f st G := ⟨h.gm, h.N, h.tt, h.se, h.pt, h.d, fun m hm => h.p m hm hm.2.1⟩
theorem NBi.inv (h : NBi K f st G f.A.length) : NInv f st := by
  obtain ⟨e1, e2, e3⟩ := h.ds0
  refine ⟨fun _ => ⟨by rw [e1]; exact .nil, by rw [e2]; exact .nil, fun L e => (by rw [e3] at e; cases e), fun p hp => (by rw [e2] at hp; cases hp)⟩, fun m hm => ?_, fun m hm l hl => ?_, fun l hl => (by rw [h.se0] at hl; cases hl), by rw [h.se0]; exact Nat.zero_le _⟩
  · obtain ⟨f1, f2, f3, f4⟩ := h.fr m hm.2.1
    refine ⟨fun q e => (by rw [f1] at e; cases e), fun L e => (by rw [f2] at e; cases e), fun q e => (by rw [f3] at e; cases e), fun k b e => (by rw [h.sg0] at e; cases e), fun i l e => ?_⟩
    rw [f4] at e
    cases e
  · rw [(h.fr m hm.2.1).2.2.2] at hl
    cases hl
theorem NBi.nok (h : NBi K f st G f.A.length) (okA : okG f.A) (okR_ : okR f.A f.rl) (okK : okKeys f.ks) (klen : f.ks.length = f.A.length + 1) (hlen : f.hon.length = f.A.length + 1) (rlen : f.reps.length = f.A.length) (ro : RpOk f.A f.reps) : NOk f := by
  refine ⟨okA, okR_, okK, klen, hlen, rlen, fun m hm => ?_, h.cs_, h.sc_, h.ss_, h.d_, fun m hm => h.k_ m hm hm.2.1, fun m j hm hj => h.kk_ m j hm hj hm.2.1 hj.2.1⟩
  obtain ⟨m1, m2, _⟩ := hm
  have ha : f.A[m - 1]? = some f.A[m - 1] := List.getElem?_eq_getElem (by omega)
  have hr : f.reps[m - 1]? = some (f.rp m) := by
    unfold NF.rp
    rw [List.getD_eq_getElem?_getD, List.getElem?_eq_getElem (by omega)]; rfl
  obtain ⟨r1, r2, r3, r4, r5⟩ := ro _ _ _ hr ha
  exact ⟨⟨_, ha, r1, r2⟩, r3, r4, r5⟩
end
theorem put_pd {hb : Nat → Bool} {pa : Nat → Addr} {i : Nat} {x : Addr} (h : hb (i + 1) = true) : putD (pdG pa (hons hb i)) (.inl ((i + 1 : Nat) : Int)) (.obj x) = pdG (fun m => if m = i + 1 then x else pa m) (hons hb (i + 1)) := by
  have h1 : ¬ ((pdG pa (hons hb i)).any fun kv => decide (kv.1 = .inl ((i + 1 : Nat) : Int))) = true := fun z => by
    obtain ⟨kv, hm, e⟩ := List.any_eq_true.mp z
    obtain ⟨p, hp, rfl⟩ := List.mem_map.mp hm
    have e2 : ((p : Nat) : Int) = ((i + 1 : Nat) : Int) := Sum.inl.inj (of_decide_eq_true e)
    have := (hons_mem.mp hp).2.1
    omega
  unfold putD
  rw [if_neg h1, hons_succ, if_pos h]
  unfold pdG
  rw [List.map_append]
  refine congr (congrArg _ (List.map_congr_left fun m hm => ?_)) ?_
  · have := (hons_mem.mp hm).2.1
    show ((Sum.inl ((m : Nat) : Int) : Key), Dt.obj (pa m)) = (Sum.inl ((m : Nat) : Int), Dt.obj (if m = i + 1 then x else pa m))
    rw [if_neg (by omega)]
  · simp
abbrev F_Net_init (K : PySem.W.Frag) : FT := F7 fun x ga ru ke ho re rn G Φ => ∃ (A : List Ag) (rl : List (List Rt)) (ks : List Str) (hon : List Bool) (reps : List Rp) (g t : Addr), x = .obj t ∧ G t = some (.ins (He.ga K "Net") [] []) ∧ ga = .obj g ∧ G g = some (gameO K A) ∧ okG A ∧ okR A rl ∧
  ru = .dat (ruleD A.length rl) ∧ ke = .dat (.list (ks.map .str)) ∧ okKeys ks ∧ ks.length = A.length + 1 ∧ ho = .dat (.list (hon.map .bool)) ∧ hon.length = A.length + 1 ∧ re = .dat (.list (reps.map rpD)) ∧ reps.length = A.length ∧ RpOk A reps ∧ rn = .dat (.int 1) ∧
  ∀ (f : NF) (st : NSt) (G' : GH), f.A = A → f.rl = rl → f.ks = ks → f.hon = hon → f.reps = reps → f.t = t → NOk f → NAt K f st G' → NInv f st → NLe 10 f st → (∀ m, f.H m → (st.ps m).bb = none) → (∀ a, G a = some .nums → G' a = some .nums) → Φ (.dat .none) G'

theorem sc_Net_init : FnScope ["self", "game", "rule", "keys", "honest", "reports", "round_number", "index", "report", "kind", "salt", "ticket"] ["self", "game", "rule", "keys", "honest", "reports", "round_number"] (defScope (inClass (top 83) 0)) := ⟨rfl, rfl, rfl, by decide +kernel, rfl, by decide +kernel, by decide +kernel⟩
theorem n_Net_init {P : Program} {w : World} {K : PySem.W.Frag} {mg : Str → Option Value} {base : Heap} {fd : FuncData} {dvs : List V} {kws : List (Str × V)} (e : Ev P w K mg base) (FD : FunD K "__init__" "Net.__init__" (defArgs (inClass (top 83) 0)) (defBody (inClass (top 83) 0)) (defScope (inClass (top 83) 0)) dvs kws (He.ma K (He.ga K "Net") "__init__") fd) : FnOk P w K mg base CX0 20 (He.ma K (He.ga K "Net") "__init__") fd ["self", "game", "rule", "keys", "honest", "reports", "round_number"] (spD K (F_Net_init K)) := by
  have S := sc_Net_init
  refine okD FD S (fun _ _ _ h => len7 h) fun cdv A outer s H E hr => ⟨_, (pss_cons (ps_if (PW.pt (pw_or (pt_cmpR op_ne (pe_callB (k_len K) rfl e.x_len (by decide +kernel) (pa_cons (pv 4) pa_nil)) (pe_op (k_add K) (pe_callB (k_len K) rfl e.x_len (by decide +kernel) (pa_cons (k_fld K e.f_Game_agents (pv 1)) pa_nil)) pe_int) (nomark _)) (pw_or1 (pt_cmpR op_ne (pe_callB (k_len K) rfl e.x_len (by decide +kernel) (pa_cons (pv 5) pa_nil)) (pe_callB (k_len K) rfl e.x_len (by decide +kernel) (pa_cons (k_fld K e.f_Game_agents (pv 1)) pa_nil)) (nomark _))))) pss_never pss_nil)
      (pss_cons (ps_fldN (ns := []) e.c_Net e.a_Net_notary (by decide) (by decide) (pv 0) (k_mk K e.m_Notary (o_Notary_init e) (hr.mono (by decide)) e.g_Notary (pa_cons (pv 3) pa_nil)))
      (pss_cons (ps_fldN (ns := ["notary"]) e.c_Net e.a_Net_known_keys (by decide) (by decide) (pv 0) (pe_callTy (k_list K) rfl e.x_list (by decide +kernel) (pa_cons (pv 3) pa_nil)))
      (pss_cons (ps_fldN (ns := ["notary", "known_keys"]) e.c_Net e.a_Net_honest (by decide) (by decide) (pv 0) (pe_callTy (k_list K) rfl e.x_list (by decide +kernel) (pa_cons (pv 4) pa_nil)))
      (pss_cons (ps_fldN (ns := ["notary", "known_keys", "honest"]) e.c_Net e.a_Net_round_number (by decide) (by decide) (pv 0) (pv 6))
      (pss_cons (ps_fldN (ns := ["notary", "known_keys", "honest", "round_number"]) e.c_Net e.a_Net_sent (by decide) (by decide) (pv 0) (pe_lstG pa_nil))
      (pss_cons (ps_fldN (ns := ["notary", "known_keys", "honest", "round_number", "sent"]) e.c_Net e.a_Net_desk (by decide) (by decide) (pv 0) pe_non)
      (pss_cons (ps_if (pt_val (pe_ix (k_ix K) (pv 4) pe_int (fun _ _ => rfl))) (pss_one (ps_fldF (Fld.mk e.c_Net (by exact e.a_Net_desk) (by decide) (by rfl) : Fld _ _ ["notary", "known_keys", "honest", "round_number", "sent", "desk"] "desk" 5) (by decide) (pv 0) (k_mk K e.m_Desk (o_Desk_init e) (hr.mono (by decide)) e.g_Desk (pa_cons (pv 1) (pa_cons (pv 2) (pa_cons (k_fld K (Fld.mk e.c_Net (by exact e.a_Net_notary) (by decide) (by rfl) : Fld _ _ ["notary", "known_keys", "honest", "round_number", "sent", "desk"] "notary" 0) (pv 0)) (pa_cons (pe_ix (k_ix K) (pv 3) pe_int (fun _ _ => rfl)) (pa_cons (pv 6) pa_nil)))))))) pss_nil)
      (pss_cons (ps_fldN (ns := ["notary", "known_keys", "honest", "round_number", "sent", "desk"]) e.c_Net e.a_Net_parties (by decide) (by decide) (pv 0) pe_dnewK)
      (pss_one (ps_for PassesOwn.never rfl (k_enum K rfl e.x_enumerate (pa_cons (pv 5) pa_nil)) (k_gtup K (n := 2) rfl (pgs_cons (pg_name (i := 7) S.nd rfl (by first | exact Or.inl rfl | exact Or.inr rfl)) (pgs_cons (pg_name (i := 8) S.nd rfl (by first | exact Or.inl rfl | exact Or.inr rfl)) pgs_nil))) (pss_one (ps_if (pt_val (pe_ix (k_ix K) (pv 4) (pe_op (k_add K) (pv 7) pe_int) (fun _ _ => rfl))) (pss_cons (ps_asg (pv 8) (k_gtup K (n := 3) rfl (pgs_cons (pg_name (i := 9) S.nd rfl (by first | exact Or.inl rfl | exact Or.inr rfl)) (pgs_cons (pg_name (i := 10) S.nd rfl (by first | exact Or.inl rfl | exact Or.inr rfl)) (pgs_cons (pg_name (i := 11) S.nd rfl (by first | exact Or.inl rfl | exact Or.inr rfl)) pgs_nil)))))
      (pss_one (ps_dput (room1 hr) (k_fld K (Fld.mk e.c_Net (by exact e.a_Net_parties) (by decide) (by rfl) : Fld _ _ ["notary", "known_keys", "honest", "round_number", "sent", "desk", "parties"] "parties" 6) (pv 0)) (pe_op (k_add K) (pv 7) pe_int) (k_mkK K e.m_Party (o_Party_initK e) (hr.mono (by decide)) e.g_Party (pa_cons (pv 1) (pa_cons (pv 2) (pa_cons (k_fld K (Fld.mk e.c_Net (by exact e.a_Net_notary) (by decide) (by rfl) : Fld _ _ ["notary", "known_keys", "honest", "round_number", "sent", "desk", "parties"] "notary" 0) (pv 0)) (pa_cons (pe_ix (k_ix K) (pv 3) (pe_op (k_add K) (pv 7) pe_int) (fun _ _ => rfl)) (pa_cons (pv 6) pa_nil))))) (pk_cons (pe_op (k_add K) (pv 7) pe_int) (pk_cons (pv 9) (pk_cons (pv 10) (pk_cons (pv 11) pk_nil))))) (by rfl)))) pss_nil))))))))))))), ?_⟩
  intro ds G Φ h
  try dsimp only [cxK, blkK]
  obtain ⟨x, ga, ru, ke, ho, re, rn, rfl, A, rl, ks, hon, reps, g, t, rfl, ht, rfl, hg, hA, hR, rfl, rfl, hks, hkl, rfl, hhl, rfl, hrl, hro, rfl, k⟩ := h
  have h1 := hA.n1
  have h3 := hA.n3
  have hl : ((A.map agD).length : Int) = (A.length : Int) := by rw [List.length_map]
  have hgt : g ≠ t := neG hg ht (ins_ne (by decide +kernel))
  fail "x"
  refine we_make dfv_nil ?_
  fail "x"
  intro n hn
  have hgn : g ≠ n := neG_none hg hn
  have htn : t ≠ n := neG_none ht hn
  refine ⟨_, _, rfl, ks, n, rfl, updG_same, rfl, hks, fun c s hc hs hcs => ⟨rfl, ?_⟩⟩
  obtain ⟨hcn, hc⟩ := fresh_updG hc
  obtain ⟨hsn, hs⟩ := fresh_updG hs
  have hgc : g ≠ c := neG_none hg hc
  have htc : t ≠ c := neG_none ht hc
  have hgs : g ≠ s := neG_none hg hs
  have hts : t ≠ s := neG_none ht hs
  fail "x"
  intro se hse
  obtain ⟨_, hse⟩ := fresh_updG hse
  obtain ⟨_, hse⟩ := fresh_updG hse
  obtain ⟨_, hse⟩ := fresh_updG hse
  obtain ⟨hset, hse⟩ := fresh_updG hse
  obtain ⟨_, hse⟩ := fresh_updG hse
  obtain ⟨hses, hse⟩ := fresh_updG hse
  obtain ⟨hsec, hse⟩ := fresh_updG hse
  obtain ⟨hsen, hse⟩ := fresh_updG hse
  have hges : g ≠ se := neG_none hg hse
  fail "x"
  refine dIx_abs (fun G1 => G1 g = some (gameO K A) ∧ NotAt K ks n c s [] [] G1 ∧ G1 se = some (.lst []) ∧ G1 t = some (.ins (He.ga K "Net") ["notary", "known_keys", "honest", "round_number", "sent", "desk"] [.obj n, .dat (.list (ks.map .str)), .dat (.list (hon.map .bool)), .dat (.int 1), .obj se, .dat .none]) ∧ ∀ x, G x = some .nums → G1 x = some .nums)
    ⟨by fail "h", ⟨by fail "h", by fail "h", by fail "h", fun x hx => (by cases hx), fun x hx => (by cases hx)⟩, by fail "h", by fail "h", fun x hx => ?_⟩ fun G1 ⟨g1, N1, se1, t1, nu1⟩ => ?_
  · have x1 : x ≠ n := neG_none hx hn
    have x2 : x ≠ c := neG_none hx hc
    have x3 : x ≠ s := neG_none hx hs
    have x4 : x ≠ t := neG hx ht kNI
    have x5 : x ≠ se := neG_none hx hse
    fail "h"
  have hb0 : (hon.map PyData.bool)[0]? = some (.bool (hon.getD 0 false)) := by
    rw [List.getElem?_map, List.getD_eq_getElem?_getD, List.getElem?_eq_getElem (by omega)]; rfl
  refine dIx_l (atI_nat (k := 0) hb0) ?_
  cases hd0 : hon.getD 0 false with
  | false =>
    fail "x"
    intro pt hpt
    have p1 : g ≠ pt := neG_none g1 hpt
    have p2 : n ≠ pt := neG_none N1.nt hpt
    have p3 : c ≠ pt := neG_none N1.hc hpt
    have p4 : s ≠ pt := neG_none N1.hs hpt
    have p5 : se ≠ pt := neG_none se1 hpt
    have p6 : t ≠ pt := neG_none t1 hpt
    have q2 := N1.nt
    have q3 := N1.hc
    have q4 := N1.hs
    fail "x"
    refine ws_abs (fun G2 => ∃ (f : NF) (st : NSt), NBi K f st G2 0 ∧ f.A = A ∧ f.rl = rl ∧ f.ks = ks ∧ f.hon = hon ∧ f.reps = reps ∧ f.t = t ∧ f.g = g ∧ f.n = n ∧ ∀ x, G x = some .nums → G2 x = some .nums)
      ⟨⟨A, rl, ks, hon, reps, g, n, c, s, t, se, 0, 0, 0, pt, fun _ => 0, fun _ => 0⟩, ⟨[], [], [], ⟨0, [], [], none, none⟩, fun _ => ⟨0, none, none, none, []⟩⟩, ⟨by fail "h", ⟨by fail "h", by fail "h", by fail "h", fun x hx => (by cases hx), fun x hx => (by cases hx)⟩, ?_, by fail "h", by fail "h", fun h0 => ?_, fun m hm e => (by have := hm.1; omega), hcs, hsec, hses, fun h0 => ?_, fun m hm e => (by have := hm.1; omega), fun m j hm hj e => (by have := hm.1; omega), fun m e => ⟨rfl, rfl, rfl, rfl⟩, rfl, rfl, ⟨rfl, rfl, rfl⟩, by simp⟩, rfl, rfl, rfl, rfl, rfl, rfl, rfl, rfl, ?_⟩ fun G2 ⟨f, st, B0, e1, e2, e3, e4, e5, e6, e7, e8, nu2⟩ => ?_
    · rw [updG_same]
      simp only [netO, NF.dk, NF.hb, hd0]
      rfl
    · exact absurd (show hon.getD 0 false = true from h0) (by rw [hd0]; decide)
    · exact absurd (show hon.getD 0 false = true from h0) (by rw [hd0]; decide)
    · exact nums_upd (nums_new nu1 hpt) ((updG_ne p6).trans t1) kNI
    subst e1 e2 e3 e4 e5 e6 e7 e8
    refine ws_for (wi_enum ?_)
    fail "x"
    refine ⟨[7] ++ ([8] ++ []), fun j δ G' => ∃ (pa ka : Nat → Addr) (st : NSt) (y7 y8 y9 y10 y11 : Option Dt), δ = [some (.obj f.t), some (.obj f.g), some (.dat (ruleD f.A.length f.rl)), some (.dat (.list (f.ks.map .str))), some (.dat (.list (f.hon.map .bool))), some (.dat (.list (f.reps.map rpD))), some (.dat (.int 1)), y7, y8, y9, y10, y11] ∧
      NBi K { f with pa := pa, ka := ka } st G' j ∧ ∀ x, G x = some .nums → G' x = some .nums, ⟨f.pa, f.ka, st, none, none, none, none, none, rfl, B0, nu2⟩, ?_, ?_⟩
    · rintro j x δ' G' hx ⟨pa, ka, st, y7, y8, y9, y10, y11, rfl, B, nu⟩
      obtain ⟨q, hq, rfl⟩ := numD_get.mp hx
      obtain ⟨r, hr, rfl⟩ := map_get hq
      have hj : j < f.A.length := by rw [← hrl]; exact (List.getElem?_eq_some_iff.mp hr).1
      have hrp : f.rp (j + 1) = r := by
        unfold NF.rp
        rw [List.getD_eq_getElem?_getD, Nat.add_sub_cancel, hr]; rfl
      have hhb : (f.hon.map PyData.bool)[j + 1]? = some (.bool (f.hb (j + 1))) := by
        rw [List.getElem?_map, NF.hb_at (by omega)]; rfl
      have hk0 : f.ks[j + 1]? = some (f.ks.getD (j + 1) "") := by
        rw [List.getD_eq_getElem?_getD, List.getElem?_eq_getElem (by omega)]; rfl
      have hkk : (f.ks.map PyData.str)[j + 1]? = some (.str (f.ks.getD (j + 1) "")) := by
        rw [List.getElem?_map, hk0]; rfl
      have ha : f.A[j]? = some f.A[j] := List.getElem?_eq_getElem hj
      obtain ⟨o1, o2, o3, o4, o5⟩ := hro _ _ _ hr ha
      have b1 := B.tt
      have b2 := B.pt
      fail "x"
      refine dIx_l (atI_int (k := j + 1) (by omega) hhb) ?_
      cases hb : f.hb (j + 1) with
      | false =>
        fail "x"
        exact ⟨pa, ka, _, _, _, _, _, _, rfl, B.skip hb ⟨0, none, none, none, []⟩ ⟨rfl, rfl, rfl, rfl⟩, nu⟩
      | true =>
        fail "x"
        refine we_makeK god_app ?_
        fail "x"
        refine dIx_l (atI_int (k := j + 1) (by omega) hkk) ?_
        fail "x"
        intro x hx2
        have ne : ∀ {y : Addr} {o : GO}, G' y = some o → y ≠ x := fun e => neG_none e hx2
        refine ⟨_, _, _, _, _, _, _, _, _, _, rfl, NF.pfx { f with pa := pa, ka := ka } x 0 (j + 1), st.cs, st.sg, rfl, updG_same, rfl, rfl, rfl, rfl, rfl, congrArg (fun i => Dt.dat (.int i)) (show ((j : Nat) : Int) + 1 = ((j + 1 : Nat) : Int) by omega), ?_, ?_, ?_, ?_, B.N.other (ne B.N.nt) (ne B.N.hc) (ne B.N.hs), B.cs_, ?_, ?_, ?_, ?_, fun kp tn a b hab hkp hkx => ⟨rfl, ?_⟩⟩
        · show Dt.dat (.int r.1) = .dat (.int (f.rp (j + 1)).1)
          rw [hrp]
        · show Dt.dat (.str r.2.1) = .dat (.str (f.rp (j + 1)).2.1)
          rw [hrp]
        · show Dt.dat (rT r.2.2) = .dat (rT (f.rp (j + 1)).2.2)
          rw [hrp]
        · rw [updG_ne (ne B.gm)]; exact B.gm
        · exact ⟨hA, hR, hk0, hkl, Nat.le_add_left _ _, hj, by show PyData.strOk (f.rp (j + 1)).2.1 = true; rw [hrp]; exact o3, by show (f.rp (j + 1)).2.2 ∈ ticks; rw [hrp]; exact o4⟩
        · exact ⟨f.A[j], ha, by show 0 ≤ (f.rp (j + 1)).1; rw [hrp]; exact o1, by show (f.rp (j + 1)).1 < _; rw [hrp]; exact o2⟩
        · show (f.rp (j + 1)).2.2 ≠ (1, 1)
          rw [hrp]; exact o5
        · have := B.cl
          omega
        obtain ⟨_, hkp⟩ := fresh_updG hkp
        have x1 : f.t ≠ x := ne B.tt
        have x2 : f.t ≠ kp := neG_none B.tt hkp
        have x3 : f.t ≠ f.c := neG B.tt B.N.hc kIL
        have x4 : f.pt ≠ x := ne B.pt
        have x5 : f.pt ≠ kp := neG_none B.pt hkp
        have x6 : f.pt ≠ f.c := neG B.pt B.N.hc kDL
        dsimp only [NF.pfx]
        dsimp only [netO] at b1
        fail "x"
        refine ⟨f.pt, _, _, _, rfl, (by fail "h"), rfl, rfl, ?_, ?_⟩
        · unfold pdG
          rw [List.length_map]
          have := hons_len (hb := f.hb) (i := j)
          show (hons f.hb j).length < _
          omega
        rw [show ((j : Nat) : Int) + 1 = ((j + 1 : Nat) : Int) by omega]
        have hadd := B.add (x := x) (kp := kp) (cs' := addc (.terms a b) st.cs) (q := ⟨tn, none, none, none, []⟩) hb hx2 hkp hkx (addc_ok B.N.okc hab) addc_len ⟨rfl, rfl, rfl, rfl⟩
        have hput := put_pd (pa := pa) (x := x) hb
        have hck : f.c ≠ kp := neG_none B.N.hc hkp
        have hcx : f.c ≠ x := ne B.N.hc
        refine ⟨_, _, _, _, _, _, _, _, rfl, phi_eq (Φ := fun _ G => NBi K _ _ G _) (d := .dat .none) hadd (congrArg (fun z => updG _ f.pt (.dic z)) hput.symm), ?_⟩
        refine nums_upd (nums_upd (nums_new (nums_upd (nums_new nu hx2) ((updG_ne hcx).trans B.N.hc) kNL) ((updG_ne (Ne.symm hck)).trans ((updG_ne hkx).trans hkp))) ((updG_ne hkx.symm).trans ((updG_ne (Ne.symm hcx)).trans updG_same)) kNI) (u := .dic (pdG pa (hons f.hb j))) (by fail "h") kND
    · rintro δ' G' ⟨pa, ka, st, y7, y8, y9, y10, y11, rfl, B, nu⟩
      rw [numD_length, List.length_map, hrl] at B
      exact k { f with pa := pa, ka := ka } st G' rfl rfl rfl rfl rfl rfl (B.nok hA hR hks hkl hhl hrl hro) B.done B.inv ⟨by have := B.cl; show _ ≤ 10; have h5 : f.A.length ≤ 3 := h3; have h6 : st.cs.length ≤ f.A.length + 1 := this; omega, by rw [B.sg0]; exact Nat.zero_le _, fun m hm => by rw [(B.fr m hm.2.1).2.2.2]; exact Nat.zero_le _⟩ (fun m hm => (B.fr m hm.2.1).2.2.1) nu
  | true =>
    fail "x"
    refine we_make dfv_nil ?_
    have q2 := N1.nt
    have q3 := N1.hc
    have q4 := N1.hs
    fail "x"
    have hk0 : ks[0]? = some (ks.getD 0 "") := by
      rw [List.getD_eq_getElem?_getD, List.getElem?_eq_getElem (by omega)]; rfl
    refine dIx_l (atI_nat (k := 0) (x := .str (ks.getD 0 "")) (by rw [List.getElem?_map, hk0]; rfl)) ?_
    fail "x"
    intro d hd
    refine ⟨_, _, _, _, _, _, rfl, ⟨A, ks, g, n, c, s, d, 0, 0, ks.getD 0 ""⟩, rl, [], [], rfl, updG_same, rfl, rfl, rfl, rfl, rfl, ?_, N1.other (neG_none q2 hd) (neG_none q3 hd) (neG_none q4 hd), hcs, ⟨hA, ?_, hkl⟩, hR, by decide, fun dc dp tn a b hab hdc hdp hdd hdcd hdpd => ⟨rfl, ?_⟩⟩
    · rw [updG_ne (neG_none g1 hd)]; exact g1
    · exact hk0
    have dg : g ≠ d := neG_none g1 hd
    have dn : n ≠ d := neG_none q2 hd
    have dc' : c ≠ d := neG_none q3 hd
    have ds' : s ≠ d := neG_none q4 hd
    have dse : se ≠ d := neG_none se1 hd
    have dt' : t ≠ d := neG_none t1 hd
    obtain ⟨_, hdc⟩ := fresh_updG hdc
    obtain ⟨_, hdp⟩ := fresh_updG hdp
    dsimp only
    have dt2 : t ≠ c := neG t1 q3 kIL
    have dt3 : t ≠ dc := neG_none t1 hdc
    have dt4 : t ≠ dp := neG_none t1 hdp
    fail "x"
    intro pt hpt
    obtain ⟨_, hpt⟩ := fresh_updG hpt
    obtain ⟨ppd, hpt⟩ := fresh_updG hpt
    obtain ⟨ppp, hpt⟩ := fresh_updG hpt
    obtain ⟨ppc, hpt⟩ := fresh_updG hpt
    obtain ⟨_, hpt⟩ := fresh_updG hpt
    obtain ⟨_, hpt⟩ := fresh_updG hpt
    have p1 : g ≠ pt := neG_none g1 hpt
    have p2 : n ≠ pt := neG_none N1.nt hpt
    have p3 : c ≠ pt := neG_none N1.hc hpt
    have p4 : s ≠ pt := neG_none N1.hs hpt
    have p5 : se ≠ pt := neG_none se1 hpt
    have p6 : t ≠ pt := neG_none t1 hpt
    have ngc : g ≠ c := neG g1 q3 kIL
    have ngdc : g ≠ dc := neG_none g1 hdc
    have ngdp : g ≠ dp := neG_none g1 hdp
    have nndc : n ≠ dc := neG_none q2 hdc
    have nndp : n ≠ dp := neG_none q2 hdp
    have nnc : n ≠ c := neG q2 q3 kIL
    have nnt : n ≠ t := neG q2 t1 (ins_ne (by decide +kernel))
    have ncdc : c ≠ dc := neG_none q3 hdc
    have ncdp : c ≠ dp := neG_none q3 hdp
    have nct : c ≠ t := neG q3 t1 kLI
    have nsdc : s ≠ dc := neG_none q4 hdc
    have nsdp : s ≠ dp := neG_none q4 hdp
    have nst : s ≠ t := neG q4 t1 kLI
    have nsec : se ≠ dc := neG_none se1 hdc
    have nsep : se ≠ dp := neG_none se1 hdp
    have okc0 : ∀ y ∈ addc (Ct.terms a b) [], y.ok := fun y hy => by
      have : y = .terms a b := by simpa [addc] using hy
      rw [this]; exact hab
    fail "x"
    refine ws_abs (fun G2 => ∃ (f : NF) (st : NSt), NBi K f st G2 0 ∧ f.A = A ∧ f.rl = rl ∧ f.ks = ks ∧ f.hon = hon ∧ f.reps = reps ∧ f.t = t ∧ f.g = g ∧ f.n = n ∧ ∀ x, G x = some .nums → G2 x = some .nums)
      ⟨⟨A, rl, ks, hon, reps, g, n, c, s, t, se, d, dc, dp, pt, fun _ => 0, fun _ => 0⟩, ⟨addc (.terms a b) [], [], [], ⟨tn, [], [], none, none⟩, fun _ => ⟨0, none, none, none, []⟩⟩, ⟨by fail "h", ⟨by fail "h", by fail "h", by fail "h", okc0, fun x hx => (by cases hx)⟩, ?_, by fail "h", by fail "h", fun h0 => ⟨by fail "h", by fail "h", by fail "h"⟩, fun m hm e => (by have := hm.1; omega), hcs, hsec, hses, fun h0 => ⟨hdd, ppc, ppp⟩, fun m hm e => (by have := hm.1; omega), fun m j hm hj e => (by have := hm.1; omega), fun m e => ⟨rfl, rfl, rfl, rfl⟩, rfl, rfl, ⟨rfl, rfl, rfl⟩, (by simp [addc])⟩, rfl, rfl, rfl, rfl, rfl, rfl, rfl, rfl, fun x hx => ?_⟩ fun G2 ⟨f, st, B0, e1, e2, e3, e4, e5, e6, e7, e8, nu2⟩ => ?_
    · rw [updG_same]
      simp only [netO, NF.dk, NF.hb, hd0]
      rfl
    · have hx1 := nu1 x hx
      have x1 : x ≠ d := neG_none hx1 hd
      have x2 : x ≠ c := neG hx1 q3 kNL
      have x3 : x ≠ dc := neG_none hx1 hdc
      have x4 : x ≠ dp := neG_none hx1 hdp
      have x5 : x ≠ t := neG hx1 t1 kNI
      have x6 : x ≠ pt := neG_none hx1 hpt
      fail "h"
    subst e1 e2 e3 e4 e5 e6 e7 e8
    refine ws_for (wi_enum ?_)
    fail "x"
    refine ⟨[7] ++ ([8] ++ []), fun j δ G' => ∃ (pa ka : Nat → Addr) (st : NSt) (y7 y8 y9 y10 y11 : Option Dt), δ = [some (.obj f.t), some (.obj f.g), some (.dat (ruleD f.A.length f.rl)), some (.dat (.list (f.ks.map .str))), some (.dat (.list (f.hon.map .bool))), some (.dat (.list (f.reps.map rpD))), some (.dat (.int 1)), y7, y8, y9, y10, y11] ∧
      NBi K { f with pa := pa, ka := ka } st G' j ∧ ∀ x, G x = some .nums → G' x = some .nums, ⟨f.pa, f.ka, st, none, none, none, none, none, rfl, B0, nu2⟩, ?_, ?_⟩
    · rintro j x δ' G' hx ⟨pa, ka, st, y7, y8, y9, y10, y11, rfl, B, nu⟩
      obtain ⟨q, hq, rfl⟩ := numD_get.mp hx
      obtain ⟨r, hr, rfl⟩ := map_get hq
      have hj : j < f.A.length := by rw [← hrl]; exact (List.getElem?_eq_some_iff.mp hr).1
      have hrp : f.rp (j + 1) = r := by
        unfold NF.rp
        rw [List.getD_eq_getElem?_getD, Nat.add_sub_cancel, hr]; rfl
      have hhb : (f.hon.map PyData.bool)[j + 1]? = some (.bool (f.hb (j + 1))) := by
        rw [List.getElem?_map, NF.hb_at (by omega)]; rfl
      have hk0 : f.ks[j + 1]? = some (f.ks.getD (j + 1) "") := by
        rw [List.getD_eq_getElem?_getD, List.getElem?_eq_getElem (by omega)]; rfl
      have hkk : (f.ks.map PyData.str)[j + 1]? = some (.str (f.ks.getD (j + 1) "")) := by
        rw [List.getElem?_map, hk0]; rfl
      have ha : f.A[j]? = some f.A[j] := List.getElem?_eq_getElem hj
      obtain ⟨o1, o2, o3, o4, o5⟩ := hro _ _ _ hr ha
      have b1 := B.tt
      have b2 := B.pt
      fail "x"
      refine dIx_l (atI_int (k := j + 1) (by omega) hhb) ?_
      cases hb : f.hb (j + 1) with
      | false =>
        fail "x"
        exact ⟨pa, ka, _, _, _, _, _, _, rfl, B.skip hb ⟨0, none, none, none, []⟩ ⟨rfl, rfl, rfl, rfl⟩, nu⟩
      | true =>
        fail "x"
        refine we_makeK god_app ?_
        fail "x"
        refine dIx_l (atI_int (k := j + 1) (by omega) hkk) ?_
        fail "x"
        intro x hx2
        have ne : ∀ {y : Addr} {o : GO}, G' y = some o → y ≠ x := fun e => neG_none e hx2
        refine ⟨_, _, _, _, _, _, _, _, _, _, rfl, NF.pfx { f with pa := pa, ka := ka } x 0 (j + 1), st.cs, st.sg, rfl, updG_same, rfl, rfl, rfl, rfl, rfl, congrArg (fun i => Dt.dat (.int i)) (show ((j : Nat) : Int) + 1 = ((j + 1 : Nat) : Int) by omega), ?_, ?_, ?_, ?_, B.N.other (ne B.N.nt) (ne B.N.hc) (ne B.N.hs), B.cs_, ?_, ?_, ?_, ?_, fun kp tn a b hab hkp hkx => ⟨rfl, ?_⟩⟩
        · show Dt.dat (.int r.1) = .dat (.int (f.rp (j + 1)).1)
          rw [hrp]
        · show Dt.dat (.str r.2.1) = .dat (.str (f.rp (j + 1)).2.1)
          rw [hrp]
        · show Dt.dat (rT r.2.2) = .dat (rT (f.rp (j + 1)).2.2)
          rw [hrp]
        · rw [updG_ne (ne B.gm)]; exact B.gm
        · exact ⟨hA, hR, hk0, hkl, Nat.le_add_left _ _, hj, by show PyData.strOk (f.rp (j + 1)).2.1 = true; rw [hrp]; exact o3, by show (f.rp (j + 1)).2.2 ∈ ticks; rw [hrp]; exact o4⟩
        · exact ⟨f.A[j], ha, by show 0 ≤ (f.rp (j + 1)).1; rw [hrp]; exact o1, by show (f.rp (j + 1)).1 < _; rw [hrp]; exact o2⟩
        · show (f.rp (j + 1)).2.2 ≠ (1, 1)
          rw [hrp]; exact o5
        · have := B.cl
          omega
        obtain ⟨_, hkp⟩ := fresh_updG hkp
        have x1 : f.t ≠ x := ne B.tt
        have x2 : f.t ≠ kp := neG_none B.tt hkp
        have x3 : f.t ≠ f.c := neG B.tt B.N.hc kIL
        have x4 : f.pt ≠ x := ne B.pt
        have x5 : f.pt ≠ kp := neG_none B.pt hkp
        have x6 : f.pt ≠ f.c := neG B.pt B.N.hc kDL
        dsimp only [NF.pfx]
        dsimp only [netO] at b1
        fail "x"
        refine ⟨f.pt, _, _, _, rfl, (by fail "h"), rfl, rfl, ?_, ?_⟩
        · unfold pdG
          rw [List.length_map]
          have := hons_len (hb := f.hb) (i := j)
          show (hons f.hb j).length < _
          omega
        rw [show ((j : Nat) : Int) + 1 = ((j + 1 : Nat) : Int) by omega]
        have hadd := B.add (x := x) (kp := kp) (cs' := addc (.terms a b) st.cs) (q := ⟨tn, none, none, none, []⟩) hb hx2 hkp hkx (addc_ok B.N.okc hab) addc_len ⟨rfl, rfl, rfl, rfl⟩
        have hput := put_pd (pa := pa) (x := x) hb
        have hck : f.c ≠ kp := neG_none B.N.hc hkp
        have hcx : f.c ≠ x := ne B.N.hc
        refine ⟨_, _, _, _, _, _, _, _, rfl, phi_eq (Φ := fun _ G => NBi K _ _ G _) (d := .dat .none) hadd (congrArg (fun z => updG _ f.pt (.dic z)) hput.symm), ?_⟩
        refine nums_upd (nums_upd (nums_new (nums_upd (nums_new nu hx2) ((updG_ne hcx).trans B.N.hc) kNL) ((updG_ne (Ne.symm hck)).trans ((updG_ne hkx).trans hkp))) ((updG_ne hkx.symm).trans ((updG_ne (Ne.symm hcx)).trans updG_same)) kNI) (u := .dic (pdG pa (hons f.hb j))) (by fail "h") kND
    · rintro δ' G' ⟨pa, ka, st, y7, y8, y9, y10, y11, rfl, B, nu⟩
      rw [numD_length, List.length_map, hrl] at B
      exact k { f with pa := pa, ka := ka } st G' rfl rfl rfl rfl rfl rfl (B.nok hA hR hks hkl hhl hrl hro) B.done B.inv ⟨by have := B.cl; show _ ≤ 10; have h5 : f.A.length ≤ 3 := h3; have h6 : st.cs.length ≤ f.A.length + 1 := this; omega, by rw [B.sg0]; exact Nat.zero_le _, fun m hm => by rw [(B.fr m hm.2.1).2.2.2]; exact Nat.zero_le _⟩ (fun m hm => (B.fr m hm.2.1).2.2.1) nu
end DL
/-! (Dl18) -/
namespace DL
open PySem PySem.Spec PyProof.Rows L2
section
variable {P : Program} {w : World} {K : PySem.W.Frag} {mg : Str → Option Value} {base : Heap}
theorem o_Net_initK (e : Ev P w K mg base) : OkK P w K mg base 20 (He.ma K (He.ga K "Net") "__init__") ["self", "game", "rule", "keys", "honest", "reports", "round_number"] 4 ["honest", "reports"] (fun vs zs => vs ++ (zs ++ [V.int 1])) (F_Net_init K) := by
  obtain ⟨fd, FD⟩ := e.d_Net_init
  exact okK0 FD (n_Net_init e FD) 4 ["honest", "reports"] [("round_number", V.int 1)] (fun vs mz zs => vs ++ (zs ++ mz)) (by simp) (by simp)
    (fun h1 h2 h3 => h1.append (h3.append h2))
    fun _ _ _ _ _ _ us mv ws h1 h2 h3 => match us, mv, ws, h1, h2, h3 with | [_, _, _, _], [_], [_, _], _, _, _ => ⟨_, _, _, _, _, _, rfl, rfl, rfl⟩
theorem god_Net : GoD K (fun vs zs => vs ++ (zs ++ [V.int 1])) (fun ds es => ds ++ (es ++ [.dat (.int 1)])) := fun B H vs zs ds es h1 h2 =>
  Paired.append h1 (Paired.append h2 (.cons (.int _) .nil))
end
end DL
/-! (La) -/
namespace DL
open PySem PySem.Spec PyProof.Rows L2

local macro_rules | `(tactic| fail "l") => `(tactic| first | exact Nat.le_of_ble_eq_true rfl | omega | (simp only [List.length_map, List.length_append, List.length_cons, List.length_nil]; omega))
local macro_rules | `(tactic| fail "aS") => `(tactic| with_reducible first | refine ws_seq ?_ | refine ws_if ?_ | refine ws_ret ?_ | refine ws_asg ?_ | refine ws_drop ?_ | refine ws_next ?_ | refine ws_retN ?_ | refine ws_fldF ?_ | refine ws_fldN ?_ | refine ws_dput ?_ | refine ws_asgT5 ?_ | refine ws_asgT4 ?_ | refine ws_asgT3 ?_)
local macro_rules | `(tactic| fail "aO") => `(tactic| with_reducible first | refine we_ix ?_ | refine we_II ?_ | refine we_IB ?_ | refine we_eq ?_ | refine we_ne ?_ | refine we_add ?_ | refine we_addG ?_ | refine we_IC ?_ | refine we_eqD ?_ | refine we_neD ?_ | refine we_inD ?_ | refine we_notInD ?_ | refine we_in ?_ | refine we_inSg ?_)
local macro_rules | `(tactic| fail "aC") => `(tactic| with_reducible first | refine we_len ?_ | refine we_lenD ?_ | refine we_all ?_ | refine we_any ?_ | refine we_int1 ?_ | refine we_strI ?_ | refine we_listOf ?_ | refine we_tupOf ?_ | refine we_sum ?_ | refine we_abs ?_ | refine we_min2 ?_ | refine we_gcd ?_)
local macro_rules | `(tactic| fail "aE") => `(tactic| first
  | ((with_reducible apply we_var); rfl)
  | with_reducible refine we_int ?_ | with_reducible refine we_str ?_ | with_reducible refine we_non ?_ | with_reducible refine we_bl ?_
  | ((with_reducible show WE _ (tOp _ _ _) _ _ _); fail "aO")
  | ((with_reducible show WE _ (tCB _ _) _ _ _); fail "aC")
  | with_reducible refine we_call ?_ | with_reducible refine we_fld ?_ | with_reducible refine we_meth' ?_ | with_reducible refine we_tup ?_ | with_reducible refine we_isi (by decide) ?_ | with_reducible refine we_lst ?_ | with_reducible refine we_lstG ?_
  | with_reducible refine we_and ?_ | with_reducible refine we_or ?_ | with_reducible refine we_not ?_ | with_reducible refine we_chainI ?_ | with_reducible refine we_isN ?_ | with_reducible refine we_notN ?_ | with_reducible refine we_append ?_ | with_reducible refine we_extend ?_ | with_reducible refine we_index ?_
  | with_reducible refine we_slL ?_ | with_reducible refine we_slT ?_ | with_reducible refine we_dget ?_ | with_reducible refine we_din ?_ | with_reducible refine we_dnotin ?_ | with_reducible refine we_dictG ?_ | with_reducible refine we_prop ?_ | with_reducible refine we_join ?_ | with_reducible refine we_neg ?_ | with_reducible refine we_lenSet ?_)
local macro_rules | `(tactic| fail "aT") => `(tactic| with_reducible first | refine wt_val ?_ | refine wt_tst ?_ | refine wt_and ?_ | refine wt_or ?_ | refine wt_not ?_ | refine wt_yes ?_)
local macro_rules | `(tactic| fail "aD") => `(tactic| with_reducible first | refine dEq_ii ?_ | refine dEq_ss ?_ | refine dEq_bb ?_ | refine dEq_nn ?_ | refine dEq_ni ?_ | refine dEq_in ?_ | refine dAdd_ii ?_ | refine dInt_i ?_ | refine dInt_b ?_ | refine dLen_l ?_ | refine dLen_t ?_)
local macro_rules | `(tactic| fail "a") => `(tactic| first
  | ((with_reducible show WE _ _ _ _ _); fail "aE")
  | ((with_reducible show WA _ _ _ _ _); (with_reducible first | refine wa_cons ?_ | refine wa_nil ?_))
  | ((with_reducible show WS _ _ _ _ _); fail "aS")
  | ((with_reducible show WT _ _ _ _ _); fail "aT")
  | ((with_reducible show WG _ _ _ _ _ _ _); first | with_reducible refine wg_name ?_ | ((with_reducible refine wg_tup ?_ ?_); rfl))
  | ((with_reducible show WGs _ _ _ _ _ _ _); (with_reducible first | refine wgs_cons ?_ | refine wgs_nil ?_))
  | ((with_reducible show WO _ _ _ _ _); (with_reducible first | refine wo_none ?_ | refine wo_some ?_))
  | ((with_reducible show dIx _ _ _ _); first | ((with_reducible apply dIx_t); rfl) | ((with_reducible apply dIx_l); rfl))
  | ((with_reducible show dAdd _ _ _ _); first | with_reducible refine dAdd_ii ?_ | ((with_reducible refine dAdd_ll ?_ ?_); fail "l") | ((with_reducible apply dAdd_ol); (fail "h"); (fail "l")) | ((with_reducible refine dAdd_tt ?_ ?_); fail "l") | ((with_reducible refine dAdd_ss ?_ ?_); fail "l"))
  | fail "aD")
local macro_rules | `(tactic| fail "e") => `(tactic| ((fail_if_success (with_reducible show ∃ _ : NF, _)); (fail_if_success (with_reducible show ∃ _ : PF, _)); (fail_if_success (with_reducible show ∃ _ : DF, _)); (first | with_reducible refine ⟨_, _, rfl, rfl, ?_⟩ | with_reducible refine ⟨_, rfl, ?_⟩ | with_reducible refine ⟨rfl, ?_⟩ | with_reducible refine ⟨_, _, rfl, ?_⟩ | with_reducible refine ⟨_, _, _, rfl, ?_⟩ | with_reducible refine ⟨_, _, _, _, rfl, ?_⟩ | with_reducible refine ⟨_, _, _, _, _, rfl, ?_⟩ | ((refine ⟨?l, ?_⟩); (case l => (with_reducible show _ < 1000000); fail "l")) | ((refine ⟨?l, ?_⟩); (case l => (with_reducible show _ ≤ 1000000); fail "l")))))
local macro_rules | `(tactic| fail "g") => `(tactic| ((funext gb; simp only [updG, dropG]; repeat' split) <;> first | rfl | (exfalso; simp_all; done) | (simp_all; done)))
local macro_rules | `(tactic| fail "q") => `(tactic| first | assumption | exact Ne.symm (by assumption))
local macro_rules | `(tactic| fail "h") => `(tactic| first | assumption | exact updG_same | ((rw [updG_ne]); (fail "h"); (fail "q")))
local macro_rules | `(tactic| fail "z") => `(tactic| first | rfl | exact ⟨rfl, rfl⟩ | exact ⟨_, rfl, rfl⟩ | exact ⟨_, _, rfl, rfl⟩ | exact ⟨_, _, _, rfl, rfl⟩ | assumption)
local macro_rules | `(tactic| fail "f") => `(tactic| first
  | refine ⟨_, _, rfl, .inr (.inl rfl), ?_⟩ | refine ⟨_, _, rfl, .inl rfl, ?_⟩
  | (refine ⟨_, ?ds, rfl, .inr (.inr ⟨_, rfl, ?h1⟩), ?_⟩; (case h1 => fail "h"))
  | (refine ⟨_, ?ds, rfl, .inr ⟨_, rfl, ?h1⟩, ?_⟩; (case h1 => fail "h"))
  | ((with_reducible refine ⟨_, ?ds, ?d, rfl, ?h1, ?h2, ?_⟩); (case h1 => fail "h"); (case h2 => rfl))
  | ((with_reducible refine ⟨_, ?ds, rfl, ?h1, ?_⟩); (case h1 => fail "h"))
  | ((with_reducible refine ⟨_, ?ns, ?ds, rfl, ?h1, ?h2, ?_⟩); (case h1 => fail "h"); (case h2 => decide))
  | ((with_reducible refine ⟨_, ?ns, ?ds, rfl, (?h1 : _ = some (GO.ins _ ?ns ?ds)), ?_⟩); (case h1 => fail "h"))
  | ((with_reducible refine ⟨_, rfl, ⟨?ys, ?h1⟩, ?_⟩); (case h1 => fail "h"))
  | ((with_reducible refine ⟨_, ?xs, rfl, ?h1, ?h2, ?_⟩); (case h1 => fail "h"); (case h2 => omega)))
local macro_rules | `(tactic| fail "y") => `(tactic| first
  | ((with_reducible refine ⟨fun _ => ?_, fun hbb => ?nope⟩); (case nope => first | exact Bool.noConfusion (show true = false from hbb) | exact Bool.noConfusion (show false = true from hbb) | exact absurd (of_decide_eq_true hbb) (by omega) | exact absurd (of_decide_eq_false hbb) (by omega) | (simp at hbb; done) | (simp at hbb; omega)))
  | ((with_reducible refine ⟨fun hbb => ?nope, fun _ => ?_⟩); (case nope => first | exact Bool.noConfusion (show true = false from hbb) | exact Bool.noConfusion (show false = true from hbb) | exact absurd (of_decide_eq_true hbb) (by omega) | exact absurd (of_decide_eq_false hbb) (by omega) | (simp at hbb; done) | (simp at hbb; omega))))
local macro_rules | `(tactic| fail "w") => `(tactic| repeat fail "a")
local macro_rules | `(tactic| fail "x") => `(tactic| repeat (first | fail "a" | fail "f" | fail "e" | fail "y"))

/-! ### the law's own functions -/
section
variable {K : PySem.W.Frag} {δ : De} {G : GH} {Φ : Dt → GH → Prop} {te : TE} {E : DE} {t1 t2 ts : TS} {g : TG} {wi : TI} {vs : List Nat} {tt : TT}
theorem WS.nx {N N' : De → GH → Prop} (h : WS K ts δ G { E with nx := N }) (k : ∀ δ' G', N δ' G' → N' δ' G') : WS K ts δ G { E with nx := N' } := fun P σ H rr s D e =>
  h P σ H rr s D ⟨fun σ' δ' G' H' a b c n => e.nx σ' δ' G' H' a b c (k _ _ n), e.rt, e.bk, e.ct⟩
/-- a sequence, told what holds between -/
theorem ws_cut (I : De → GH → Prop) (h : WS K t1 δ G { E with nx := I }) (k : ∀ δ' G', I δ' G' → WS K t2 δ' G' E) : WS K (tSeq t1 t2) δ G E := ws_seq (WS.nx h k)
/-- a tracked list is data from here on -/
theorem ws_letS {i : Nat} {a : Addr} {xs : List PyData} (h : δ[i]? = some (some (.obj a))) (g : G a = some (.lst xs)) (k : WS K ts (δ.set i (some (.dat (.list xs)))) (dropG G a) E) : WS K ts δ G E := fun P σ H r s D e => by
  obtain ⟨v, e1, z⟩ := s.2 i _ h
  cases z
  obtain ⟨vs, q1, w⟩ := r.ob a _ g
  have st : Stab G H (dropG G a) H := .drop
  have vr : VR K (Bk P (dropG G a)) H (.ref a) (.dat (.list xs)) := .lst (fun b => by
    rcases b with b | ⟨o, b⟩
    · rw [(r.pr a b).1] at g; cases g
    · rw [dropG_same] at b; cases b) (.inl q1) (st.dqA w)
  have s2 := (st.sr s).set vr i
  have es : σ.set i (some (.ref a)) = σ := by
    obtain ⟨hi, e2⟩ := List.getElem?_eq_some_iff.mp e1
    rw [← e2, List.set_getElem_self]
  rw [es] at s2
  exact k P σ H r.drop s2 D (e.later st)
/-- [e for x in xs if t], the items told by what they stand for -/
theorem we_filtL (h : WI K wi δ G fun l G1 => ∃ (ts : List Nat) (α β : Type) (xs : List α) (f : α → PyData) (φ : α → Option β) (h : β → PyData), l = xs.map f ∧ (∀ j ∈ ts, j ∈ vs) ∧ xs.length ≤ 1000000 ∧
      (∀ a ∈ xs, WG K g ts (.dat (f a)) (wipeD δ vs) G1 fun δ2 G2 => WT K tt δ2 G2 fun b G3 => (b = true → WE K te δ2 G3 fun z G4 => ∃ y, φ a = some y ∧ z = .dat (h y) ∧ G4 = G1) ∧ (b = false → φ a = none ∧ G3 = G1)) ∧
      Φ (.dat (.list ((xs.filterMap φ).map h))) G1) : WE K (tLc wi g tt te vs) δ G Φ :=
  we_lc fun P σ H r s Q q => h P σ H r s Q fun J l G1 H1 s1 r1 wk ⟨ts, α, β, xs, f, φ, h, e, h1, h2, h4, h5⟩ => q J l G1 H1 s1 r1 wk
    ⟨ts, fun i acc G' => acc = ((xs.take i).filterMap φ).map h ∧ G' = G1, by rw [e, List.length_map]; exact h2, h1, ⟨rfl, rfl⟩, fun i x acc G' hx hl ⟨e1, e2⟩ => by
      subst e; subst e1; subst e2
      obtain ⟨a, ha, rfl⟩ := map_get hx
      intro P σ H v r s d Q q
      refine h4 a (List.mem_of_getElem? ha) P σ H v r s d Q fun σ' δ' G' H' s1 r1 z ag k => q σ' δ' G' H' s1 r1 z ag (k.mono fun b G3 ⟨k1, k2⟩ => ⟨fun e => (k1 e).mono fun z G4 ⟨y, e2, e3, e1⟩ => ⟨_, e3, ?_, e1⟩, fun e => ⟨?_, (k2 e).2⟩⟩)
      · rw [take_at ha, List.filterMap_append, List.filterMap_cons, e2, List.map_append]; rfl
      · rw [take_at ha, List.filterMap_append, List.filterMap_cons, (k2 e).1]; simp,
    fun acc G' _ ⟨e1, e2⟩ => by
      subst e; subst e1; subst e2
      rw [List.length_map, List.take_length]
      exact h5⟩
end
abbrev F__law_draws : FT := F1 fun x G Φ => ∃ ns : List Int, x = .dat (.list (ns.map .int)) ∧ ns.length ≤ 63 ∧ ∀ d, G d = none → Φ (.obj d) (updG G d .nums)
abbrev F__law_take : FT := F2 fun x y G Φ => ∃ (d : Addr) (b : Int), x = .obj d ∧ G d = some .nums ∧ y = .dat (.int b) ∧ 0 < b ∧ ∀ r : Nat, (r : Int) < b → Φ (.dat (.int ((r : Nat) : Int))) G
abbrev F__law_same : FT := F2 fun x y G Φ => ∃ i j : Int, x = .dat (.int i) ∧ y = .dat (.int j) ∧ Φ (.dat (.bool (decide (i = j)))) G
abbrev F__law_game : FT := F1 fun x G Φ => ∃ d, x = .obj d ∧ G d = some .nums ∧ ∀ A, okG A → Φ (.dat (.list (A.map agD))) G
abbrev F__law_profiles : FT := F1 fun x G Φ => ∃ A, x = .dat (.list (A.map agD)) ∧ okG A ∧ Φ (.dat (.list ((profs (msOf A)).map prD))) G
abbrev F__law_lot : FT := F1 fun x G Φ => ∃ d, x = .obj d ∧ G d = some .nums ∧ ∀ l ∈ lots6, Φ (.dat (.list (l.map rT))) G
abbrev F__law_rule : FT := F2 fun x y G Φ => ∃ d A, x = .obj d ∧ G d = some .nums ∧ y = .dat (.list (A.map agD)) ∧ okG A ∧ ∀ rl, okR A rl → Φ (.dat (ruleD A.length rl)) G
abbrev F__law_reports : FT := F2 fun x y G Φ => ∃ d A, x = .obj d ∧ G d = some .nums ∧ y = .dat (.list (A.map agD)) ∧ okG A ∧ ∀ reps : List Rp, reps.length = A.length → RpOk A reps → Φ (.dat (.list (reps.map rpD))) G
abbrev F__law_copied : FT := F1 fun x G Φ => ∃ A, x = .dat (.list (A.map agD)) ∧ okG A ∧ Φ (.dat (.list (A.map agD))) G

theorem sc__law_take : FnScope ["_law_draws_here", "_law_bound"] ["_law_draws_here", "_law_bound"] (defScope (top 86)) := ⟨rfl, rfl, rfl, by decide +kernel, rfl, by decide +kernel, by decide +kernel⟩
theorem n__law_take {P : Program} {w : World} {K : PySem.W.Frag} {mg : Str → Option Value} {base : Heap} {fd : FuncData} {dvs : List V} {kws : List (Str × V)} (e : Ev P w K mg base) (FD : FunD K "_law_take" "_law_take" (defArgs (top 86)) (defBody (top 86)) (defScope (top 86)) dvs kws (He.ga K "_law_take") fd) : FnOk P w K mg base CX0 1 (He.ga K "_law_take") fd ["_law_draws_here", "_law_bound"] (spD K F__law_take) := by
  have S := sc__law_take
  refine okD FD S (fun _ _ _ h => len2 h) fun cdv A outer s H E hr => ⟨_, (pss_cons (ps_if (pt_cmpR op_eq (pe_callB (k_len K) rfl e.x_len (by decide +kernel) (pa_cons (pv 0) pa_nil)) pe_int (nomark _)) (pss_one (ps_ret pe_int)) pss_nil)
      (pss_one (ps_ret (pe_op op_mod (pe_callTy call_intU rfl e.x_int (by decide +kernel) (pa_cons (k_bm0 K PySem.F.plainAttrs_list PySem.F.slot_list_pop PySem.F.type_list_pop mt_pop (pv 0)) pa_nil)) (pv 1))))), ?_⟩
  intro ds G Φ h
  try dsimp only [cxK, blkK]
  obtain ⟨x, y, rfl, d, b, rfl, hd, rfl, hb, k⟩ := h
  refine ws_closeN (a := d) (ws_openN hd fun ns => ?_)
  have h1 : updG G d (.lst (ns.map PyData.int)) d = some (.lst (ns.map PyData.int)) := updG_same
  fail "x"
  refine dLen_o h1 ?_
  fail "x"
  rw [List.length_map]
  refine ⟨fun hb0 => ?_, fun hb0 => ?_⟩
  · fail "x"
    refine ⟨ns, h1, ?_⟩
    rw [updG_updG, updG_self hd]
    exact k 0 hb
  · have hne : ns ≠ [] := fun z => by
      subst z
      simp at hb0
    obtain ⟨ys, y, rfl⟩ : ∃ ys y, ns = ys ++ [y] := ⟨ns.dropLast, ns.getLast hne, (List.dropLast_concat_getLast hne).symm⟩
    have e1 : (ys ++ [y]).map PyData.int = ys.map PyData.int ++ [.int y] := by rw [List.map_append]; rfl
    rw [e1] at h1 ⊢
    fail "x"
    refine we_popL ?_
    fail "x"
    refine ⟨d, _, _, rfl, h1, ?_⟩
    fail "x"
    refine ⟨hb, ?_⟩
    refine ⟨ys, updG_same, ?_⟩
    rw [updG_updG, updG_updG, updG_self hd, show y % b = (((y % b).toNat : Nat) : Int) from (Int.toNat_of_nonneg (Int.emod_nonneg _ (by omega))).symm]
    exact k _ (by rw [Int.toNat_of_nonneg (Int.emod_nonneg _ (by omega))]; exact Int.emod_lt_of_pos _ hb)
theorem o__law_take {P : Program} {w : World} {K : PySem.W.Frag} {mg : Str → Option Value} {base : Heap} (e : Ev P w K mg base) : OkD P w K mg base 1 (He.ga K "_law_take") ["_law_draws_here", "_law_bound"] [] F__law_take := by
  obtain ⟨fd, FD⟩ := e.d__law_take
  exact okN FD (n__law_take e FD) fun _ _ _ _ _ _ us hl => match us, hl with | [_, _], _ => rfl
theorem sc__law_same : FnScope ["_law_value", "_law_due", "_law_k"] ["_law_value", "_law_due"] (defScope (top 87)) := ⟨rfl, rfl, rfl, by decide +kernel, rfl, by decide +kernel, by decide +kernel⟩
theorem n__law_same {P : Program} {w : World} {K : PySem.W.Frag} {mg : Str → Option Value} {base : Heap} {fd : FuncData} {dvs : List V} {kws : List (Str × V)} (e : Ev P w K mg base) (FD : FunD K "_law_same" "_law_same" (defArgs (top 87)) (defBody (top 87)) (defScope (top 87)) dvs kws (He.ga K "_law_same") fd) : FnOk P w K mg base CX0 1 (He.ga K "_law_same") fd ["_law_value", "_law_due"] (spD K F__law_same) := by
  have S := sc__law_same
  refine okD FD S (fun _ _ _ h => len2 h) fun cdv A outer s H E hr => ⟨_, (pss_cons (ps_if (PW.pt (pw_or (pt_val (k_isi K (T := "tuple") rfl e.x_isinstance rfl e.x_tuple (by decide +kernel) (pv 1))) (pw_or1 (pt_val (k_isi K (T := "list") rfl e.x_isinstance rfl e.x_list (by decide +kernel) (pv 1)))))) pss_never pss_nil)
      (pss_cons (ps_if (pt_cmpR op_ne (k_isi K (T := "bool") rfl e.x_isinstance rfl e.x_bool (by decide +kernel) (pv 1)) (k_isi K (T := "bool") rfl e.x_isinstance rfl e.x_bool (by decide +kernel) (pv 0)) (nomark _)) (pss_one (ps_ret pe_bl)) pss_nil)
      (pss_cons (ps_if (PW.pt (pw_or (pt_cmpR op_ne (k_isi K (T := "int") rfl e.x_isinstance rfl e.x_int (by decide +kernel) (pv 1)) (k_isi K (T := "int") rfl e.x_isinstance rfl e.x_int (by decide +kernel) (pv 0)) (nomark _)) (pw_or1 (pt_cmpR op_ne (k_isi K (T := "str") rfl e.x_isinstance rfl e.x_str (by decide +kernel) (pv 1)) (k_isi K (T := "str") rfl e.x_isinstance rfl e.x_str (by decide +kernel) (pv 0)) (nomark _))))) (pss_one (ps_ret pe_bl)) pss_nil)
      (pss_one (ps_ret (pe_cmpR op_eq (pv 0) (pv 1) (nomark _))))))), ?_⟩
  intro ds G Φ h
  try dsimp only [cxK, blkK]
  obtain ⟨x, y, rfl, i, j, rfl, rfl, k⟩ := h
  fail "x"
  exact k
theorem o__law_same {P : Program} {w : World} {K : PySem.W.Frag} {mg : Str → Option Value} {base : Heap} (e : Ev P w K mg base) : OkD P w K mg base 1 (He.ga K "_law_same") ["_law_value", "_law_due"] [] F__law_same := by
  obtain ⟨fd, FD⟩ := e.d__law_same
  exact okN FD (n__law_same e FD) fun _ _ _ _ _ _ us hl => match us, hl with | [_, _], _ => rfl
theorem sc__law_copied : FnScope ["_law_agents", "_law_row", "_law_kind"] ["_law_agents"] (defScope (top 93)) := ⟨rfl, rfl, rfl, by decide +kernel, rfl, by decide +kernel, by decide +kernel⟩
theorem n__law_copied {P : Program} {w : World} {K : PySem.W.Frag} {mg : Str → Option Value} {base : Heap} {fd : FuncData} {dvs : List V} {kws : List (Str × V)} (e : Ev P w K mg base) (FD : FunD K "_law_copied" "_law_copied" (defArgs (top 93)) (defBody (top 93)) (defScope (top 93)) dvs kws (He.ga K "_law_copied") fd) : FnOk P w K mg base CX0 1 (He.ga K "_law_copied") fd ["_law_agents"] (spD K F__law_copied) := by
  have S := sc__law_copied
  refine okD FD S (fun _ _ _ h => len1 h) fun cdv A outer s H E hr => ⟨_, (pss_one (ps_ret (pe_lc (own := [("_law_row", 1)]) rfl S.nd (k_ilist K (pv 0)) (blkOk_by (by rfl)) (fun _ _ _ _ _ => (pg_name (i := 1) S.nd rfl (by first | exact Or.inl rfl | exact Or.inr rfl))) (fun _ _ _ _ _ => pts_nil) (fun _ _ _ _ _ => (pe_tup (pa_cons (pe_ix (k_ix K) (pv 1) pe_int (fun _ _ => rfl)) (pa_cons (pe_lc (own := [("_law_kind", 2)]) rfl S.nd (k_ilist K (pe_ix (k_ix K) (pv 1) pe_int (fun _ _ => rfl))) (blkOk_by (by rfl)) (fun _ _ _ _ _ => (pg_name (i := 2) S.nd rfl (by first | exact Or.inl rfl | exact Or.inr rfl))) (fun _ _ _ _ _ => pts_nil) (fun _ _ _ _ _ => (pe_tup (pa_cons (pe_ix (k_ix K) (pv 2) pe_int (fun _ _ => rfl)) (pa_cons (pe_ix (k_ix K) (pv 2) pe_int (fun _ _ => rfl)) (pa_cons (pe_ix (k_ix K) (pv 2) pe_int (fun _ _ => rfl)) (pa_cons (pe_callTy (k_list K) rfl e.x_list (by decide +kernel) (pa_cons (pe_ix (k_ix K) (pv 2) pe_int (fun _ _ => rfl)) pa_nil)) pa_nil))))))) pa_nil))))))), ?_⟩
  intro ds G Φ h
  try dsimp only [cxK, blkK]
  obtain ⟨x, rfl, A, rfl, hA, k⟩ := h
  have h3 := hA.n3
  fail "x"
  refine we_mapL (wi_list ?_)
  fail "x"
  refine ⟨[1], Ag, A, agD, agD, rfl, by decide, by omega, fun a ha => ?_, ?_⟩
  · have ak2 := hA.k2 a ha
    fail "x"
    refine we_mapL (wi_list ?_)
    fail "x"
    refine ⟨[2], Kd, a.2, kdD, kdD, rfl, by decide, by omega, fun b hb => ?_, ?_⟩
    · fail "x"
      rfl
    · fail "x"
      rfl
  exact k
theorem o__law_copied {P : Program} {w : World} {K : PySem.W.Frag} {mg : Str → Option Value} {base : Heap} (e : Ev P w K mg base) : OkD P w K mg base 1 (He.ga K "_law_copied") ["_law_agents"] [] F__law_copied := by
  obtain ⟨fd, FD⟩ := e.d__law_copied
  exact okN FD (n__law_copied e FD) fun _ _ _ _ _ _ us hl => match us, hl with | [_], _ => rfl
end DL
/-! (Lb) -/
namespace DL
open PySem PySem.Spec PyProof.Rows L2

local macro_rules | `(tactic| fail "l") => `(tactic| first | exact Nat.le_of_ble_eq_true rfl | omega | (simp only [List.length_map, List.length_append, List.length_cons, List.length_nil]; omega))
local macro_rules | `(tactic| fail "aS") => `(tactic| with_reducible first | refine ws_seq ?_ | refine ws_if ?_ | refine ws_ret ?_ | refine ws_asg ?_ | refine ws_drop ?_ | refine ws_next ?_ | refine ws_retN ?_ | refine ws_fldF ?_ | refine ws_fldN ?_ | refine ws_dput ?_ | refine ws_asgT5 ?_ | refine ws_asgT4 ?_ | refine ws_asgT3 ?_)
local macro_rules | `(tactic| fail "aO") => `(tactic| with_reducible first | refine we_ix ?_ | refine we_II ?_ | refine we_IB ?_ | refine we_eq ?_ | refine we_ne ?_ | refine we_add ?_ | refine we_addG ?_ | refine we_IC ?_ | refine we_eqD ?_ | refine we_neD ?_ | refine we_inD ?_ | refine we_notInD ?_ | refine we_in ?_ | refine we_inSg ?_)
local macro_rules | `(tactic| fail "aC") => `(tactic| with_reducible first | refine we_len ?_ | refine we_lenD ?_ | refine we_all ?_ | refine we_any ?_ | refine we_int1 ?_ | refine we_strI ?_ | refine we_listOf ?_ | refine we_tupOf ?_ | refine we_sum ?_ | refine we_abs ?_ | refine we_min2 ?_ | refine we_gcd ?_)
local macro_rules | `(tactic| fail "aE") => `(tactic| first
  | ((with_reducible apply we_var); rfl)
  | with_reducible refine we_int ?_ | with_reducible refine we_str ?_ | with_reducible refine we_non ?_ | with_reducible refine we_bl ?_
  | ((with_reducible show WE _ (tOp _ _ _) _ _ _); fail "aO")
  | ((with_reducible show WE _ (tCB _ _) _ _ _); fail "aC")
  | with_reducible refine we_call ?_ | with_reducible refine we_fld ?_ | with_reducible refine we_meth' ?_ | with_reducible refine we_tup ?_ | with_reducible refine we_isi (by decide) ?_ | with_reducible refine we_lst ?_ | with_reducible refine we_lstG ?_
  | with_reducible refine we_and ?_ | with_reducible refine we_or ?_ | with_reducible refine we_not ?_ | with_reducible refine we_chainI ?_ | with_reducible refine we_isN ?_ | with_reducible refine we_notN ?_ | with_reducible refine we_append ?_ | with_reducible refine we_extend ?_ | with_reducible refine we_index ?_
  | with_reducible refine we_slL ?_ | with_reducible refine we_slT ?_ | with_reducible refine we_dget ?_ | with_reducible refine we_din ?_ | with_reducible refine we_dnotin ?_ | with_reducible refine we_dictG ?_ | with_reducible refine we_prop ?_ | with_reducible refine we_join ?_ | with_reducible refine we_neg ?_ | with_reducible refine we_lenSet ?_)
local macro_rules | `(tactic| fail "aT") => `(tactic| with_reducible first | refine wt_val ?_ | refine wt_tst ?_ | refine wt_and ?_ | refine wt_or ?_ | refine wt_not ?_ | refine wt_yes ?_)
local macro_rules | `(tactic| fail "aD") => `(tactic| with_reducible first | refine dEq_ii ?_ | refine dEq_ss ?_ | refine dEq_bb ?_ | refine dEq_nn ?_ | refine dEq_ni ?_ | refine dEq_in ?_ | refine dAdd_ii ?_ | refine dInt_i ?_ | refine dInt_b ?_ | refine dLen_l ?_ | refine dLen_t ?_)
local macro_rules | `(tactic| fail "a") => `(tactic| first
  | ((with_reducible show WE _ _ _ _ _); fail "aE")
  | ((with_reducible show WA _ _ _ _ _); (with_reducible first | refine wa_cons ?_ | refine wa_nil ?_))
  | ((with_reducible show WS _ _ _ _ _); fail "aS")
  | ((with_reducible show WT _ _ _ _ _); fail "aT")
  | ((with_reducible show WG _ _ _ _ _ _ _); first | with_reducible refine wg_name ?_ | ((with_reducible refine wg_tup ?_ ?_); rfl))
  | ((with_reducible show WGs _ _ _ _ _ _ _); (with_reducible first | refine wgs_cons ?_ | refine wgs_nil ?_))
  | ((with_reducible show WO _ _ _ _ _); (with_reducible first | refine wo_none ?_ | refine wo_some ?_))
  | ((with_reducible show dIx _ _ _ _); first | ((with_reducible apply dIx_t); rfl) | ((with_reducible apply dIx_l); rfl))
  | ((with_reducible show dAdd _ _ _ _); first | with_reducible refine dAdd_ii ?_ | ((with_reducible refine dAdd_ll ?_ ?_); fail "l") | ((with_reducible apply dAdd_ol); (fail "h"); (fail "l")) | ((with_reducible refine dAdd_tt ?_ ?_); fail "l") | ((with_reducible refine dAdd_ss ?_ ?_); fail "l"))
  | fail "aD")
local macro_rules | `(tactic| fail "e") => `(tactic| ((fail_if_success (with_reducible show ∃ _ : NF, _)); (fail_if_success (with_reducible show ∃ _ : PF, _)); (fail_if_success (with_reducible show ∃ _ : DF, _)); (first | with_reducible refine ⟨_, _, rfl, rfl, ?_⟩ | with_reducible refine ⟨_, rfl, ?_⟩ | with_reducible refine ⟨rfl, ?_⟩ | with_reducible refine ⟨_, _, rfl, ?_⟩ | with_reducible refine ⟨_, _, _, rfl, ?_⟩ | with_reducible refine ⟨_, _, _, _, rfl, ?_⟩ | with_reducible refine ⟨_, _, _, _, _, rfl, ?_⟩ | ((refine ⟨?l, ?_⟩); (case l => (with_reducible show _ < 1000000); fail "l")) | ((refine ⟨?l, ?_⟩); (case l => (with_reducible show _ ≤ 1000000); fail "l")))))
local macro_rules | `(tactic| fail "g") => `(tactic| ((funext gb; simp only [updG, dropG]; repeat' split) <;> first | rfl | (exfalso; simp_all; done) | (simp_all; done)))
local macro_rules | `(tactic| fail "q") => `(tactic| first | assumption | exact Ne.symm (by assumption))
local macro_rules | `(tactic| fail "h") => `(tactic| first | assumption | exact updG_same | ((rw [updG_ne]); (fail "h"); (fail "q")))
local macro_rules | `(tactic| fail "z") => `(tactic| first | rfl | exact ⟨rfl, rfl⟩ | exact ⟨_, rfl, rfl⟩ | exact ⟨_, _, rfl, rfl⟩ | exact ⟨_, _, _, rfl, rfl⟩ | assumption)
local macro_rules | `(tactic| fail "t") => `(tactic| ((with_reducible refine ⟨_, _, rfl, ?h1, rfl, ?h2, ?tk⟩); (case h1 => fail "h"); (case h2 => first | decide | omega)))
local macro_rules | `(tactic| fail "f") => `(tactic| first
  | fail "t"
  | refine ⟨_, _, rfl, .inr (.inl rfl), ?_⟩ | refine ⟨_, _, rfl, .inl rfl, ?_⟩
  | (refine ⟨_, ?ds, rfl, .inr (.inr ⟨_, rfl, ?h1⟩), ?_⟩; (case h1 => fail "h"))
  | (refine ⟨_, ?ds, rfl, .inr ⟨_, rfl, ?h1⟩, ?_⟩; (case h1 => fail "h"))
  | ((with_reducible refine ⟨_, ?ds, ?d, rfl, ?h1, ?h2, ?_⟩); (case h1 => fail "h"); (case h2 => rfl))
  | ((with_reducible refine ⟨_, ?ds, rfl, ?h1, ?_⟩); (case h1 => fail "h"))
  | ((with_reducible refine ⟨_, ?ns, ?ds, rfl, ?h1, ?h2, ?_⟩); (case h1 => fail "h"); (case h2 => decide))
  | ((with_reducible refine ⟨_, ?ns, ?ds, rfl, (?h1 : _ = some (GO.ins _ ?ns ?ds)), ?_⟩); (case h1 => fail "h"))
  | ((with_reducible refine ⟨_, rfl, ⟨?ys, ?h1⟩, ?_⟩); (case h1 => fail "h"))
  | ((with_reducible refine ⟨_, ?xs, rfl, ?h1, ?h2, ?_⟩); (case h1 => fail "h"); (case h2 => omega)))
local macro_rules | `(tactic| fail "y") => `(tactic| first
  | ((with_reducible refine ⟨fun _ => ?_, fun hbb => ?nope⟩); (case nope => first | exact Bool.noConfusion (show true = false from hbb) | exact Bool.noConfusion (show false = true from hbb) | exact absurd (of_decide_eq_true hbb) (by omega) | exact absurd (of_decide_eq_false hbb) (by omega) | (simp at hbb; done) | (simp at hbb; omega)))
  | ((with_reducible refine ⟨fun hbb => ?nope, fun _ => ?_⟩); (case nope => first | exact Bool.noConfusion (show true = false from hbb) | exact Bool.noConfusion (show false = true from hbb) | exact absurd (of_decide_eq_true hbb) (by omega) | exact absurd (of_decide_eq_false hbb) (by omega) | (simp at hbb; done) | (simp at hbb; omega))))
local macro_rules | `(tactic| fail "w") => `(tactic| repeat fail "a")
local macro_rules | `(tactic| fail "x") => `(tactic| repeat (first | fail "a" | fail "f" | fail "e" | fail "y"))
local macro_rules | `(tactic| fail "b") => `(tactic| first
  | ((with_reducible show WE _ _ _ _ _); fail "aE")
  | ((with_reducible show WA _ _ _ _ _); (with_reducible first | refine wa_cons ?_ | refine wa_nil ?_))
  | ((with_reducible show WT _ _ _ _ _); fail "aT")
  | ((with_reducible show WG _ _ _ _ _ _ _); first | with_reducible refine wg_name ?_ | ((with_reducible refine wg_tup ?_ ?_); rfl))
  | ((with_reducible show WGs _ _ _ _ _ _ _); (with_reducible first | refine wgs_cons ?_ | refine wgs_nil ?_))
  | ((with_reducible show WO _ _ _ _ _); (with_reducible first | refine wo_none ?_ | refine wo_some ?_))
  | ((with_reducible show dIx _ _ _ _); first | ((with_reducible apply dIx_t); rfl) | ((with_reducible apply dIx_l); rfl))
  | ((with_reducible show dAdd _ _ _ _); first | with_reducible refine dAdd_ii ?_ | ((with_reducible refine dAdd_ll ?_ ?_); fail "l") | ((with_reducible apply dAdd_ol); (fail "h"); (fail "l")) | ((with_reducible refine dAdd_tt ?_ ?_); fail "l") | ((with_reducible refine dAdd_ss ?_ ?_); fail "l"))
  | fail "aD")
local macro_rules | `(tactic| fail "v") => `(tactic| repeat (first | fail "b" | fail "f" | fail "e" | fail "y"))
local macro_rules | `(tactic| fail "n") => `(tactic| ((with_reducible refine ws_seq ?_); (fail "aS"); (fail "v")))

theorem cmul_r {i j : Int} (h : -(2 ^ 64) < j ∧ j < 2 ^ 64) : CMul i j := .inr h
theorem cpow18 : CPow 10 18 := ⟨by decide, by decide, by decide⟩
theorem cdiv_k {i j : Int} (h : 0 < j) (h2 : j < 2 ^ 64) : CDivW i j := cdivw h h2
theorem nums_app {ms : List Int} {i : Int} : ms.map PyData.int ++ [.int i] = (ms ++ [i]).map PyData.int := by rw [List.map_append]; rfl

theorem sc__law_draws : FnScope ["_law_script", "_law_draws_here", "_law_cell", "_law_number", "_law_first", "_law_k", "_law_seed"] ["_law_script"] (defScope (top 85)) := ⟨rfl, rfl, rfl, by decide +kernel, rfl, by decide +kernel, by decide +kernel⟩
theorem n__law_draws {P : Program} {w : World} {K : PySem.W.Frag} {mg : Str → Option Value} {base : Heap} {fd : FuncData} {dvs : List V} {kws : List (Str × V)} (e : Ev P w K mg base) (FD : FunD K "_law_draws" "_law_draws" (defArgs (top 85)) (defBody (top 85)) (defScope (top 85)) dvs kws (He.ga K "_law_draws") fd) : FnOk P w K mg base CX0 1 (He.ga K "_law_draws") fd ["_law_script"] (spD K F__law_draws) := by
  have S := sc__law_draws
  refine okD FD S (fun _ _ _ h => len1 h) fun cdv A outer s H E hr => ⟨_, (pss_cons (ps_set (i := 1) S.nd rfl (by first | exact Or.inl rfl | exact Or.inr rfl) (pe_lstG pa_nil))
      (pss_cons (ps_for PassesOwn.never rfl (k_ilist K (pv 0)) (pg_name (i := 2) S.nd rfl (by first | exact Or.inl rfl | exact Or.inr rfl)) (pss_cons (ps_set (i := 3) S.nd rfl (by first | exact Or.inl rfl | exact Or.inr rfl) (pe_callB call_absU rfl e.x_abs (by decide +kernel) (pa_cons (pv 2) pa_nil)))
      (pss_cons (ps_if (pt_cmpR op_lt (pv 3) (pe_op op_pow pe_int pe_int) (nomark _)) (pss_cons (ps_set (i := 4) S.nd rfl (by first | exact Or.inl rfl | exact Or.inr rfl) (pe_op op_mod (pe_callTy call_intU rfl e.x_int (by decide +kernel) (pa_cons (pe_op (k_add K) (pe_op op_mul (pv 3) pe_int) pe_int) pa_nil)) pe_int))
      (pss_cons (ps_expr (k_bm K PySem.F.plainAttrs_list PySem.F.slot_list_append PySem.F.type_list_append mt_append (pv 1) (pa_cons (pe_op op_mod (pe_callTy call_intU rfl e.x_int (by decide +kernel) (pa_cons (pe_op (k_add K) (pe_op op_mul (pv 4) pe_int) (pv 3)) pa_nil)) pe_int) pa_nil)))
      (pss_cons (ps_expr (k_bm K PySem.F.plainAttrs_list PySem.F.slot_list_append PySem.F.type_list_append mt_append (pv 1) (pa_cons (pe_op op_mod (pe_callTy call_intU rfl e.x_int (by decide +kernel) (pa_cons (pe_op (k_add K) (pv 4) (pe_op op_fdivW (pv 3) pe_int)) pa_nil)) pe_int) pa_nil)))
      (pss_one (ps_set (i := 3) S.nd rfl (by first | exact Or.inl rfl | exact Or.inr rfl) pe_int))))) pss_nil)
      (pss_one (ps_for PassesOwn.never rfl (pi_range1 rfl e.x_range (pa_cons pe_int pa_nil)) (pg_name (i := 5) S.nd rfl (by first | exact Or.inl rfl | exact Or.inr rfl)) (pss_one (ps_if (pt_cmpR op_gt (pv 3) pe_int (nomark _)) (pss_cons (ps_expr (k_bm K PySem.F.plainAttrs_list PySem.F.slot_list_append PySem.F.type_list_append mt_append (pv 1) (pa_cons (pe_op op_mod (pe_callTy call_intU rfl e.x_int (by decide +kernel) (pa_cons (pv 3) pa_nil)) pe_int) pa_nil)))
      (pss_one (ps_set (i := 3) S.nd rfl (by first | exact Or.inl rfl | exact Or.inr rfl) (pe_op op_fdivW (pv 3) pe_int)))) pss_nil)))))))
      (pss_cons (ps_set (i := 6) S.nd rfl (by first | exact Or.inl rfl | exact Or.inr rfl) pe_int)
      (pss_cons (ps_if (pt_cmpR op_gt (pe_callB (k_len K) rfl e.x_len (by decide +kernel) (pa_cons (pv 0) pa_nil)) pe_int (nomark _)) (pss_one (ps_set (i := 6) S.nd rfl (by first | exact Or.inl rfl | exact Or.inr rfl) (pe_op (k_add K) pe_int (pe_callB call_absU rfl e.x_abs (by decide +kernel) (pa_cons (pe_ix (k_ix K) (pv 0) pe_int (fun _ _ => rfl)) pa_nil))))) pss_nil)
      (pss_cons (ps_for PassesOwn.never rfl (pi_range1 rfl e.x_range (pa_cons pe_int pa_nil)) (pg_name (i := 5) S.nd rfl (by first | exact Or.inl rfl | exact Or.inr rfl)) (pss_cons (ps_set (i := 6) S.nd rfl (by first | exact Or.inl rfl | exact Or.inr rfl) (pe_op op_mod (pe_callTy call_intU rfl e.x_int (by decide +kernel) (pa_cons (pe_op (k_add K) (pe_op op_mul (pv 6) pe_int) pe_int) pa_nil)) pe_int))
      (pss_one (ps_expr (k_bm K PySem.F.plainAttrs_list PySem.F.slot_list_append PySem.F.type_list_append mt_append (pv 1) (pa_cons (pe_op op_fdivW (pv 6) pe_int) pa_nil))))))
      (pss_one (ps_ret (k_listRev K rfl rfl e.x_list rfl e.x_reversed (pv 1))))))))), ?_⟩
  intro ds G Φ h
  try dsimp only [cxK, blkK]
  obtain ⟨x, rfl, ns, rfl, hn, k⟩ := h
  fail "x"
  intro p hp
  refine ws_forget (a := p) ?_
  with_reducible refine ws_cut (fun δ' G' => ∃ (ms : List Int) (y2 y3 y4 y5 : Option Dt), δ' = [some (.dat (.list (ns.map .int))), some (.obj p), y2, y3, y4, y5, none] ∧ G' = updG G p (.lst (ms.map .int)) ∧ ms.length ≤ 63 * 62) ?_ ?_
  · with_reducible refine ws_for ?_
    with_reducible refine wi_list ?_
    fail "x"
    refine ⟨[2], fun i δ' G' => ∃ (ms : List Int) (y2 y3 y4 y5 : Option Dt), δ' = [some (.dat (.list (ns.map .int))), some (.obj p), y2, y3, y4, y5, none] ∧ G' = updG G p (.lst (ms.map .int)) ∧ ms.length ≤ i * 62, ⟨[], none, none, none, none, rfl, rfl, Nat.zero_le _⟩, ?_, ?_⟩
    · rintro i x δ' G' hx ⟨ms, y2, y3, y4, y5, rfl, rfl, hl⟩
      obtain ⟨c, hc, rfl⟩ := map_get hx
      have hi : i < ns.length := (List.getElem?_eq_some_iff.mp hc).1
      have hm : (ms.map PyData.int).length = ms.length := List.length_map _
      have h1 : updG G p (.lst (ms.map PyData.int)) p = some (.lst (ms.map PyData.int)) := updG_same
      fail "v"
      fail "n"
      with_reducible refine ws_cut (fun δ' G' => ∃ (ms' : List Int) (n : Int) (y4 : Option Dt), δ' = [some (.dat (.list (ns.map .int))), some (.obj p), some (.dat (.int c)), some (.dat (.int n)), y4, y5, none] ∧ G' = updG G p (.lst (ms'.map .int)) ∧ ms'.length ≤ i * 62 + 2) ?_ ?_
      · with_reducible refine ws_if ?_
        fail "x"
        refine ⟨cpow18, ?_⟩
        fail "x"
        refine ⟨fun hb => ?_, fun hb => ?_⟩
        · fail "x"
          refine ⟨cmul_r (by decide), ?_⟩
          fail "x"
          refine ⟨by decide, ?_⟩
          fail "x"
          refine ⟨cmul_r (by decide), ?_⟩
          fail "x"
          refine ⟨by decide, ?_⟩
          fail "x"
          refine ⟨cdiv_k (by decide) (by decide), ?_⟩
          fail "x"
          refine ⟨by decide, ?_⟩
          fail "x"
          exact ⟨_, _, _, rfl, by rw [nums_app, nums_app, updG_updG, updG_updG], by rw [List.length_append, List.length_append]; show _ + 1 + 1 ≤ _; omega⟩
        · fail "x"
          exact ⟨ms, _, _, rfl, rfl, by omega⟩
      · rintro δ' G' ⟨ms1, n1, y4, rfl, rfl, hl1⟩
        refine ws_for (wi_rng1 ?_)
        fail "x"
        refine ⟨by decide, by decide, ?_⟩
        refine ⟨[5], fun j δ' G' => ∃ (ms' : List Int) (n : Int) (y5 : Option Dt), δ' = [some (.dat (.list (ns.map .int))), some (.obj p), some (.dat (.int c)), some (.dat (.int n)), y4, y5, none] ∧ G' = updG G p (.lst (ms'.map .int)) ∧ ms'.length ≤ i * 62 + 2 + j, ⟨ms1, n1, y5, rfl, rfl, hl1⟩, ?_, ?_⟩
        · rintro j x δ' G' hx ⟨ms2, n2, y5, rfl, rfl, hl2⟩
          have hj := (upD_get.mp hx).1
          have hj : j < 60 := hj
          have h1 : updG G p (.lst (ms2.map PyData.int)) p = some (.lst (ms2.map PyData.int)) := updG_same
          have hm : (ms2.map PyData.int).length = ms2.length := List.length_map _
          fail "x"
          refine ⟨fun hb => ?_, fun hb => ?_⟩
          · fail "x"
            refine ⟨by decide, ?_⟩
            fail "x"
            refine ⟨cdiv_k (by decide) (by decide), ?_⟩
            fail "x"
            exact ⟨_, _, _, rfl, by rw [nums_app, updG_updG], by rw [List.length_append]; show _ + 1 ≤ _; omega⟩
          · fail "x"
            exact ⟨ms2, n2, _, rfl, rfl, by omega⟩
        · rintro δ' G' ⟨ms2, n2, y5, rfl, rfl, hl2⟩
          have hl2 : ms2.length ≤ i * 62 + 2 + 60 := hl2
          exact ⟨ms2, _, _, _, _, rfl, rfl, by omega⟩
    · rintro δ' G' ⟨ms, y2, y3, y4, y5, rfl, rfl, hl⟩
      rw [List.length_map] at hl
      exact ⟨ms, _, _, _, _, rfl, rfl, Nat.le_trans hl (Nat.mul_le_mul_right _ hn)⟩
  rintro δ' G' ⟨ms, y2, y3, y4, y5, rfl, rfl, hl⟩
  fail "n"
  with_reducible refine ws_cut (fun δ' G' => ∃ (s : Int), δ' = [some (.dat (.list (ns.map .int))), some (.obj p), y2, y3, y4, y5, some (.dat (.int s))] ∧ G' = updG G p (.lst (ms.map .int))) ?_ ?_
  · with_reducible refine ws_if ?_
    fail "x"
    rw [List.length_map]
    refine ⟨fun hb => ?_, fun hb => ?_⟩
    · have hb : (0 : Int) < (ns.length : Nat) := of_decide_eq_true hb
      have hc : ns[0]? = some ns[0] := List.getElem?_eq_getElem (by omega)
      fail "x"
      refine dIx_l (atI_nat (k := 0) (by rw [List.getElem?_map, hc]; rfl)) ?_
      fail "x"
      rfl
    · fail "x"
      rfl
  rintro δ' G' ⟨s, rfl, rfl⟩
  with_reducible refine ws_cut (fun δ' G' => ∃ (ms : List Int) (y2 y3 y4 y5 y6 : Option Dt), δ' = [some (.dat (.list (ns.map .int))), some (.obj p), y2, y3, y4, y5, y6] ∧ G' = updG G p (.lst (ms.map .int))) ?_ ?_
  · with_reducible refine ws_for ?_
    with_reducible refine wi_rng1 ?_
    fail "x"
    refine ⟨by decide, by decide, ?_⟩
    refine ⟨[5], fun j δ' G' => ∃ (ms' : List Int) (s : Int) (y5 : Option Dt), δ' = [some (.dat (.list (ns.map .int))), some (.obj p), y2, y3, y4, y5, some (.dat (.int s))] ∧ G' = updG G p (.lst (ms'.map .int)) ∧ ms'.length ≤ 63 * 62 + j, ⟨ms, s, y5, rfl, rfl, hl⟩, ?_, ?_⟩
    · rintro j x δ' G' hx ⟨ms2, s2, y5, rfl, rfl, hl2⟩
      have hj : j < 60 := (upD_get.mp hx).1
      have h1 : updG G p (.lst (ms2.map PyData.int)) p = some (.lst (ms2.map PyData.int)) := updG_same
      have hm : (ms2.map PyData.int).length = ms2.length := List.length_map _
      fail "x"
      refine ⟨cmul_r (by decide), ?_⟩
      fail "x"
      refine ⟨by decide, ?_⟩
      fail "x"
      refine ⟨cdiv_k (by decide) (by decide), ?_⟩
      fail "x"
      exact ⟨_, _, _, rfl, by rw [nums_app, updG_updG], by rw [List.length_append]; show _ + 1 ≤ _; omega⟩
    · rintro δ' G' ⟨ms2, s2, y5, rfl, rfl, hl2⟩
      exact ⟨ms2, _, _, _, _, _, rfl, rfl⟩
  rintro δ' G' ⟨ms2, z2, z3, z4, z5, z6, rfl, rfl⟩
  fail "x"
  refine we_listRevL ?_
  fail "x"
  refine fun q hq => ?_
  obtain ⟨hqp, hq⟩ := fresh_updG hq
  show Φ _ (dropG _ p)
  rw [upd_comm hqp.symm, drop_same, drop_ne hqp, drop_none hp]
  exact k q hq
theorem o__law_draws {P : Program} {w : World} {K : PySem.W.Frag} {mg : Str → Option Value} {base : Heap} (e : Ev P w K mg base) : OkD P w K mg base 1 (He.ga K "_law_draws") ["_law_script"] [] F__law_draws := by
  obtain ⟨fd, FD⟩ := e.d__law_draws
  exact okN FD (n__law_draws e FD) fun _ _ _ _ _ _ us hl => match us, hl with | [_], _ => rfl
def xyzL : List Str := ["x", "y", "z"]
def abL : List Str := ["a", "b"]
theorem xyz_at {j : Nat} (h : j < 3) : ∃ c, atI (("xyz" : Str).cps.toList) ((j : Nat) : Int) = some c ∧ xyzL[j]? = some ⟨#[c]⟩ := by
  have : j = 0 ∨ j = 1 ∨ j = 2 := by omega
  rcases this with rfl | rfl | rfl
  · exact ⟨120, by decide +kernel, by decide +kernel⟩
  · exact ⟨121, by decide +kernel, by decide +kernel⟩
  · exact ⟨122, by decide +kernel, by decide +kernel⟩
theorem ab_at {j : Nat} (h : j < 2) : ∃ c, atI (("ab" : Str).cps.toList) ((j : Nat) : Int) = some c ∧ abL[j]? = some ⟨#[c]⟩ := by
  have : j = 0 ∨ j = 1 := by omega
  rcases this with rfl | rfl
  · exact ⟨97, by decide +kernel, by decide +kernel⟩
  · exact ⟨98, by decide +kernel, by decide +kernel⟩
def okA (a : Ag) : Prop := 1 ≤ a.2.length ∧ a.2.length ≤ 2 ∧ a.2.map (·.1) = abL.take a.2.length ∧ ∀ k ∈ a.2, okKd k
theorem okG_of {A : List Ag} (h1 : 1 ≤ A.length) (h3 : A.length ≤ 3) (hn : A.map (·.1) = xyzL.take A.length) (ha : ∀ a ∈ A, okA a) : okG A := by
  refine ⟨h1, h3, ?_, fun a m => ?_, fun a m => (ha a m).1, fun a m => (ha a m).2.1, fun a m => (ha a m).2.2.2⟩
  · rw [hn]
    have : A.length = 1 ∨ A.length = 2 ∨ A.length = 3 := by omega
    rcases this with e | e | e <;> rw [e] <;> decide +kernel
  · obtain ⟨k1, k2, k3, _⟩ := ha a m
    rw [k3]
    have : a.2.length = 1 ∨ a.2.length = 2 := by omega
    rcases this with e | e <;> rw [e] <;> decide +kernel

theorem sc__law_game : FnScope ["_law_draws_here", "_law_agents", "_law_k", "_law_kinds", "_law_j", "_law_o"] ["_law_draws_here"] (defScope (top 88)) := ⟨rfl, rfl, rfl, by decide +kernel, rfl, by decide +kernel, by decide +kernel⟩
theorem n__law_game {P : Program} {w : World} {K : PySem.W.Frag} {mg : Str → Option Value} {base : Heap} {fd : FuncData} {dvs : List V} {kws : List (Str × V)} (e : Ev P w K mg base) (FD : FunD K "_law_game" "_law_game" (defArgs (top 88)) (defBody (top 88)) (defScope (top 88)) dvs kws (He.ga K "_law_game") fd) : FnOk P w K mg base CX0 2 (He.ga K "_law_game") fd ["_law_draws_here"] (spD K F__law_game) := by
  have S := sc__law_game
  refine okD FD S (fun _ _ _ h => len1 h) fun cdv A outer s H E hr => ⟨_, (pss_cons (ps_set (i := 1) S.nd rfl (by first | exact Or.inl rfl | exact Or.inr rfl) (pe_lstG pa_nil))
      (pss_cons (ps_for PassesOwn.never rfl (pi_range1 rfl e.x_range (pa_cons (pe_op (k_add K) pe_int (k_cl K (o__law_take e) (hr.mono (by decide)) e.g__law_take (pa_cons (pv 0) (pa_cons pe_int pa_nil)))) pa_nil)) (pg_name (i := 2) S.nd rfl (by first | exact Or.inl rfl | exact Or.inr rfl)) (pss_cons (ps_set (i := 3) S.nd rfl (by first | exact Or.inl rfl | exact Or.inr rfl) (pe_lstG pa_nil))
      (pss_cons (ps_for PassesOwn.never rfl (pi_range1 rfl e.x_range (pa_cons (pe_op (k_add K) pe_int (k_cl K (o__law_take e) (hr.mono (by decide)) e.g__law_take (pa_cons (pv 0) (pa_cons pe_int pa_nil)))) pa_nil)) (pg_name (i := 4) S.nd rfl (by first | exact Or.inl rfl | exact Or.inr rfl)) (pss_one (ps_expr (k_bm K PySem.F.plainAttrs_list PySem.F.slot_list_append PySem.F.type_list_append mt_append (pv 3) (pa_cons (pe_tup (pa_cons (pe_ix (k_ix K) pe_str (pv 4) (fun _ _ => rfl)) (pa_cons (pe_tup (pa_cons pe_int (pa_cons pe_int pa_nil))) (pa_cons (pe_tup (pa_cons pe_int (pa_cons pe_int pa_nil))) (pa_cons (pe_lc (own := [("_law_o", 5)]) rfl S.nd (pi_range1 rfl e.x_range (pa_cons pe_int pa_nil)) (blkOk_by (by rfl)) (fun _ _ _ _ _ => (pg_name (i := 5) S.nd rfl (by first | exact Or.inl rfl | exact Or.inr rfl))) (fun _ _ _ _ _ => pts_nil) (fun _ _ _ _ _ => (pe_tup (pa_cons (k_cl K (o__law_take e) (hr.mono (by decide)) e.g__law_take (pa_cons (pv 0) (pa_cons pe_int pa_nil))) (pa_cons pe_int pa_nil))))) pa_nil))))) pa_nil)))))
      (pss_one (ps_expr (k_bm K PySem.F.plainAttrs_list PySem.F.slot_list_append PySem.F.type_list_append mt_append (pv 1) (pa_cons (pe_tup (pa_cons (pe_ix (k_ix K) pe_str (pv 2) (fun _ _ => rfl)) (pa_cons (pv 3) pa_nil))) pa_nil)))))))
      (pss_one (ps_ret (pv 1))))), ?_⟩
  intro ds G Φ h
  try dsimp only [cxK, blkK]
  obtain ⟨x, rfl, d, rfl, hd, k⟩ := h
  fail "x"
  intro p hp
  have hdp : d ≠ p := neG_none hd hp
  refine ws_seq (ws_for (wi_rng1 ?_))
  fail "x"
  intro r hr
  have hr : r < 3 := by omega
  fail "x"
  refine ⟨by omega, by omega, ?_⟩
  have en : ((1 : Int) + (r : Nat)).toNat = 1 + r := by omega
  rw [en]
  refine ⟨[2], fun i δ' G' => ∃ (A : List Ag) (y2 y3 y4 : Option Dt), δ' = [some (.obj d), some (.obj p), y2, y3, y4, none] ∧ G' = updG G p (.lst (A.map agD)) ∧ A.length = i ∧ A.map (·.1) = xyzL.take i ∧ ∀ a ∈ A, okA a, ⟨[], none, none, none, rfl, rfl, rfl, rfl, fun a ha => (by cases ha)⟩, ?_, ?_⟩
  · rintro i x δ' G' hx ⟨A, y2, y3, y4, rfl, rfl, hAl, hAn, hAo⟩
    obtain ⟨hi, rfl⟩ := upD_get.mp hx
    have hi3 : i < 3 := by omega
    rw [Int.zero_add]
    fail "x"
    intro q hq
    obtain ⟨hqp, hq⟩ := fresh_updG hq
    have hdq : d ≠ q := neG_none hd hq
    with_reducible refine ws_cut (fun δ' G' => ∃ (ks : List Kd) (y4 : Option Dt), δ' = [some (.obj d), some (.obj p), some (.dat (.int (i : Nat))), some (.obj q), y4, none] ∧ G' = updG (updG G p (.lst (A.map agD))) q (.lst (ks.map kdD)) ∧ 1 ≤ ks.length ∧ ks.length ≤ 2 ∧ ks.map (·.1) = abL.take ks.length ∧ ∀ k ∈ ks, okKd k) ?_ ?_
    · with_reducible refine ws_for ?_
      with_reducible refine wi_rng1 ?_
      fail "x"
      intro s hs
      have hs : s < 2 := by omega
      fail "x"
      refine ⟨by omega, by omega, ?_⟩
      have en2 : ((1 : Int) + (s : Nat)).toNat = 1 + s := by omega
      rw [en2]
      refine ⟨[4], fun j δ' G' => ∃ (ks : List Kd) (y4 : Option Dt), δ' = [some (.obj d), some (.obj p), some (.dat (.int (i : Nat))), some (.obj q), y4, none] ∧ G' = updG (updG G p (.lst (A.map agD))) q (.lst (ks.map kdD)) ∧ ks.length = j ∧ ks.map (·.1) = abL.take j ∧ ∀ k ∈ ks, okKd k, ⟨[], y4, rfl, rfl, rfl, rfl, fun k hk => (by cases hk)⟩, ?_, ?_⟩
      · rintro j x δ' G' hx ⟨ks, y4, rfl, rfl, hkl, hkn, hko⟩
        obtain ⟨hj, rfl⟩ := upD_get.mp hx
        have hj2 : j < 2 := by omega
        obtain ⟨c, hc1, hc2⟩ := ab_at hj2
        have hm : (ks.map kdD).length = ks.length := List.length_map _
        rw [Int.zero_add]
        fail "x"
        refine dIx_s (by decide) hc1 ?_
        fail "x"
        refine we_lc (wi_rng1 ?_)
        fail "x"
        refine ⟨by decide, by decide, ?_⟩
        refine ⟨[5], fun m acc G' => ∃ rs : List Rt, acc = rs.map rT ∧ G' = updG (updG G p (.lst (A.map agD))) q (.lst (ks.map kdD)) ∧ rs.length = m ∧ ∀ r ∈ rs, ∃ i : Int, 0 ≤ i ∧ i < 5 ∧ r = (i, 1), by rw [upD_length]; decide, by decide, ⟨[], rfl, rfl, rfl, fun r hr => (by cases hr)⟩, ?_, ?_⟩
        · rintro m x acc G' hx hl ⟨rs, rfl, rfl, hrl, hro⟩
          fail "x"
          intro u hu
          fail "x"
          refine ⟨rs ++ [(((u : Nat) : Int), 1)], by rw [List.map_append]; rfl, rfl, by rw [List.length_append, hrl]; rfl, fun r hr => ?_⟩
          rcases List.mem_append.mp hr with hr | hr
          · exact hro r hr
          · rw [List.mem_singleton.mp hr]; exact ⟨_, by omega, hu, rfl⟩
        · rintro acc G' _ ⟨rs, rfl, rfl, hrl, hro⟩
          have hrl : rs.length = 3 := hrl
          fail "x"
          refine ⟨ks ++ [(⟨#[c]⟩, (1, 1), (0, 1), rs)], _, rfl, by rw [updG_updG, List.map_append]; rfl, by rw [List.length_append, hkl]; rfl, ?_, fun k hk => ?_⟩
          · rw [List.map_append, hkn, take_at hc2]; rfl
          · rcases List.mem_append.mp hk with hk | hk
            · exact hko k hk
            · rw [List.mem_singleton.mp hk]; exact ⟨rfl, rfl, hrl, hro⟩
      · rintro δ' G' ⟨ks, y4, rfl, rfl, hkl, hkn, hko⟩
        rw [upD_length] at hkl hkn
        exact ⟨ks, y4, rfl, rfl, by omega, by omega, by rw [hkl]; exact hkn, hko⟩
    · rintro δ' G' ⟨ks, y4, rfl, rfl, hk1, hk2, hkn, hko⟩
      obtain ⟨c, hc1, hc2⟩ := xyz_at hi3
      have hm : (A.map agD).length = A.length := List.length_map _
      refine ws_letS (i := 3) rfl updG_same ?_
      rw [drop_same, drop_ne hqp.symm, drop_none hq]
      fail "x"
      refine dIx_s (by decide) hc1 ?_
      fail "x"
      refine ⟨A ++ [(⟨#[c]⟩, ks)], _, _, _, rfl, by rw [updG_updG, List.map_append]; rfl, by rw [List.length_append, hAl]; rfl, ?_, fun a ha => ?_⟩
      · rw [List.map_append, hAn, take_at hc2]; rfl
      · rcases List.mem_append.mp ha with ha | ha
        · exact hAo a ha
        · rw [List.mem_singleton.mp ha]; exact ⟨hk1, hk2, hkn, hko⟩
  · rintro δ' G' ⟨A, y2, y3, y4, rfl, rfl, hAl, hAn, hAo⟩
    rw [upD_length] at hAl hAn
    refine ws_ret (we_let rfl updG_same ?_)
    rw [drop_same, drop_none hp]
    exact k A (okG_of (by omega) (by omega) (by rw [hAl]; exact hAn) hAo)
theorem o__law_game {P : Program} {w : World} {K : PySem.W.Frag} {mg : Str → Option Value} {base : Heap} (e : Ev P w K mg base) : OkD P w K mg base 2 (He.ga K "_law_game") ["_law_draws_here"] [] F__law_game := by
  obtain ⟨fd, FD⟩ := e.d__law_game
  exact okN FD (n__law_game e FD) fun _ _ _ _ _ _ us hl => match us, hl with | [_], _ => rfl
end DL
/-! (Lc) -/
namespace DL
open PySem PySem.Spec PyProof.Rows L2

local macro_rules | `(tactic| fail "l") => `(tactic| first | exact Nat.le_of_ble_eq_true rfl | omega | (simp only [List.length_map, List.length_append, List.length_cons, List.length_nil]; omega))
local macro_rules | `(tactic| fail "aS") => `(tactic| with_reducible first | refine ws_seq ?_ | refine ws_if ?_ | refine ws_ret ?_ | refine ws_asg ?_ | refine ws_drop ?_ | refine ws_next ?_ | refine ws_retN ?_ | refine ws_fldF ?_ | refine ws_fldN ?_ | refine ws_dput ?_ | refine ws_asgT5 ?_ | refine ws_asgT4 ?_ | refine ws_asgT3 ?_)
local macro_rules | `(tactic| fail "aO") => `(tactic| with_reducible first | refine we_ix ?_ | refine we_II ?_ | refine we_IB ?_ | refine we_eq ?_ | refine we_ne ?_ | refine we_add ?_ | refine we_addG ?_ | refine we_IC ?_ | refine we_eqD ?_ | refine we_neD ?_ | refine we_inD ?_ | refine we_notInD ?_ | refine we_in ?_ | refine we_inSg ?_)
local macro_rules | `(tactic| fail "aC") => `(tactic| with_reducible first | refine we_len ?_ | refine we_lenD ?_ | refine we_all ?_ | refine we_any ?_ | refine we_int1 ?_ | refine we_strI ?_ | refine we_listOf ?_ | refine we_tupOf ?_ | refine we_sum ?_ | refine we_abs ?_ | refine we_min2 ?_ | refine we_gcd ?_)
local macro_rules | `(tactic| fail "aE") => `(tactic| first
  | ((with_reducible apply we_var); rfl)
  | with_reducible refine we_int ?_ | with_reducible refine we_str ?_ | with_reducible refine we_non ?_ | with_reducible refine we_bl ?_
  | ((with_reducible show WE _ (tOp _ _ _) _ _ _); fail "aO")
  | ((with_reducible show WE _ (tCB _ _) _ _ _); fail "aC")
  | with_reducible refine we_call ?_ | with_reducible refine we_fld ?_ | with_reducible refine we_meth' ?_ | with_reducible refine we_tup ?_ | with_reducible refine we_isi (by decide) ?_ | with_reducible refine we_lst ?_ | with_reducible refine we_lstG ?_
  | with_reducible refine we_and ?_ | with_reducible refine we_or ?_ | with_reducible refine we_not ?_ | with_reducible refine we_chainI ?_ | with_reducible refine we_isN ?_ | with_reducible refine we_notN ?_ | with_reducible refine we_append ?_ | with_reducible refine we_extend ?_ | with_reducible refine we_index ?_
  | with_reducible refine we_slL ?_ | with_reducible refine we_slT ?_ | with_reducible refine we_dget ?_ | with_reducible refine we_din ?_ | with_reducible refine we_dnotin ?_ | with_reducible refine we_dictG ?_ | with_reducible refine we_prop ?_ | with_reducible refine we_join ?_ | with_reducible refine we_neg ?_ | with_reducible refine we_lenSet ?_)
local macro_rules | `(tactic| fail "aT") => `(tactic| with_reducible first | refine wt_val ?_ | refine wt_tst ?_ | refine wt_and ?_ | refine wt_or ?_ | refine wt_not ?_ | refine wt_yes ?_)
local macro_rules | `(tactic| fail "aD") => `(tactic| with_reducible first | refine dEq_ii ?_ | refine dEq_ss ?_ | refine dEq_bb ?_ | refine dEq_nn ?_ | refine dEq_ni ?_ | refine dEq_in ?_ | refine dAdd_ii ?_ | refine dInt_i ?_ | refine dInt_b ?_ | refine dLen_l ?_ | refine dLen_t ?_)
local macro_rules | `(tactic| fail "a") => `(tactic| first
  | ((with_reducible show WE _ _ _ _ _); fail "aE")
  | ((with_reducible show WA _ _ _ _ _); (with_reducible first | refine wa_cons ?_ | refine wa_nil ?_))
  | ((with_reducible show WS _ _ _ _ _); fail "aS")
  | ((with_reducible show WT _ _ _ _ _); fail "aT")
  | ((with_reducible show WG _ _ _ _ _ _ _); first | with_reducible refine wg_name ?_ | ((with_reducible refine wg_tup ?_ ?_); rfl))
  | ((with_reducible show WGs _ _ _ _ _ _ _); (with_reducible first | refine wgs_cons ?_ | refine wgs_nil ?_))
  | ((with_reducible show WO _ _ _ _ _); (with_reducible first | refine wo_none ?_ | refine wo_some ?_))
  | ((with_reducible show dIx _ _ _ _); first | ((with_reducible apply dIx_t); rfl) | ((with_reducible apply dIx_l); rfl))
  | ((with_reducible show dAdd _ _ _ _); first | with_reducible refine dAdd_ii ?_ | ((with_reducible refine dAdd_ll ?_ ?_); fail "l") | ((with_reducible apply dAdd_ol); (fail "h"); (fail "l")) | ((with_reducible refine dAdd_tt ?_ ?_); fail "l") | ((with_reducible refine dAdd_ss ?_ ?_); fail "l"))
  | fail "aD")
local macro_rules | `(tactic| fail "e") => `(tactic| ((fail_if_success (with_reducible show ∃ _ : NF, _)); (fail_if_success (with_reducible show ∃ _ : PF, _)); (fail_if_success (with_reducible show ∃ _ : DF, _)); (first | with_reducible refine ⟨_, _, rfl, rfl, ?_⟩ | with_reducible refine ⟨_, rfl, ?_⟩ | with_reducible refine ⟨rfl, ?_⟩ | with_reducible refine ⟨_, _, rfl, ?_⟩ | with_reducible refine ⟨_, _, _, rfl, ?_⟩ | with_reducible refine ⟨_, _, _, _, rfl, ?_⟩ | with_reducible refine ⟨_, _, _, _, _, rfl, ?_⟩ | ((refine ⟨?l, ?_⟩); (case l => (with_reducible show _ < 1000000); fail "l")) | ((refine ⟨?l, ?_⟩); (case l => (with_reducible show _ ≤ 1000000); fail "l")))))
local macro_rules | `(tactic| fail "g") => `(tactic| ((funext gb; simp only [updG, dropG]; repeat' split) <;> first | rfl | (exfalso; simp_all; done) | (simp_all; done)))
local macro_rules | `(tactic| fail "q") => `(tactic| first | assumption | exact Ne.symm (by assumption))
local macro_rules | `(tactic| fail "h") => `(tactic| first | assumption | exact updG_same | ((rw [updG_ne]); (fail "h"); (fail "q")))
local macro_rules | `(tactic| fail "z") => `(tactic| first | rfl | exact ⟨rfl, rfl⟩ | exact ⟨_, rfl, rfl⟩ | exact ⟨_, _, rfl, rfl⟩ | exact ⟨_, _, _, rfl, rfl⟩ | assumption)
local macro_rules | `(tactic| fail "t") => `(tactic| ((with_reducible refine ⟨_, _, rfl, ?h1, rfl, ?h2, ?tk⟩); (case h1 => fail "h"); (case h2 => first | decide | omega)))
local macro_rules | `(tactic| fail "f") => `(tactic| first
  | fail "t"
  | refine ⟨_, _, rfl, .inr (.inl rfl), ?_⟩ | refine ⟨_, _, rfl, .inl rfl, ?_⟩
  | (refine ⟨_, ?ds, rfl, .inr (.inr ⟨_, rfl, ?h1⟩), ?_⟩; (case h1 => fail "h"))
  | (refine ⟨_, ?ds, rfl, .inr ⟨_, rfl, ?h1⟩, ?_⟩; (case h1 => fail "h"))
  | ((with_reducible refine ⟨_, ?ds, ?d, rfl, ?h1, ?h2, ?_⟩); (case h1 => fail "h"); (case h2 => rfl))
  | ((with_reducible refine ⟨_, ?ds, rfl, ?h1, ?_⟩); (case h1 => fail "h"))
  | ((with_reducible refine ⟨_, ?ns, ?ds, rfl, ?h1, ?h2, ?_⟩); (case h1 => fail "h"); (case h2 => decide))
  | ((with_reducible refine ⟨_, ?ns, ?ds, rfl, (?h1 : _ = some (GO.ins _ ?ns ?ds)), ?_⟩); (case h1 => fail "h"))
  | ((with_reducible refine ⟨_, rfl, ⟨?ys, ?h1⟩, ?_⟩); (case h1 => fail "h"))
  | ((with_reducible refine ⟨_, ?xs, rfl, ?h1, ?h2, ?_⟩); (case h1 => fail "h"); (case h2 => omega)))
local macro_rules | `(tactic| fail "y") => `(tactic| first
  | ((with_reducible refine ⟨fun _ => ?_, fun hbb => ?nope⟩); (case nope => first | exact Bool.noConfusion (show true = false from hbb) | exact Bool.noConfusion (show false = true from hbb) | exact absurd (of_decide_eq_true hbb) (by omega) | exact absurd (of_decide_eq_false hbb) (by omega) | (simp at hbb; done) | (simp at hbb; omega)))
  | ((with_reducible refine ⟨fun hbb => ?nope, fun _ => ?_⟩); (case nope => first | exact Bool.noConfusion (show true = false from hbb) | exact Bool.noConfusion (show false = true from hbb) | exact absurd (of_decide_eq_true hbb) (by omega) | exact absurd (of_decide_eq_false hbb) (by omega) | (simp at hbb; done) | (simp at hbb; omega))))
local macro_rules | `(tactic| fail "w") => `(tactic| repeat fail "a")
local macro_rules | `(tactic| fail "x") => `(tactic| repeat (first | fail "a" | fail "f" | fail "e" | fail "y"))
local macro_rules | `(tactic| fail "b") => `(tactic| first
  | ((with_reducible show WE _ _ _ _ _); fail "aE")
  | ((with_reducible show WA _ _ _ _ _); (with_reducible first | refine wa_cons ?_ | refine wa_nil ?_))
  | ((with_reducible show WT _ _ _ _ _); fail "aT")
  | ((with_reducible show WG _ _ _ _ _ _ _); first | with_reducible refine wg_name ?_ | ((with_reducible refine wg_tup ?_ ?_); rfl))
  | ((with_reducible show WGs _ _ _ _ _ _ _); (with_reducible first | refine wgs_cons ?_ | refine wgs_nil ?_))
  | ((with_reducible show WO _ _ _ _ _); (with_reducible first | refine wo_none ?_ | refine wo_some ?_))
  | ((with_reducible show dIx _ _ _ _); first | ((with_reducible apply dIx_t); rfl) | ((with_reducible apply dIx_l); rfl))
  | ((with_reducible show dAdd _ _ _ _); first | with_reducible refine dAdd_ii ?_ | ((with_reducible refine dAdd_ll ?_ ?_); fail "l") | ((with_reducible apply dAdd_ol); (fail "h"); (fail "l")) | ((with_reducible refine dAdd_tt ?_ ?_); fail "l") | ((with_reducible refine dAdd_ss ?_ ?_); fail "l"))
  | fail "aD")
local macro_rules | `(tactic| fail "v") => `(tactic| repeat (first | fail "b" | fail "f" | fail "e" | fail "y"))
local macro_rules | `(tactic| fail "n") => `(tactic| ((with_reducible refine ws_seq ?_); (fail "aS"); (fail "v")))

theorem sc__law_profiles : FnScope ["_law_agents", "_law_rows", "_law_agent", "_law_longer", "_law_row", "_law_kind"] ["_law_agents"] (defScope (top 89)) := ⟨rfl, rfl, rfl, by decide +kernel, rfl, by decide +kernel, by decide +kernel⟩
theorem n__law_profiles {P : Program} {w : World} {K : PySem.W.Frag} {mg : Str → Option Value} {base : Heap} {fd : FuncData} {dvs : List V} {kws : List (Str × V)} (e : Ev P w K mg base) (FD : FunD K "_law_profiles" "_law_profiles" (defArgs (top 89)) (defBody (top 89)) (defScope (top 89)) dvs kws (He.ga K "_law_profiles") fd) : FnOk P w K mg base CX0 1 (He.ga K "_law_profiles") fd ["_law_agents"] (spD K F__law_profiles) := by
  have S := sc__law_profiles
  refine okD FD S (fun _ _ _ h => len1 h) fun cdv A outer s H E hr => ⟨_, (pss_cons (ps_set (i := 1) S.nd rfl (by first | exact Or.inl rfl | exact Or.inr rfl) (pe_lst (pa_cons (pe_tup pa_nil) pa_nil)))
      (pss_cons (ps_for PassesOwn.never rfl (k_ilist K (pv 0)) (pg_name (i := 2) S.nd rfl (by first | exact Or.inl rfl | exact Or.inr rfl)) (pss_cons (ps_set (i := 3) S.nd rfl (by first | exact Or.inl rfl | exact Or.inr rfl) (pe_lstG pa_nil))
      (pss_cons (ps_for PassesOwn.never rfl (k_ilist K (pe_callTy (k_list K) rfl e.x_list (by decide +kernel) (pa_cons (pv 1) pa_nil))) (pg_name (i := 4) S.nd rfl (by first | exact Or.inl rfl | exact Or.inr rfl)) (pss_one (ps_for PassesOwn.never rfl (pi_range1 rfl e.x_range (pa_cons (pe_callB (k_len K) rfl e.x_len (by decide +kernel) (pa_cons (pe_ix (k_ix K) (pv 2) pe_int (fun _ _ => rfl)) pa_nil)) pa_nil)) (pg_name (i := 5) S.nd rfl (by first | exact Or.inl rfl | exact Or.inr rfl)) (pss_one (ps_expr (k_bm K PySem.F.plainAttrs_list PySem.F.slot_list_append PySem.F.type_list_append mt_append (pv 3) (pa_cons (pe_op (k_add K) (pv 4) (pe_tup (pa_cons (pv 5) pa_nil))) pa_nil)))))))
      (pss_one (ps_set (i := 1) S.nd rfl (by first | exact Or.inl rfl | exact Or.inr rfl) (pv 3))))))
      (pss_one (ps_ret (pv 1))))), ?_⟩
  intro ds G Φ h
  try dsimp only [cxK, blkK]
  obtain ⟨x, rfl, A, rfl, hA, k⟩ := h
  have h3 := hA.n3
  have hAl : (A.map agD).length = A.length := List.length_map _
  fail "n"
  refine ws_seq (ws_for (wi_list ?_))
  fail "v"
  refine ⟨[2], fun i δ' G' => ∃ (y2 y3 y4 y5 : Option Dt), δ' = [some (.dat (.list (A.map agD))), some (.dat (.list ((profs ((msOf A).take i)).map prD))), y2, y3, y4, y5] ∧ G' = G, ⟨_, _, _, _, rfl, rfl⟩, ?_, ?_⟩
  · rintro i x δ' G' hx ⟨y2, y3, y4, y5, rfl, rfl⟩
    obtain ⟨a, ha, rfl⟩ := map_get hx
    have hi : i < A.length := (List.getElem?_eq_some_iff.mp ha).1
    have hm : (msOf A)[i]? = some a.2.length := by unfold msOf; rw [List.getElem?_map, ha]; rfl
    have ak2 := hA.k2 _ (List.mem_of_getElem? ha)
    have hkl : ((a.2.map kdD).length : Int) = (a.2.length : Nat) := by rw [List.length_map]
    have hpl : (profs ((msOf A).take i)).length ≤ 8 := by
      have h1 := profs_len (ms := (msOf A).take i) (rows := [[]]) fun m hm => by
        obtain ⟨b, hb, rfl⟩ := List.mem_map.mp (List.mem_of_mem_take hm)
        exact hA.k2 b hb
      have h2 : ((msOf A).take i).length ≤ 3 := by rw [List.length_take]; unfold msOf; rw [List.length_map]; omega
      have h4 : 2 ^ ((msOf A).take i).length ≤ 2 ^ 3 := Nat.pow_le_pow_right (by omega) h2
      have h5 : (profs ((msOf A).take i)).length ≤ 1 * 2 ^ ((msOf A).take i).length := h1
      omega
    fail "v"
    fail "n"
    intro p hp
    refine ws_seq (ws_for (wi_list ?_))
    fail "v"
    refine ⟨[4], fun j δ' G2 => ∃ (y4 y5 : Option Dt), δ' = [some (.dat (.list (A.map agD))), some (.dat (.list ((profs ((msOf A).take i)).map prD))), some (.dat (agD a)), some (.obj p), y4, y5] ∧
        G2 = updG G' p (.lst ((((profs ((msOf A).take i)).take j).flatMap fun r => (List.range a.2.length).map fun k => r ++ [k]).map prD)), ⟨_, _, rfl, rfl⟩, ?_, ?_⟩
    · rintro j x δ' G2 hx ⟨y4, y5, rfl, rfl⟩
      obtain ⟨r, hr3, rfl⟩ := map_get hx
      have hj : j < (profs ((msOf A).take i)).length := (List.getElem?_eq_some_iff.mp hr3).1
      have hr4 : r.length ≤ 3 := by
        have h1 := profs_mem (ms := (msOf A).take i) (rows := [[]]) (n := 0) (fun q hq => by rw [List.mem_singleton.mp hq]; rfl) (List.mem_of_getElem? hr3)
        rw [h1, List.length_take]
        unfold msOf
        rw [List.length_map]
        omega
      fail "v"
      refine ws_for (wi_rng1 ?_)
      fail "v"
      rw [hkl]
      refine ⟨by omega, by omega, ?_⟩
      rw [Int.toNat_natCast]
      refine ⟨[5], fun q δ' G2 => ∃ (y5 : Option Dt), δ' = [some (.dat (.list (A.map agD))), some (.dat (.list ((profs ((msOf A).take i)).map prD))), some (.dat (agD a)), some (.obj p), some (.dat (prD r)), y5] ∧
        G2 = updG G' p (.lst (((((profs ((msOf A).take i)).take j).flatMap fun r => (List.range a.2.length).map fun k => r ++ [k]) ++ (List.range q).map fun k => r ++ [k]).map prD)), ⟨_, rfl, by simp⟩, ?_, ?_⟩
      · rintro q x δ' G2 hx ⟨y5, rfl, rfl⟩
        obtain ⟨hq, rfl⟩ := upD_get.mp hx
        have h1 : updG G' p (.lst (((((profs ((msOf A).take i)).take j).flatMap fun r => (List.range a.2.length).map fun k => r ++ [k]) ++ (List.range q).map fun k => r ++ [k]).map prD)) p = some (.lst (((((profs ((msOf A).take i)).take j).flatMap fun r => (List.range a.2.length).map fun k => r ++ [k]) ++ (List.range q).map fun k => r ++ [k]).map prD)) := updG_same
        have hlen : (((((profs ((msOf A).take i)).take j).flatMap fun r => (List.range a.2.length).map fun k => r ++ [k]) ++ (List.range q).map fun k => r ++ [k]).map prD).length < 1000000 := by
          rw [List.length_map, List.length_append, flat_len, List.length_map, List.length_range, List.length_take]
          have h1 : min j (profs ((msOf A).take i)).length * a.2.length ≤ 8 * 2 := Nat.mul_le_mul (by omega) ak2
          omega
        rw [Int.zero_add]
        fail "x"
        rw [updG_updG, List.range_succ, List.map_append, List.map_append, List.map_append, List.map_append, List.append_assoc]
        simp [prD]
      · rintro δ' G2 ⟨y5, rfl, rfl⟩
        rw [upD_length]
        refine ⟨_, _, rfl, ?_⟩
        rw [take_at hr3, List.flatMap_append, List.flatMap_cons, List.flatMap_nil, List.append_nil]
    · rintro δ' G2 ⟨y4, y5, rfl, rfl⟩
      rw [List.length_map, List.take_length, ← profs_succ hm]
      refine ws_letS (i := 3) rfl updG_same ?_
      rw [drop_same, drop_none hp]
      fail "x"
      rfl
  · rintro δ' G' ⟨y2, y3, y4, y5, rfl, rfl⟩
    fail "x"
    rw [List.length_map, show A.length = (msOf A).length by unfold msOf; rw [List.length_map], List.take_length]
    exact k
theorem o__law_profiles {P : Program} {w : World} {K : PySem.W.Frag} {mg : Str → Option Value} {base : Heap} (e : Ev P w K mg base) : OkD P w K mg base 1 (He.ga K "_law_profiles") ["_law_agents"] [] F__law_profiles := by
  obtain ⟨fd, FD⟩ := e.d__law_profiles
  exact okN FD (n__law_profiles e FD) fun _ _ _ _ _ _ us hl => match us, hl with | [_], _ => rfl
def shL : List (List Int) := [[6, 0, 0], [0, 6, 0], [0, 0, 6], [1, 2, 3], [3, 0, 3], [2, 2, 2]]
theorem sh_at {r : Nat} (h : r < 6) : ∃ l ∈ shL, ([PyData.list [.int 6, .int 0, .int 0], .list [.int 0, .int 6, .int 0], .list [.int 0, .int 0, .int 6], .list [.int 1, .int 2, .int 3], .list [.int 3, .int 0, .int 3], .list [.int 2, .int 2, .int 2]] : List PyData)[r]? = some (.list (l.map .int)) := by
  have : r = 0 ∨ r = 1 ∨ r = 2 ∨ r = 3 ∨ r = 4 ∨ r = 5 := by omega
  rcases this with rfl | rfl | rfl | rfl | rfl | rfl
  · exact ⟨[6, 0, 0], by decide, rfl⟩
  · exact ⟨[0, 6, 0], by decide, rfl⟩
  · exact ⟨[0, 0, 6], by decide, rfl⟩
  · exact ⟨[1, 2, 3], by decide, rfl⟩
  · exact ⟨[3, 0, 3], by decide, rfl⟩
  · exact ⟨[2, 2, 2], by decide, rfl⟩
theorem sh_in : ∀ l ∈ shL, l.length = 3 ∧ (∀ s ∈ l, 0 ≤ s ∧ s < 7) ∧ l.map (fun s => six.getD s.toNat (0, 1)) ∈ lots6 := by decide +kernel
theorem six_at {s : Int} (h0 : 0 ≤ s) (h : s < 7) : ([PyData.tuple [.int 0, .int 1], .tuple [.int 1, .int 6], .tuple [.int 1, .int 3], .tuple [.int 1, .int 2], .tuple [.int 2, .int 3], .tuple [.int 5, .int 6], .tuple [.int 1, .int 1]] : List PyData)[s.toNat]? = some (rT (six.getD s.toNat (0, 1))) := by
  have : s = 0 ∨ s = 1 ∨ s = 2 ∨ s = 3 ∨ s = 4 ∨ s = 5 ∨ s = 6 := by omega
  rcases this with rfl | rfl | rfl | rfl | rfl | rfl | rfl <;> rfl

theorem sc__law_lot : FnScope ["_law_draws_here", "_law_shares", "_law_share"] ["_law_draws_here"] (defScope (top 90)) := ⟨rfl, rfl, rfl, by decide +kernel, rfl, by decide +kernel, by decide +kernel⟩
theorem n__law_lot {P : Program} {w : World} {K : PySem.W.Frag} {mg : Str → Option Value} {base : Heap} {fd : FuncData} {dvs : List V} {kws : List (Str × V)} (e : Ev P w K mg base) (FD : FunD K "_law_lot" "_law_lot" (defArgs (top 90)) (defBody (top 90)) (defScope (top 90)) dvs kws (He.ga K "_law_lot") fd) : FnOk P w K mg base CX0 2 (He.ga K "_law_lot") fd ["_law_draws_here"] (spD K F__law_lot) := by
  have S := sc__law_lot
  refine okD FD S (fun _ _ _ h => len1 h) fun cdv A outer s H E hr => ⟨_, (pss_cons (ps_set (i := 1) S.nd rfl (by first | exact Or.inl rfl | exact Or.inr rfl) (pe_ix (k_ix K) (pe_lst (pa_cons (pe_lst (pa_cons pe_int (pa_cons pe_int (pa_cons pe_int pa_nil)))) (pa_cons (pe_lst (pa_cons pe_int (pa_cons pe_int (pa_cons pe_int pa_nil)))) (pa_cons (pe_lst (pa_cons pe_int (pa_cons pe_int (pa_cons pe_int pa_nil)))) (pa_cons (pe_lst (pa_cons pe_int (pa_cons pe_int (pa_cons pe_int pa_nil)))) (pa_cons (pe_lst (pa_cons pe_int (pa_cons pe_int (pa_cons pe_int pa_nil)))) (pa_cons (pe_lst (pa_cons pe_int (pa_cons pe_int (pa_cons pe_int pa_nil)))) pa_nil))))))) (k_cl K (o__law_take e) (hr.mono (by decide)) e.g__law_take (pa_cons (pv 0) (pa_cons pe_int pa_nil))) (fun _ _ => rfl)))
      (pss_one (ps_ret (pe_lc (own := [("_law_share", 2)]) rfl S.nd (k_ilist K (pv 1)) (blkOk_by (by rfl)) (fun _ _ _ _ _ => (pg_name (i := 2) S.nd rfl (by first | exact Or.inl rfl | exact Or.inr rfl))) (fun _ _ _ _ _ => pts_nil) (fun _ _ _ _ _ => (pe_ix (k_ix K) (pe_lst (pa_cons (pe_tup (pa_cons pe_int (pa_cons pe_int pa_nil))) (pa_cons (pe_tup (pa_cons pe_int (pa_cons pe_int pa_nil))) (pa_cons (pe_tup (pa_cons pe_int (pa_cons pe_int pa_nil))) (pa_cons (pe_tup (pa_cons pe_int (pa_cons pe_int pa_nil))) (pa_cons (pe_tup (pa_cons pe_int (pa_cons pe_int pa_nil))) (pa_cons (pe_tup (pa_cons pe_int (pa_cons pe_int pa_nil))) (pa_cons (pe_tup (pa_cons pe_int (pa_cons pe_int pa_nil))) pa_nil)))))))) (pv 2) (fun _ _ => rfl))))))), ?_⟩
  intro ds G Φ h
  try dsimp only [cxK, blkK]
  obtain ⟨x, rfl, d, rfl, hd, k⟩ := h
  fail "x"
  intro r hr
  obtain ⟨l, hl, e1⟩ := sh_at (r := r) (by omega)
  obtain ⟨l3, l7, lin⟩ := sh_in l hl
  refine dIx_l (atI_nat e1) ?_
  fail "x"
  refine we_mapL (wi_list ?_)
  fail "x"
  refine ⟨[2], Int, l, .int, fun s => rT (six.getD s.toNat (0, 1)), rfl, by decide, by omega, fun s hs => ?_, ?_⟩
  · obtain ⟨s0, s7⟩ := l7 s hs
    fail "x"
    refine dIx_l (atI_int (k := s.toNat) (Int.toNat_of_nonneg s0).symm (six_at s0 s7)) ?_
    fail "x"
    rfl
  have := k _ lin
  rw [List.map_map] at this
  exact this
theorem o__law_lot {P : Program} {w : World} {K : PySem.W.Frag} {mg : Str → Option Value} {base : Heap} (e : Ev P w K mg base) : OkD P w K mg base 2 (He.ga K "_law_lot") ["_law_draws_here"] [] F__law_lot := by
  obtain ⟨fd, FD⟩ := e.d__law_lot
  exact okN FD (n__law_lot e FD) fun _ _ _ _ _ _ us hl => match us, hl with | [_], _ => rfl
theorem sc__law_rule : FnScope ["_law_draws_here", "_law_agents", "_law_profile", "_law_agent"] ["_law_draws_here", "_law_agents"] (defScope (top 91)) := ⟨rfl, rfl, rfl, by decide +kernel, rfl, by decide +kernel, by decide +kernel⟩
theorem n__law_rule {P : Program} {w : World} {K : PySem.W.Frag} {mg : Str → Option Value} {base : Heap} {fd : FuncData} {dvs : List V} {kws : List (Str × V)} (e : Ev P w K mg base) (FD : FunD K "_law_rule" "_law_rule" (defArgs (top 91)) (defBody (top 91)) (defScope (top 91)) dvs kws (He.ga K "_law_rule") fd) : FnOk P w K mg base CX0 3 (He.ga K "_law_rule") fd ["_law_draws_here", "_law_agents"] (spD K F__law_rule) := by
  have S := sc__law_rule
  refine okD FD S (fun _ _ _ h => len2 h) fun cdv A outer s H E hr => ⟨_, (pss_one (ps_ret (pe_lc (own := [("_law_profile", 2)]) rfl S.nd (k_ilist K (k_cl K (o__law_profiles e) (hr.mono (by decide)) e.g__law_profiles (pa_cons (pv 1) pa_nil))) (blkOk_by (by rfl)) (fun _ _ _ _ _ => (pg_name (i := 2) S.nd rfl (by first | exact Or.inl rfl | exact Or.inr rfl))) (fun _ _ _ _ _ => pts_nil) (fun _ _ _ _ _ => (pe_tup (pa_cons (k_cl K (o__law_lot e) (hr.mono (by decide)) e.g__law_lot (pa_cons (pv 0) pa_nil)) (pa_cons (pe_lc (own := [("_law_agent", 3)]) rfl S.nd (k_ilist K (pv 1)) (blkOk_by (by rfl)) (fun _ _ _ _ _ => (pg_name (i := 3) S.nd rfl (by first | exact Or.inl rfl | exact Or.inr rfl))) (fun _ _ _ _ _ => pts_nil) (fun _ _ _ _ _ => (pe_tup (pa_cons pe_int (pa_cons pe_int pa_nil))))) pa_nil))))))), ?_⟩
  intro ds G Φ h
  try dsimp only [cxK, blkK]
  obtain ⟨x, y, rfl, d, A, rfl, hd, rfl, hA, k⟩ := h
  have h3 := hA.n3
  fail "x"
  refine we_lc (wi_list ?_)
  fail "x"
  refine ⟨hA, ?_⟩
  fail "x"
  have hpl : (profs (msOf A)).length ≤ 8 := by
    have h1 := profs_len (ms := msOf A) (rows := [[]]) fun m hm => by
      obtain ⟨b, hb, rfl⟩ := List.mem_map.mp hm
      exact hA.k2 b hb
    have h2 : (msOf A).length ≤ 3 := by unfold msOf; rw [List.length_map]; omega
    have h4 : 2 ^ (msOf A).length ≤ 2 ^ 3 := Nat.pow_le_pow_right (by omega) h2
    have h5 : (profs (msOf A)).length ≤ 1 * 2 ^ (msOf A).length := h1
    omega
  refine ⟨[2], fun i acc G' => (∃ rl : List (List Rt), acc = rl.map (enD A.length) ∧ rl.length = i ∧ ∀ l ∈ rl, l ∈ lots6) ∧ G' = G, by rw [List.length_map]; omega, by decide, ⟨⟨[], rfl, rfl, fun l hl => (by cases hl)⟩, rfl⟩, ?_, ?_⟩
  · rintro i x acc G' hx hl ⟨⟨rl, rfl, hrl, hro⟩, rfl⟩
    obtain ⟨r, hr, rfl⟩ := map_get hx
    fail "x"
    refine ⟨hd, fun l hl => ?_⟩
    fail "x"
    refine we_mapL (wi_list ?_)
    fail "x"
    refine ⟨[3], Ag, A, agD, fun _ => rT (0, 1), rfl, by decide, by omega, fun a ha => ?_, ?_⟩
    · fail "x"
      rfl
    fail "x"
    refine ⟨⟨rl ++ [l], ?_, by rw [List.length_append, hrl]; rfl, fun q hq => ?_⟩, rfl⟩
    · rw [List.map_append, List.map_cons, List.map_nil]
      unfold enD
      rw [List.map_replicate, List.map_const']
    · rcases List.mem_append.mp hq with hq | hq
      · exact hro q hq
      · rw [List.mem_singleton.mp hq]; exact hl
  · rintro acc G' hl ⟨⟨rl, rfl, hrl, hro⟩, rfl⟩
    fail "x"
    exact k rl ⟨by rw [hrl, List.length_map], hro⟩
theorem o__law_rule {P : Program} {w : World} {K : PySem.W.Frag} {mg : Str → Option Value} {base : Heap} (e : Ev P w K mg base) : OkD P w K mg base 3 (He.ga K "_law_rule") ["_law_draws_here", "_law_agents"] [] F__law_rule := by
  obtain ⟨fd, FD⟩ := e.d__law_rule
  exact okN FD (n__law_rule e FD) fun _ _ _ _ _ _ us hl => match us, hl with | [_, _], _ => rfl
theorem salt_at {r : Nat} (h : r < 3) : ∃ z : Str, PyData.strOk z = true ∧ ([PyData.str "s", .str "t", .str "salt"] : List PyData)[r]? = some (.str z) := by
  have : r = 0 ∨ r = 1 ∨ r = 2 := by omega
  rcases this with rfl | rfl | rfl
  · exact ⟨"s", by decide +kernel, rfl⟩
  · exact ⟨"t", by decide +kernel, rfl⟩
  · exact ⟨"salt", by decide +kernel, rfl⟩
theorem tick_at {r : Nat} (h : r < 5) : ∃ t ∈ ticks5, ([PyData.tuple [.int 0, .int 1], .tuple [.int 1, .int 2], .tuple [.int 1, .int 3], .tuple [.int 5, .int 6], .tuple [.int 999, .int 1000]] : List PyData)[r]? = some (rT t) := by
  have : r = 0 ∨ r = 1 ∨ r = 2 ∨ r = 3 ∨ r = 4 := by omega
  rcases this with rfl | rfl | rfl | rfl | rfl
  · exact ⟨(0, 1), by decide, rfl⟩
  · exact ⟨(1, 2), by decide, rfl⟩
  · exact ⟨(1, 3), by decide, rfl⟩
  · exact ⟨(5, 6), by decide, rfl⟩
  · exact ⟨(999, 1000), by decide, rfl⟩
theorem tick5_in : ∀ t ∈ ticks5, t ∈ ticks ∧ t ≠ (1, 1) := by decide

theorem sc__law_reports : FnScope ["_law_draws_here", "_law_agents", "_law_tickets", "_law_found", "_law_k", "_law_salt"] ["_law_draws_here", "_law_agents"] (defScope (top 92)) := ⟨rfl, rfl, rfl, by decide +kernel, rfl, by decide +kernel, by decide +kernel⟩
theorem n__law_reports {P : Program} {w : World} {K : PySem.W.Frag} {mg : Str → Option Value} {base : Heap} {fd : FuncData} {dvs : List V} {kws : List (Str × V)} (e : Ev P w K mg base) (FD : FunD K "_law_reports" "_law_reports" (defArgs (top 92)) (defBody (top 92)) (defScope (top 92)) dvs kws (He.ga K "_law_reports") fd) : FnOk P w K mg base CX0 2 (He.ga K "_law_reports") fd ["_law_draws_here", "_law_agents"] (spD K F__law_reports) := by
  have S := sc__law_reports
  refine okD FD S (fun _ _ _ h => len2 h) fun cdv A outer s H E hr => ⟨_, (pss_cons (ps_set (i := 2) S.nd rfl (by first | exact Or.inl rfl | exact Or.inr rfl) (pe_lst (pa_cons (pe_tup (pa_cons pe_int (pa_cons pe_int pa_nil))) (pa_cons (pe_tup (pa_cons pe_int (pa_cons pe_int pa_nil))) (pa_cons (pe_tup (pa_cons pe_int (pa_cons pe_int pa_nil))) (pa_cons (pe_tup (pa_cons pe_int (pa_cons pe_int pa_nil))) (pa_cons (pe_tup (pa_cons pe_int (pa_cons pe_int pa_nil))) pa_nil)))))))
      (pss_cons (ps_set (i := 3) S.nd rfl (by first | exact Or.inl rfl | exact Or.inr rfl) (pe_lstG pa_nil))
      (pss_cons (ps_for PassesOwn.never rfl (pi_range1 rfl e.x_range (pa_cons (pe_callB (k_len K) rfl e.x_len (by decide +kernel) (pa_cons (pv 1) pa_nil)) pa_nil)) (pg_name (i := 4) S.nd rfl (by first | exact Or.inl rfl | exact Or.inr rfl)) (pss_cons (ps_set (i := 5) S.nd rfl (by first | exact Or.inl rfl | exact Or.inr rfl) (pe_ix (k_ix K) (pe_lst (pa_cons pe_str (pa_cons pe_str (pa_cons pe_str pa_nil)))) (k_cl K (o__law_take e) (hr.mono (by decide)) e.g__law_take (pa_cons (pv 0) (pa_cons pe_int pa_nil))) (fun _ _ => rfl)))
      (pss_one (ps_expr (k_bm K PySem.F.plainAttrs_list PySem.F.slot_list_append PySem.F.type_list_append mt_append (pv 3) (pa_cons (pe_tup (pa_cons (k_cl K (o__law_take e) (hr.mono (by decide)) e.g__law_take (pa_cons (pv 0) (pa_cons (pe_callB (k_len K) rfl e.x_len (by decide +kernel) (pa_cons (pe_ix (k_ix K) (pe_ix (k_ix K) (pv 1) (pv 4) (fun _ _ => rfl)) pe_int (fun _ _ => rfl)) pa_nil)) pa_nil))) (pa_cons (pv 5) (pa_cons (pe_ix (k_ix K) (pv 2) (k_cl K (o__law_take e) (hr.mono (by decide)) e.g__law_take (pa_cons (pv 0) (pa_cons pe_int pa_nil))) (fun _ _ => rfl)) pa_nil)))) pa_nil))))))
      (pss_one (ps_ret (pv 3)))))), ?_⟩
  intro ds G Φ h
  try dsimp only [cxK, blkK]
  obtain ⟨x, y, rfl, d, A, rfl, hd, rfl, hA, k⟩ := h
  have h3 := hA.n3
  have hAl : ((A.map agD).length : Int) = (A.length : Nat) := by rw [List.length_map]
  fail "n"
  fail "n"
  intro p hp
  have hdp : d ≠ p := neG_none hd hp
  refine ws_seq (ws_for (wi_rng1 ?_))
  fail "v"
  rw [hAl]
  refine ⟨by omega, by omega, ?_⟩
  rw [Int.toNat_natCast]
  refine ⟨[4], fun i δ' G' => ∃ (reps : List Rp) (y4 y5 : Option Dt), δ' = [some (.obj d), some (.dat (.list (A.map agD))), some (.dat (.list [.tuple [.int 0, .int 1], .tuple [.int 1, .int 2], .tuple [.int 1, .int 3], .tuple [.int 5, .int 6], .tuple [.int 999, .int 1000]])), some (.obj p), y4, y5] ∧
      G' = updG G p (.lst (reps.map rpD)) ∧ reps.length = i ∧ RpOk A reps, ⟨[], none, none, rfl, rfl, rfl, fun i r a h1 => (by cases h1)⟩, ?_, ?_⟩
  · rintro i x δ' G' hx ⟨reps, y4, y5, rfl, rfl, hrl, hro⟩
    obtain ⟨hi, rfl⟩ := upD_get.mp hx
    have ha : A[i]? = some A[i] := List.getElem?_eq_getElem hi
    have ak1 := hA.k1 _ (List.mem_of_getElem? ha)
    have ak2 := hA.k2 _ (List.mem_of_getElem? ha)
    have hkl : ((A[i].2.map kdD).length : Int) = (A[i].2.length : Nat) := by rw [List.length_map]
    have hm : (reps.map rpD).length = reps.length := List.length_map _
    rw [Int.zero_add]
    fail "x"
    intro r hr
    obtain ⟨z, hz, ez⟩ := salt_at (r := r) (by omega)
    refine dIx_l (atI_nat ez) ?_
    fail "x"
    refine dIx_l (atI_nat (by rw [List.getElem?_map, ha]; rfl)) ?_
    fail "x"
    rw [hkl]
    intro u hu
    fail "x"
    intro v hv
    obtain ⟨t, ht, et⟩ := tick_at (r := v) (by omega)
    refine dIx_l (atI_nat et) ?_
    fail "x"
    refine ⟨reps ++ [(((u : Nat) : Int), z, t)], _, _, rfl, by rw [updG_updG, List.map_append]; rfl, by rw [List.length_append, hrl]; rfl, fun j q a h1 h2 => ?_⟩
    by_cases hj : j < reps.length
    · rw [List.getElem?_append_left hj] at h1
      exact hro j q a h1 h2
    · rw [List.getElem?_append_right (by omega)] at h1
      have e0 : j - reps.length = 0 := by
        by_cases z0 : j - reps.length = 0
        · exact z0
        · rw [List.getElem?_eq_none (by simp; omega)] at h1; cases h1
      rw [e0] at h1
      have e1 : j = i := by omega
      subst e1
      rw [ha] at h2
      cases h2
      cases h1
      obtain ⟨t1, t2⟩ := tick5_in t ht
      exact ⟨by show (0 : Int) ≤ (u : Nat); omega, hu, hz, t1, t2⟩
  · rintro δ' G' ⟨reps, y4, y5, rfl, rfl, hrl, hro⟩
    rw [upD_length] at hrl
    refine ws_ret (we_let rfl updG_same ?_)
    rw [drop_same, drop_none hp]
    exact k reps hrl hro
theorem o__law_reports {P : Program} {w : World} {K : PySem.W.Frag} {mg : Str → Option Value} {base : Heap} (e : Ev P w K mg base) : OkD P w K mg base 2 (He.ga K "_law_reports") ["_law_draws_here", "_law_agents"] [] F__law_reports := by
  obtain ⟨fd, FD⟩ := e.d__law_reports
  exact okN FD (n__law_reports e FD) fun _ _ _ _ _ _ us hl => match us, hl with | [_, _], _ => rfl
end DL
/-! (Ld) -/
namespace DL
open PySem PySem.Spec PyProof.Rows L2

local macro_rules | `(tactic| fail "l") => `(tactic| first | exact Nat.le_of_ble_eq_true rfl | omega | (simp only [List.length_map, List.length_append, List.length_cons, List.length_nil]; omega))
local macro_rules | `(tactic| fail "aS") => `(tactic| with_reducible first | refine ws_seq ?_ | refine ws_if ?_ | refine ws_ret ?_ | refine ws_asg ?_ | refine ws_drop ?_ | refine ws_next ?_ | refine ws_retN ?_ | refine ws_fldF ?_ | refine ws_fldN ?_ | refine ws_dput ?_ | refine ws_asgT5 ?_ | refine ws_asgT4 ?_ | refine ws_asgT3 ?_)
local macro_rules | `(tactic| fail "aO") => `(tactic| with_reducible first | refine we_ix ?_ | refine we_II ?_ | refine we_IB ?_ | refine we_eq ?_ | refine we_ne ?_ | refine we_add ?_ | refine we_addG ?_ | refine we_IC ?_ | refine we_eqD ?_ | refine we_neD ?_ | refine we_inD ?_ | refine we_notInD ?_ | refine we_in ?_ | refine we_inSg ?_)
local macro_rules | `(tactic| fail "aC") => `(tactic| with_reducible first | refine we_len ?_ | refine we_lenD ?_ | refine we_all ?_ | refine we_any ?_ | refine we_int1 ?_ | refine we_strI ?_ | refine we_listOf ?_ | refine we_tupOf ?_ | refine we_sum ?_ | refine we_abs ?_ | refine we_min2 ?_ | refine we_gcd ?_)
local macro_rules | `(tactic| fail "aE") => `(tactic| first
  | ((with_reducible apply we_var); rfl)
  | with_reducible refine we_int ?_ | with_reducible refine we_str ?_ | with_reducible refine we_non ?_ | with_reducible refine we_bl ?_
  | ((with_reducible show WE _ (tOp _ _ _) _ _ _); fail "aO")
  | ((with_reducible show WE _ (tCB _ _) _ _ _); fail "aC")
  | with_reducible refine we_call ?_ | with_reducible refine we_fld ?_ | with_reducible refine we_meth' ?_ | with_reducible refine we_tup ?_ | with_reducible refine we_isi (by decide) ?_ | with_reducible refine we_lst ?_ | with_reducible refine we_lstG ?_
  | with_reducible refine we_and ?_ | with_reducible refine we_or ?_ | with_reducible refine we_not ?_ | with_reducible refine we_chainI ?_ | with_reducible refine we_isN ?_ | with_reducible refine we_notN ?_ | with_reducible refine we_append ?_ | with_reducible refine we_extend ?_ | with_reducible refine we_index ?_
  | with_reducible refine we_slL ?_ | with_reducible refine we_slT ?_ | with_reducible refine we_dget ?_ | with_reducible refine we_din ?_ | with_reducible refine we_dnotin ?_ | with_reducible refine we_dictG ?_ | with_reducible refine we_prop ?_ | with_reducible refine we_join ?_ | with_reducible refine we_neg ?_ | with_reducible refine we_lenSet ?_)
local macro_rules | `(tactic| fail "aT") => `(tactic| with_reducible first | refine wt_val ?_ | refine wt_tst ?_ | refine wt_and ?_ | refine wt_or ?_ | refine wt_not ?_ | refine wt_yes ?_)
local macro_rules | `(tactic| fail "aD") => `(tactic| with_reducible first | refine dEq_ii ?_ | refine dEq_ss ?_ | refine dEq_bb ?_ | refine dEq_nn ?_ | refine dEq_ni ?_ | refine dEq_in ?_ | refine dAdd_ii ?_ | refine dInt_i ?_ | refine dInt_b ?_ | refine dLen_l ?_ | refine dLen_t ?_)
local macro_rules | `(tactic| fail "a") => `(tactic| first
  | ((with_reducible show WE _ _ _ _ _); fail "aE")
  | ((with_reducible show WA _ _ _ _ _); (with_reducible first | refine wa_cons ?_ | refine wa_nil ?_))
  | ((with_reducible show WS _ _ _ _ _); fail "aS")
  | ((with_reducible show WT _ _ _ _ _); fail "aT")
  | ((with_reducible show WG _ _ _ _ _ _ _); first | with_reducible refine wg_name ?_ | ((with_reducible refine wg_tup ?_ ?_); rfl))
  | ((with_reducible show WGs _ _ _ _ _ _ _); (with_reducible first | refine wgs_cons ?_ | refine wgs_nil ?_))
  | ((with_reducible show WO _ _ _ _ _); (with_reducible first | refine wo_none ?_ | refine wo_some ?_))
  | ((with_reducible show dIx _ _ _ _); first | ((with_reducible apply dIx_t); rfl) | ((with_reducible apply dIx_l); rfl))
  | ((with_reducible show dAdd _ _ _ _); first | with_reducible refine dAdd_ii ?_ | ((with_reducible refine dAdd_ll ?_ ?_); fail "l") | ((with_reducible apply dAdd_ol); (fail "h"); (fail "l")) | ((with_reducible refine dAdd_tt ?_ ?_); fail "l") | ((with_reducible refine dAdd_ss ?_ ?_); fail "l"))
  | fail "aD")
local macro_rules | `(tactic| fail "e") => `(tactic| ((fail_if_success (with_reducible show ∃ _ : NF, _)); (fail_if_success (with_reducible show ∃ _ : PF, _)); (fail_if_success (with_reducible show ∃ _ : DF, _)); (first | with_reducible refine ⟨_, _, rfl, rfl, ?_⟩ | with_reducible refine ⟨_, rfl, ?_⟩ | with_reducible refine ⟨rfl, ?_⟩ | with_reducible refine ⟨_, _, rfl, ?_⟩ | with_reducible refine ⟨_, _, _, rfl, ?_⟩ | with_reducible refine ⟨_, _, _, _, rfl, ?_⟩ | with_reducible refine ⟨_, _, _, _, _, rfl, ?_⟩ | ((refine ⟨?l, ?_⟩); (case l => (with_reducible show _ < 1000000); fail "l")) | ((refine ⟨?l, ?_⟩); (case l => (with_reducible show _ ≤ 1000000); fail "l")))))
local macro_rules | `(tactic| fail "g") => `(tactic| ((funext gb; simp only [updG, dropG]; repeat' split) <;> first | rfl | (exfalso; simp_all; done) | (simp_all; done)))
local macro_rules | `(tactic| fail "q") => `(tactic| first | assumption | exact Ne.symm (by assumption))
local macro_rules | `(tactic| fail "h") => `(tactic| first | assumption | exact updG_same | ((rw [updG_ne]); (fail "h"); (fail "q")))
local macro_rules | `(tactic| fail "z") => `(tactic| first | rfl | exact ⟨rfl, rfl⟩ | exact ⟨_, rfl, rfl⟩ | exact ⟨_, _, rfl, rfl⟩ | exact ⟨_, _, _, rfl, rfl⟩ | assumption)
local macro_rules | `(tactic| fail "t") => `(tactic| ((with_reducible refine ⟨_, _, rfl, ?h1, rfl, ?h2, ?tk⟩); (case h1 => fail "h"); (case h2 => first | decide | omega)))
local macro_rules | `(tactic| fail "f") => `(tactic| first
  | fail "t"
  | refine ⟨_, _, rfl, .inr (.inl rfl), ?_⟩ | refine ⟨_, _, rfl, .inl rfl, ?_⟩
  | (refine ⟨_, ?ds, rfl, .inr (.inr ⟨_, rfl, ?h1⟩), ?_⟩; (case h1 => fail "h"))
  | (refine ⟨_, ?ds, rfl, .inr ⟨_, rfl, ?h1⟩, ?_⟩; (case h1 => fail "h"))
  | ((with_reducible refine ⟨_, ?ds, ?d, rfl, ?h1, ?h2, ?_⟩); (case h1 => fail "h"); (case h2 => rfl))
  | ((with_reducible refine ⟨_, ?ds, rfl, ?h1, ?_⟩); (case h1 => fail "h"))
  | ((with_reducible refine ⟨_, ?ns, ?ds, rfl, ?h1, ?h2, ?_⟩); (case h1 => fail "h"); (case h2 => decide))
  | ((with_reducible refine ⟨_, ?ns, ?ds, rfl, (?h1 : _ = some (GO.ins _ ?ns ?ds)), ?_⟩); (case h1 => fail "h"))
  | ((with_reducible refine ⟨_, rfl, ⟨?ys, ?h1⟩, ?_⟩); (case h1 => fail "h"))
  | ((with_reducible refine ⟨_, ?xs, rfl, ?h1, ?h2, ?_⟩); (case h1 => fail "h"); (case h2 => omega)))
local macro_rules | `(tactic| fail "y") => `(tactic| first
  | ((with_reducible refine ⟨fun _ => ?_, fun hbb => ?nope⟩); (case nope => first | exact Bool.noConfusion (show true = false from hbb) | exact Bool.noConfusion (show false = true from hbb) | exact absurd (of_decide_eq_true hbb) (by omega) | exact absurd (of_decide_eq_false hbb) (by omega) | (simp at hbb; done) | (simp at hbb; omega)))
  | ((with_reducible refine ⟨fun hbb => ?nope, fun _ => ?_⟩); (case nope => first | exact Bool.noConfusion (show true = false from hbb) | exact Bool.noConfusion (show false = true from hbb) | exact absurd (of_decide_eq_true hbb) (by omega) | exact absurd (of_decide_eq_false hbb) (by omega) | (simp at hbb; done) | (simp at hbb; omega))))
local macro_rules | `(tactic| fail "w") => `(tactic| repeat fail "a")
local macro_rules | `(tactic| fail "x") => `(tactic| repeat (first | fail "a" | fail "f" | fail "e" | fail "y"))
local macro_rules | `(tactic| fail "b") => `(tactic| first
  | ((with_reducible show WE _ _ _ _ _); fail "aE")
  | ((with_reducible show WA _ _ _ _ _); (with_reducible first | refine wa_cons ?_ | refine wa_nil ?_))
  | ((with_reducible show WT _ _ _ _ _); fail "aT")
  | ((with_reducible show WG _ _ _ _ _ _ _); first | with_reducible refine wg_name ?_ | ((with_reducible refine wg_tup ?_ ?_); rfl))
  | ((with_reducible show WGs _ _ _ _ _ _ _); (with_reducible first | refine wgs_cons ?_ | refine wgs_nil ?_))
  | ((with_reducible show WO _ _ _ _ _); (with_reducible first | refine wo_none ?_ | refine wo_some ?_))
  | ((with_reducible show dIx _ _ _ _); first | ((with_reducible apply dIx_t); rfl) | ((with_reducible apply dIx_l); rfl))
  | ((with_reducible show dAdd _ _ _ _); first | with_reducible refine dAdd_ii ?_ | ((with_reducible refine dAdd_ll ?_ ?_); fail "l") | ((with_reducible apply dAdd_ol); (fail "h"); (fail "l")) | ((with_reducible refine dAdd_tt ?_ ?_); fail "l") | ((with_reducible refine dAdd_ss ?_ ?_); fail "l"))
  | fail "aD")
local macro_rules | `(tactic| fail "v") => `(tactic| repeat (first | fail "b" | fail "f" | fail "e" | fail "y"))
local macro_rules | `(tactic| fail "n") => `(tactic| ((with_reducible refine ws_seq ?_); (fail "aS"); (fail "v")))

abbrev F__law_forge (K : PySem.W.Frag) : FT := F4 fun x y z u G Φ => ∃ (d : Addr) (f : NF) (st : NSt) (B m : Nat), x = .obj d ∧ G d = some .nums ∧ y = .obj f.t ∧ NAt K f st G ∧ NOk f ∧ NInv f st ∧ NLe B f st ∧ B ≤ 90000 ∧ z = .dat (.int ((m : Nat) : Int)) ∧ m ≤ f.A.length ∧ f.hb m = false ∧ u = .dat (.list (f.A.map agD)) ∧
  ∀ xs st' G', NGo K f st G st' G' → NLe (B + 4) f st' → Φ (.dat (.list xs)) G'
abbrev F__law_act (K : PySem.W.Frag) : FT := F4 fun x y z u G Φ => ∃ (d : Addr) (f : NF) (st : NSt) (B : Nat), x = .obj d ∧ G d = some .nums ∧ y = .obj f.t ∧ NAt K f st G ∧ NOk f ∧ NInv f st ∧ NLe B f st ∧ B ≤ 90000 ∧ z = .dat (.list (f.hon.map .bool)) ∧ u = .dat (.list (f.A.map agD)) ∧
  ∀ xs st' G', NGo K f st G st' G' → NLe (B + 4) f st' → Φ (.dat (.list xs)) G'
abbrev F__law_course (K : PySem.W.Frag) : FT := F5 fun x y z u v G Φ => ∃ (d : Addr) (f : NF) (st : NSt) (B n : Nat), x = .obj d ∧ G d = some .nums ∧ y = .obj f.t ∧ NAt K f st G ∧ NOk f ∧ NInv f st ∧ NLe B f st ∧ B ≤ 80000 ∧ z = .dat (.list (f.hon.map .bool)) ∧ u = .dat (.list (f.A.map agD)) ∧ v = .dat (.int ((n : Nat) : Int)) ∧ n ≤ 20 ∧
  ∀ st' G', NGo K f st G st' G' → NLe (B + 4 * n) f st' → Φ (.dat (.bool true)) G'
abbrev F__law_rounds (K : PySem.W.Frag) : FT := F3 fun x y z G Φ => ∃ (f : NF) (st : NSt) (B : Nat), x = .obj f.t ∧ NAt K f st G ∧ NOk f ∧ NInv f st ∧ NLe B f st ∧ B ≤ 80000 ∧ y = .dat (.list (f.hon.map .bool)) ∧ z = .dat (.int 6) ∧
  ∀ st' G', NGo K f st G st' G' → Φ (.dat .none) G'
abbrev F__law_told_early (K : PySem.W.Frag) : FT := F2 fun x y G Φ => ∃ (f : NF) (st : NSt) (m : Nat), x = .obj f.t ∧ NAt K f st G ∧ NOk f ∧ NInv f st ∧ y = .dat (.int ((m : Nat) : Int)) ∧ f.H m ∧ Φ (.dat (.bool true)) G
/-- what the law draws by the tickets -/
def lDr (t : Int) : List Rt → Nat → Int → Nat
  | [], i, _ => i
  | c :: cs, i, r => if t < r + c.1 * (6000 / c.2) then i else lDr t cs (i + 1) (r + c.1 * (6000 / c.2))
def lDrawn (l ts : List Rt) : Nat := lDr ((ts.map fun t => t.1 * (6000 / t.2)).sum % 6000) l 0 0
abbrev F__law_drawn : FT := F2 fun x y G Φ => ∃ (l : List Rt) (reps : List Rp), x = .dat (.list (l.map rT)) ∧ y = .dat (.list (reps.map rpD)) ∧ l ∈ lots6 ∧ reps.length ≤ 3 ∧ (∀ r ∈ reps, r.2.2 ∈ ticks5) ∧ Φ (.dat (.int ((lDrawn l (reps.map (·.2.2)) : Nat) : Int))) G
/-- a result that is right -/
structure ResP (A : List Ag) (rl : List (List Rt)) (reps : List Rp) (hon : List Bool) (r : List Nat) (n : Nat) : Prop where
  prof : r ∈ profs (msOf A)
  own : ∀ (i : Nat) (p : Rp) (k : Nat), reps[i]? = some p → hon[i + 1]? = some true → r[i]? = some k → ((k : Nat) : Int) = p.1
  n3 : n < 3
  pos : 0 < ((rl.getD (pnum (msOf A) r) []).getD n (0, 1)).1
  all : (∀ b ∈ hon.drop 1, b = true) → n = lDrawn (rl.getD (pnum (msOf A) r) []) (reps.map (·.2.2))
abbrev F__law_result_is_right : FT := F5 fun x a ru re ho G Φ => ∃ (A : List Ag) (rl : List (List Rt)) (reps : List Rp) (hon : List Bool), a = .dat (.list (A.map agD)) ∧ okG A ∧ ru = .dat (ruleD A.length rl) ∧ okR A rl ∧ re = .dat (.list (reps.map rpD)) ∧ reps.length = A.length ∧ RpOk A reps ∧ ho = .dat (.list (hon.map .bool)) ∧ hon.length = A.length + 1 ∧
  (x = .dat .none ∨ ∃ (r : List Nat) (n : Nat), x = .dat (.tuple [prD r, .int ((n : Nat) : Int)]) ∧ ResP A rl reps hon r n) ∧ Φ (.dat (.bool true)) G

theorem sc__law_told_early : FnScope ["_law_net", "_law_member", "_law_letters", "_law_letter"] ["_law_net", "_law_member"] (defScope (top 100)) := ⟨rfl, rfl, rfl, by decide +kernel, rfl, by decide +kernel, by decide +kernel⟩
theorem n__law_told_early {P : Program} {w : World} {K : PySem.W.Frag} {mg : Str → Option Value} {base : Heap} {fd : FuncData} {dvs : List V} {kws : List (Str × V)} (e : Ev P w K mg base) (FD : FunD K "_law_told_early" "_law_told_early" (defArgs (top 100)) (defBody (top 100)) (defScope (top 100)) dvs kws (He.ga K "_law_told_early") fd) : FnOk P w K mg base CX0 3 (He.ga K "_law_told_early") fd ["_law_net", "_law_member"] (spD K (F__law_told_early K)) := by
  have S := sc__law_told_early
  refine okD FD S (fun _ _ _ h => len2 h) fun cdv A outer s H E hr => ⟨_, (pss_cons (ps_set (i := 2) S.nd rfl (by first | exact Or.inl rfl | exact Or.inr rfl) (k_me K e.c_Net e.h_Net_receipts_of (o_Net_receipts_of e) (hr.mono (by decide)) (pv 0) (pa_cons (pv 1) pa_nil)))
      (pss_cons (ps_for PassesOwn.never rfl (k_ilist K (pv 2)) (pg_name (i := 3) S.nd rfl (by first | exact Or.inl rfl | exact Or.inr rfl)) (pss_cons (ps_if (pt_cmpR op_eq (pe_ix (k_ix K) (pv 3) pe_int (fun _ _ => rfl)) pe_str (nomark _)) (pss_one (ps_ret pe_bl)) pss_nil)
      (pss_one (ps_if (PW.pt (pw_and (pt_cmpR op_eq (pe_ix (k_ix K) (pv 3) pe_int (fun _ _ => rfl)) (pv 1) (nomark _)) (pw_and1 (pt_cmpR op_ne (pe_ix (k_ix K) (pv 3) pe_int (fun _ _ => rfl)) pe_str (nomark _))))) (pss_one (ps_ret pe_bl)) pss_nil))))
      (pss_one (ps_ret pe_bl)))), ?_⟩
  intro ds G Φ h
  try dsimp only [cxK, blkK]
  obtain ⟨x, y, rfl, f, st, m, rfl, a, o, i, rfl, hH, k⟩ := h
  have h1 := a.tt
  have htold := (i.p m hH).told
  fail "v"
  with_reducible refine ws_seq ?_
  with_reducible refine ws_asg ?_
  fail "v"
  refine ⟨f, st, m, rfl, a, o, i, rfl, hH, ?_⟩
  refine ws_seq (ws_for (wi_list ?_))
  fail "v"
  refine ⟨[3], fun j δ' G' => ∃ (y3 : Option Dt), δ' = [some (.obj f.t), some (.dat (.int ((m : Nat) : Int))), some (.dat (.list ((st.ps m).kept.map ltD))), y3] ∧ G' = G ∧ ∀ j' q, j' < j → (st.ps m).kept[j']? = some q → q.1 ≠ "list", ⟨none, rfl, rfl, fun j' q h => (by omega)⟩, ?_, ?_⟩
  · rintro j x δ' G' hx ⟨y3, rfl, rfl, hn⟩
    obtain ⟨l, hl, rfl⟩ := map_get hx
    fail "x"
    refine ⟨fun hb => ?_, fun hb => ?_⟩
    · fail "x"
      exact k
    have hb : ¬ l.1 = "list" := of_decide_eq_false hb
    have hn' : ∀ j' q, j' < j + 1 → (st.ps m).kept[j']? = some q → q.1 ≠ "list" := fun j' q h1 h2 => by
      by_cases z : j' = j
      · subst z; rw [hl] at h2; cases h2; exact hb
      · exact hn j' q (by omega) h2
    have hno : l.2.1 = (m : Int) → l.1 = "commit" := fun e => Classical.byContradiction fun z => by
      obtain ⟨j', q, h3, h4, h5⟩ := htold j l hl e z
      exact hn j' q h3 h4 h5
    fail "x"
    refine ⟨fun hs => ?_, fun _ => ⟨fun z => (by cases z), fun _ => ?_⟩⟩
    · have hs := of_decide_eq_true hs
      fail "x"
      refine ⟨fun hc => ?_, fun _ => ?_⟩
      · rw [hno hs] at hc
        simp at hc
      · fail "x"
        exact hn'
    · fail "x"
      exact hn'
  · rintro δ' G' ⟨y3, rfl, rfl, hn⟩
    fail "x"
    exact k
theorem o__law_told_early {P : Program} {w : World} {K : PySem.W.Frag} {mg : Str → Option Value} {base : Heap} (e : Ev P w K mg base) : OkD P w K mg base 3 (He.ga K "_law_told_early") ["_law_net", "_law_member"] [] (F__law_told_early K) := by
  obtain ⟨fd, FD⟩ := e.d__law_told_early
  exact okN FD (n__law_told_early e FD) fun _ _ _ _ _ _ us hl => match us, hl with | [_, _], _ => rfl
theorem tick_num : ∀ t ∈ ticks5, 0 < t.2 ∧ t.2 < 2 ^ 64 ∧ -(2 ^ 64) < 6000 / t.2 ∧ 6000 / t.2 < 2 ^ 64 := by decide
theorem lot_num : ∀ l ∈ lots6, ∀ c ∈ l, 0 < c.2 ∧ c.2 < 2 ^ 64 ∧ -(2 ^ 64) < 6000 / c.2 ∧ 6000 / c.2 < 2 ^ 64 := by decide

theorem sc__law_drawn : FnScope ["_law_lot_here", "_law_reports_here", "_law_total", "_law_ticket", "_law_reached", "_law_k", "_law_row"] ["_law_lot_here", "_law_reports_here"] (defScope (top 98)) := ⟨rfl, rfl, rfl, by decide +kernel, rfl, by decide +kernel, by decide +kernel⟩
theorem n__law_drawn {P : Program} {w : World} {K : PySem.W.Frag} {mg : Str → Option Value} {base : Heap} {fd : FuncData} {dvs : List V} {kws : List (Str × V)} (e : Ev P w K mg base) (FD : FunD K "_law_drawn" "_law_drawn" (defArgs (top 98)) (defBody (top 98)) (defScope (top 98)) dvs kws (He.ga K "_law_drawn") fd) : FnOk P w K mg base CX0 1 (He.ga K "_law_drawn") fd ["_law_lot_here", "_law_reports_here"] (spD K F__law_drawn) := by
  have S := sc__law_drawn
  refine okD FD S (fun _ _ _ h => len2 h) fun cdv A outer s H E hr => ⟨_, (pss_cons (ps_set (i := 2) S.nd rfl (by first | exact Or.inl rfl | exact Or.inr rfl) (pe_callB (k_sum K rfl) rfl e.x_sum (by decide +kernel) (pa_cons (pe_lc (own := [("_law_row", 6)]) rfl S.nd (k_ilist K (pv 1)) (blkOk_by (by rfl)) (fun _ _ _ _ _ => (pg_name (i := 6) S.nd rfl (by first | exact Or.inl rfl | exact Or.inr rfl))) (fun _ _ _ _ _ => pts_nil) (fun _ _ _ _ _ => (pe_op op_mul (pe_ix (k_ix K) (pe_ix (k_ix K) (pv 6) pe_int (fun _ _ => rfl)) pe_int (fun _ _ => rfl)) (pe_op op_fdivW pe_int (pe_ix (k_ix K) (pe_ix (k_ix K) (pv 6) pe_int (fun _ _ => rfl)) pe_int (fun _ _ => rfl)))))) pa_nil)))
      (pss_cons (ps_set (i := 3) S.nd rfl (by first | exact Or.inl rfl | exact Or.inr rfl) (pe_op op_mod (pe_callTy call_intU rfl e.x_int (by decide +kernel) (pa_cons (pv 2) pa_nil)) pe_int))
      (pss_cons (ps_set (i := 4) S.nd rfl (by first | exact Or.inl rfl | exact Or.inr rfl) pe_int)
      (pss_cons (ps_for PassesOwn.never rfl (pi_range1 rfl e.x_range (pa_cons pe_int pa_nil)) (pg_name (i := 5) S.nd rfl (by first | exact Or.inl rfl | exact Or.inr rfl)) (pss_cons (ps_set (i := 4) S.nd rfl (by first | exact Or.inl rfl | exact Or.inr rfl) (pe_op (k_add K) (pv 4) (pe_op op_mul (pe_ix (k_ix K) (pe_ix (k_ix K) (pv 0) (pv 5) (fun _ _ => rfl)) pe_int (fun _ _ => rfl)) (pe_op op_fdivW pe_int (pe_ix (k_ix K) (pe_ix (k_ix K) (pv 0) (pv 5) (fun _ _ => rfl)) pe_int (fun _ _ => rfl))))))
      (pss_one (ps_if (pt_cmpR op_gt (pv 4) (pv 3) (nomark _)) (pss_one (ps_ret (pv 5))) pss_nil))))
      (pss_one (ps_ret pe_int)))))), ?_⟩
  intro ds G Φ h
  try dsimp only [cxK, blkK]
  obtain ⟨x, y, rfl, l, reps, rfl, rfl, hl, hr3, ht, k⟩ := h
  obtain ⟨l3, _, _, _⟩ := lots_all l hl
  have hln := lot_num l hl
  fail "x"
  refine we_mapL (wi_list ?_)
  fail "x"
  refine ⟨[6], Rp, reps, rpD, fun r => .int (r.2.2.1 * (6000 / r.2.2.2)), rfl, by decide, by omega, fun r hr => ?_, ?_⟩
  · obtain ⟨t1, t2, t3, t4⟩ := tick_num r.2.2 (ht r hr)
    fail "x"
    refine ⟨cdivw t1 t2, ?_⟩
    fail "x"
    refine ⟨.inr ⟨t3, t4⟩, ?_⟩
    fail "z"
  fail "v"
  refine ⟨_, (reps.map (·.2.2)).map fun t => t.1 * (6000 / t.2), rfl, .inl (by rw [List.map_map, List.map_map]; rfl), ?_⟩
  fail "x"
  refine ⟨by decide, ?_⟩
  fail "n"
  refine ws_seq (ws_for (wi_rng1 ?_))
  fail "v"
  refine ⟨by decide, by decide, ?_⟩
  refine ⟨[5], fun i δ' G' => ∃ (r : Int) (y5 : Option Dt), δ' = [some (.dat (.list (l.map rT))), some (.dat (.list (reps.map rpD))), some (.dat (.int (((reps.map (·.2.2)).map fun t => t.1 * (6000 / t.2)).sum))), some (.dat (.int (((reps.map (·.2.2)).map fun t => t.1 * (6000 / t.2)).sum % 6000))), some (.dat (.int r)), y5, none] ∧ G' = G ∧
      lDr (((reps.map (·.2.2)).map fun t => t.1 * (6000 / t.2)).sum % 6000) (l.drop i) i r = lDrawn l (reps.map (·.2.2)), ⟨0, none, rfl, rfl, rfl⟩, ?_, ?_⟩
  · rintro i x δ' G' hx ⟨r, y5, rfl, rfl, hd⟩
    obtain ⟨hi, rfl⟩ := upD_get.mp hx
    have hi : i < 3 := hi
    have hc : l[i]? = some l[i] := List.getElem?_eq_getElem (by omega)
    obtain ⟨c1, c2, c3, c4⟩ := hln _ (List.mem_of_getElem? hc)
    have ed : l.drop i = l[i] :: l.drop (i + 1) := List.drop_eq_getElem_cons (by omega)
    rw [ed] at hd
    rw [Int.zero_add]
    fail "x"
    refine dIx_l (atI_nat (by rw [List.getElem?_map, hc]; rfl)) ?_
    fail "x"
    refine dIx_l (atI_nat (by rw [List.getElem?_map, hc]; rfl)) ?_
    fail "x"
    refine ⟨cdivw c1 c2, ?_⟩
    fail "x"
    refine ⟨.inr ⟨c3, c4⟩, ?_⟩
    fail "x"
    refine ⟨fun hb => ?_, fun hb => ?_⟩
    · have hb := of_decide_eq_true hb
      fail "x"
      have e : lDrawn l (reps.map (·.2.2)) = i := by
        rw [← hd]
        exact if_pos hb
      rw [e] at k
      exact k
    · have hb := of_decide_eq_false hb
      fail "x"
      rw [← hd]
      exact (if_neg hb).symm
  · rintro δ' G' ⟨r, y5, rfl, rfl, hd⟩
    have e : l.drop (upD 0 (3 : Int).toNat).length = [] := List.drop_eq_nil_of_le (by rw [l3]; exact Nat.le_refl _)
    rw [e] at hd
    have hd : 3 = lDrawn l (reps.map (·.2.2)) := hd
    rw [← hd] at k
    fail "x"
    exact k
theorem o__law_drawn {P : Program} {w : World} {K : PySem.W.Frag} {mg : Str → Option Value} {base : Heap} (e : Ev P w K mg base) : OkD P w K mg base 1 (He.ga K "_law_drawn") ["_law_lot_here", "_law_reports_here"] [] F__law_drawn := by
  obtain ⟨fd, FD⟩ := e.d__law_drawn
  exact okN FD (n__law_drawn e FD) fun _ _ _ _ _ _ us hl => match us, hl with | [_, _], _ => rfl
end DL
/-! (Le) -/
namespace DL
open PySem PySem.Spec PyProof.Rows L2

local macro_rules | `(tactic| fail "l") => `(tactic| first | exact Nat.le_of_ble_eq_true rfl | omega | (simp only [List.length_map, List.length_append, List.length_cons, List.length_nil]; omega))
local macro_rules | `(tactic| fail "aS") => `(tactic| with_reducible first | refine ws_seq ?_ | refine ws_if ?_ | refine ws_ret ?_ | refine ws_asg ?_ | refine ws_drop ?_ | refine ws_next ?_ | refine ws_retN ?_ | refine ws_fldF ?_ | refine ws_fldN ?_ | refine ws_dput ?_ | refine ws_asgT5 ?_ | refine ws_asgT4 ?_ | refine ws_asgT3 ?_)
local macro_rules | `(tactic| fail "aO") => `(tactic| with_reducible first | refine we_ix ?_ | refine we_II ?_ | refine we_IB ?_ | refine we_eq ?_ | refine we_ne ?_ | refine we_add ?_ | refine we_addG ?_ | refine we_IC ?_ | refine we_eqD ?_ | refine we_neD ?_ | refine we_inD ?_ | refine we_notInD ?_ | refine we_in ?_ | refine we_inSg ?_)
local macro_rules | `(tactic| fail "aC") => `(tactic| with_reducible first | refine we_len ?_ | refine we_lenD ?_ | refine we_all ?_ | refine we_any ?_ | refine we_int1 ?_ | refine we_strI ?_ | refine we_listOf ?_ | refine we_tupOf ?_ | refine we_sum ?_ | refine we_abs ?_ | refine we_min2 ?_ | refine we_gcd ?_)
local macro_rules | `(tactic| fail "aE") => `(tactic| first
  | ((with_reducible apply we_var); rfl)
  | with_reducible refine we_int ?_ | with_reducible refine we_str ?_ | with_reducible refine we_non ?_ | with_reducible refine we_bl ?_
  | ((with_reducible show WE _ (tOp _ _ _) _ _ _); fail "aO")
  | ((with_reducible show WE _ (tCB _ _) _ _ _); fail "aC")
  | with_reducible refine we_call ?_ | with_reducible refine we_fld ?_ | with_reducible refine we_meth' ?_ | with_reducible refine we_tup ?_ | with_reducible refine we_isi (by decide) ?_ | with_reducible refine we_lst ?_ | with_reducible refine we_lstG ?_
  | with_reducible refine we_and ?_ | with_reducible refine we_or ?_ | with_reducible refine we_not ?_ | with_reducible refine we_chainI ?_ | with_reducible refine we_isN ?_ | with_reducible refine we_notN ?_ | with_reducible refine we_append ?_ | with_reducible refine we_extend ?_ | with_reducible refine we_index ?_
  | with_reducible refine we_slL ?_ | with_reducible refine we_slT ?_ | with_reducible refine we_dget ?_ | with_reducible refine we_din ?_ | with_reducible refine we_dnotin ?_ | with_reducible refine we_dictG ?_ | with_reducible refine we_prop ?_ | with_reducible refine we_join ?_ | with_reducible refine we_neg ?_ | with_reducible refine we_lenSet ?_)
local macro_rules | `(tactic| fail "aT") => `(tactic| with_reducible first | refine wt_val ?_ | refine wt_tst ?_ | refine wt_and ?_ | refine wt_or ?_ | refine wt_not ?_ | refine wt_yes ?_)
local macro_rules | `(tactic| fail "aD") => `(tactic| with_reducible first | refine dEq_ii ?_ | refine dEq_ss ?_ | refine dEq_bb ?_ | refine dEq_nn ?_ | refine dEq_ni ?_ | refine dEq_in ?_ | refine dAdd_ii ?_ | refine dInt_i ?_ | refine dInt_b ?_ | refine dLen_l ?_ | refine dLen_t ?_)
local macro_rules | `(tactic| fail "a") => `(tactic| first
  | ((with_reducible show WE _ _ _ _ _); fail "aE")
  | ((with_reducible show WA _ _ _ _ _); (with_reducible first | refine wa_cons ?_ | refine wa_nil ?_))
  | ((with_reducible show WS _ _ _ _ _); fail "aS")
  | ((with_reducible show WT _ _ _ _ _); fail "aT")
  | ((with_reducible show WG _ _ _ _ _ _ _); first | with_reducible refine wg_name ?_ | ((with_reducible refine wg_tup ?_ ?_); rfl))
  | ((with_reducible show WGs _ _ _ _ _ _ _); (with_reducible first | refine wgs_cons ?_ | refine wgs_nil ?_))
  | ((with_reducible show WO _ _ _ _ _); (with_reducible first | refine wo_none ?_ | refine wo_some ?_))
  | ((with_reducible show dIx _ _ _ _); first | ((with_reducible apply dIx_t); rfl) | ((with_reducible apply dIx_l); rfl))
  | ((with_reducible show dAdd _ _ _ _); first | with_reducible refine dAdd_ii ?_ | ((with_reducible refine dAdd_ll ?_ ?_); fail "l") | ((with_reducible apply dAdd_ol); (fail "h"); (fail "l")) | ((with_reducible refine dAdd_tt ?_ ?_); fail "l") | ((with_reducible refine dAdd_ss ?_ ?_); fail "l"))
  | fail "aD")
local macro_rules | `(tactic| fail "e") => `(tactic| ((fail_if_success (with_reducible show ∃ _ : NF, _)); (fail_if_success (with_reducible show ∃ _ : PF, _)); (fail_if_success (with_reducible show ∃ _ : DF, _)); (first | with_reducible refine ⟨_, _, rfl, rfl, ?_⟩ | with_reducible refine ⟨_, rfl, ?_⟩ | with_reducible refine ⟨rfl, ?_⟩ | with_reducible refine ⟨_, _, rfl, ?_⟩ | with_reducible refine ⟨_, _, _, rfl, ?_⟩ | with_reducible refine ⟨_, _, _, _, rfl, ?_⟩ | with_reducible refine ⟨_, _, _, _, _, rfl, ?_⟩ | ((refine ⟨?l, ?_⟩); (case l => (with_reducible show _ < 1000000); fail "l")) | ((refine ⟨?l, ?_⟩); (case l => (with_reducible show _ ≤ 1000000); fail "l")))))
local macro_rules | `(tactic| fail "g") => `(tactic| ((funext gb; simp only [updG, dropG]; repeat' split) <;> first | rfl | (exfalso; simp_all; done) | (simp_all; done)))
local macro_rules | `(tactic| fail "q") => `(tactic| first | assumption | exact Ne.symm (by assumption))
local macro_rules | `(tactic| fail "h") => `(tactic| first | assumption | exact updG_same | ((rw [updG_ne]); (fail "h"); (fail "q")))
local macro_rules | `(tactic| fail "z") => `(tactic| first | rfl | exact ⟨rfl, rfl⟩ | exact ⟨_, rfl, rfl⟩ | exact ⟨_, _, rfl, rfl⟩ | exact ⟨_, _, _, rfl, rfl⟩ | assumption)
local macro_rules | `(tactic| fail "t") => `(tactic| ((with_reducible refine ⟨_, _, rfl, ?h1, rfl, ?h2, ?tk⟩); (case h1 => fail "h"); (case h2 => first | decide | omega)))
local macro_rules | `(tactic| fail "f") => `(tactic| first
  | fail "t"
  | refine ⟨_, _, rfl, .inr (.inl rfl), ?_⟩ | refine ⟨_, _, rfl, .inl rfl, ?_⟩
  | (refine ⟨_, ?ds, rfl, .inr (.inr ⟨_, rfl, ?h1⟩), ?_⟩; (case h1 => fail "h"))
  | (refine ⟨_, ?ds, rfl, .inr ⟨_, rfl, ?h1⟩, ?_⟩; (case h1 => fail "h"))
  | ((with_reducible refine ⟨_, ?ds, ?d, rfl, ?h1, ?h2, ?_⟩); (case h1 => fail "h"); (case h2 => rfl))
  | ((with_reducible refine ⟨_, ?ds, rfl, ?h1, ?_⟩); (case h1 => fail "h"))
  | ((with_reducible refine ⟨_, ?ns, ?ds, rfl, ?h1, ?h2, ?_⟩); (case h1 => fail "h"); (case h2 => decide))
  | ((with_reducible refine ⟨_, ?ns, ?ds, rfl, (?h1 : _ = some (GO.ins _ ?ns ?ds)), ?_⟩); (case h1 => fail "h"))
  | ((with_reducible refine ⟨_, rfl, ⟨?ys, ?h1⟩, ?_⟩); (case h1 => fail "h"))
  | ((with_reducible refine ⟨_, ?xs, rfl, ?h1, ?h2, ?_⟩); (case h1 => fail "h"); (case h2 => omega)))
local macro_rules | `(tactic| fail "y") => `(tactic| first
  | ((with_reducible refine ⟨fun _ => ?_, fun hbb => ?nope⟩); (case nope => first | exact Bool.noConfusion (show true = false from hbb) | exact Bool.noConfusion (show false = true from hbb) | exact absurd (of_decide_eq_true hbb) (by omega) | exact absurd (of_decide_eq_false hbb) (by omega) | (simp at hbb; done) | (simp at hbb; omega)))
  | ((with_reducible refine ⟨fun hbb => ?nope, fun _ => ?_⟩); (case nope => first | exact Bool.noConfusion (show true = false from hbb) | exact Bool.noConfusion (show false = true from hbb) | exact absurd (of_decide_eq_true hbb) (by omega) | exact absurd (of_decide_eq_false hbb) (by omega) | (simp at hbb; done) | (simp at hbb; omega))))
local macro_rules | `(tactic| fail "w") => `(tactic| repeat fail "a")
local macro_rules | `(tactic| fail "x") => `(tactic| repeat (first | fail "a" | fail "f" | fail "e" | fail "y"))
local macro_rules | `(tactic| fail "b") => `(tactic| first
  | ((with_reducible show WE _ _ _ _ _); fail "aE")
  | ((with_reducible show WA _ _ _ _ _); (with_reducible first | refine wa_cons ?_ | refine wa_nil ?_))
  | ((with_reducible show WT _ _ _ _ _); fail "aT")
  | ((with_reducible show WG _ _ _ _ _ _ _); first | with_reducible refine wg_name ?_ | ((with_reducible refine wg_tup ?_ ?_); rfl))
  | ((with_reducible show WGs _ _ _ _ _ _ _); (with_reducible first | refine wgs_cons ?_ | refine wgs_nil ?_))
  | ((with_reducible show WO _ _ _ _ _); (with_reducible first | refine wo_none ?_ | refine wo_some ?_))
  | ((with_reducible show dIx _ _ _ _); first | ((with_reducible apply dIx_t); rfl) | ((with_reducible apply dIx_l); rfl))
  | ((with_reducible show dAdd _ _ _ _); first | with_reducible refine dAdd_ii ?_ | ((with_reducible refine dAdd_ll ?_ ?_); fail "l") | ((with_reducible apply dAdd_ol); (fail "h"); (fail "l")) | ((with_reducible refine dAdd_tt ?_ ?_); fail "l") | ((with_reducible refine dAdd_ss ?_ ?_); fail "l"))
  | fail "aD")
local macro_rules | `(tactic| fail "v") => `(tactic| repeat (first | fail "b" | fail "f" | fail "e" | fail "y"))
local macro_rules | `(tactic| fail "n") => `(tactic| ((with_reducible refine ws_seq ?_); (fail "aS"); (fail "v")))

theorem kind_at {r : Nat} (h : r < 5) : ∃ z : Str, z ∈ kinds5 ∧ ([PyData.str "call", .str "commit", .str "list", .str "open", .str "book"] : List PyData)[r]? = some (.str z) := by
  have : r = 0 ∨ r = 1 ∨ r = 2 ∨ r = 3 ∨ r = 4 := by omega
  rcases this with rfl | rfl | rfl | rfl | rfl
  · exact ⟨"call", by decide +kernel, rfl⟩
  · exact ⟨"commit", by decide +kernel, rfl⟩
  · exact ⟨"list", by decide +kernel, rfl⟩
  · exact ⟨"open", by decide +kernel, rfl⟩
  · exact ⟨"book", by decide +kernel, rfl⟩
def fOwn (n : Int) (l : Lt) : Option Lt := if l.2.1 = n then some l else none
def fCom (l : Lt) : Option (Int × Int) := if l.1 = "commit" then (match l.2.2.1 with | .num i => some (i, l.2.2.2) | _ => none) else none
def fTup (l : Lt) : Option Lt := match l.2.2.1 with | .opn _ => some l | _ => none
def fOpn (l : Lt) : Option (Opn × Int) := if l.1 = "open" then (match l.2.2.1 with | .opn o => some (o, l.2.2.2) | _ => none) else none
def fLst (l : Lt) : Option By := if l.1 = "list" then some l.2.2.1 else none
abbrev pL (p : Int × Int) : PyData := .list [.int p.1, .int p.2]
abbrev oL (p : Opn × Int) : PyData := .list [opD p.1, .int p.2]
theorem fm_mem {α β : Type} {f : α → Option β} {xs : List α} {y : β} (h : y ∈ xs.filterMap f) : ∃ x ∈ xs, f x = some y := List.mem_filterMap.mp h
theorem own_ok {n : Int} {xs : List Lt} {B : Nat} (h : ∀ l ∈ xs, okL l) (hB : xs.length ≤ B) : (∀ l ∈ xs.filterMap (fOwn n), okL l) ∧ (xs.filterMap (fOwn n)).length ≤ B := ⟨fun l hl => (by
  obtain ⟨x, hx, e⟩ := fm_mem hl
  unfold fOwn at e
  split at e
  · cases e; exact h _ hx
  · cases e), Nat.le_trans (List.length_filterMap_le _ _) hB⟩
theorem tup_ok {xs : List Lt} {B : Nat} (h : ∀ l ∈ xs, okL l) (hB : xs.length ≤ B) : (∀ l ∈ xs.filterMap fTup, ∃ o, l.2.2.1 = .opn o ∧ okO o) ∧ (xs.filterMap fTup).length ≤ B := ⟨fun l hl => (by
  obtain ⟨x, hx, e⟩ := fm_mem hl
  unfold fTup at e
  split at e
  · rename_i o eo
    cases e
    have := (h _ hx).2
    rw [eo] at this
    exact ⟨o, eo, this⟩
  · cases e), Nat.le_trans (List.length_filterMap_le _ _) hB⟩
theorem opn_ok {xs : List Lt} (h : ∀ l ∈ xs, ∃ o, l.2.2.1 = By.opn o ∧ okO o) : ∀ p ∈ xs.filterMap fOpn, okO p.1 := fun p hp => by
  obtain ⟨x, hx, e⟩ := fm_mem hp
  obtain ⟨o, eo, ho⟩ := h x hx
  unfold fOpn at e
  rw [eo] at e
  split at e
  · cases e; exact ho
  · cases e
theorem lst_ok {xs : List Lt} (h : ∀ l ∈ xs, okL l) : ∀ b ∈ xs.filterMap fLst, By.ok b := fun b hb => by
  obtain ⟨x, hx, e⟩ := fm_mem hb
  unfold fLst at e
  split at e
  · cases e; exact (h _ hx).2
  · cases e
/-- the body that a tuple of opens is -/
def byO : List (Opn × Int) → By
  | [] => .prs []
  | p :: l => .bks p l
theorem byO_d : ∀ {l : List (Opn × Int)}, (byO l).d = .tuple (l.map obD)
  | [] => rfl
  | _ :: _ => rfl
theorem byO_ok : ∀ {l : List (Opn × Int)}, l.length ≤ 3 → (∀ p ∈ l, okO p.1) → (byO l).ok
  | [], _, _ => Nat.zero_le _
  | p :: l, h, k => ⟨by simp at h; omega, k p (by simp), fun q hq => k q (List.mem_cons_of_mem _ hq)⟩

theorem sc__law_forge : FnScope ["_law_draws_here", "_law_net", "_law_member", "_law_agents", "_law_letters", "_law_kinds", "_law_body", "_law_kind", "_law_which", "_law_commits", "_law_opens", "_law_k", "_law_own", "_law_pairs", "_law_lists", "_law_number", "_law_row"] ["_law_draws_here", "_law_net", "_law_member", "_law_agents"] (defScope (top 94)) := ⟨rfl, rfl, rfl, by decide +kernel, rfl, by decide +kernel, by decide +kernel⟩
theorem n__law_forge {P : Program} {w : World} {K : PySem.W.Frag} {mg : Str → Option Value} {base : Heap} {fd : FuncData} {dvs : List V} {kws : List (Str × V)} (e : Ev P w K mg base) (FD : FunD K "_law_forge" "_law_forge" (defArgs (top 94)) (defBody (top 94)) (defScope (top 94)) dvs kws (He.ga K "_law_forge") fd) : FnOk P w K mg base CX0 19 (He.ga K "_law_forge") fd ["_law_draws_here", "_law_net", "_law_member", "_law_agents"] (spD K (F__law_forge K)) := by
  have S := sc__law_forge
  refine okD FD S (fun _ _ _ h => len4 h) fun cdv A outer s H E hr => ⟨_, (pss_cons (ps_set (i := 4) S.nd rfl (by first | exact Or.inl rfl | exact Or.inr rfl) (k_me0 K e.c_Net e.h_Net_letters (o_Net_letters e) (hr.mono (by decide)) (pv 1)))
      (pss_cons (ps_set (i := 5) S.nd rfl (by first | exact Or.inl rfl | exact Or.inr rfl) (pe_lst (pa_cons pe_str (pa_cons pe_str (pa_cons pe_str (pa_cons pe_str (pa_cons pe_str pa_nil)))))))
      (pss_cons (ps_set (i := 6) S.nd rfl (by first | exact Or.inl rfl | exact Or.inr rfl) (k_cl K (o__law_take e) (hr.mono (by decide)) e.g__law_take (pa_cons (pv 0) (pa_cons pe_int pa_nil))))
      (pss_cons (ps_set (i := 7) S.nd rfl (by first | exact Or.inl rfl | exact Or.inr rfl) (pe_ix (k_ix K) (pv 5) (k_cl K (o__law_take e) (hr.mono (by decide)) e.g__law_take (pa_cons (pv 0) (pa_cons pe_int pa_nil))) (fun _ _ => rfl)))
      (pss_cons (ps_set (i := 8) S.nd rfl (by first | exact Or.inl rfl | exact Or.inr rfl) (k_cl K (o__law_take e) (hr.mono (by decide)) e.g__law_take (pa_cons (pv 0) (pa_cons pe_int pa_nil))))
      (pss_cons (ps_set (i := 9) S.nd rfl (by first | exact Or.inl rfl | exact Or.inr rfl) (pe_lstG pa_nil))
      (pss_cons (ps_set (i := 10) S.nd rfl (by first | exact Or.inl rfl | exact Or.inr rfl) (pe_lstG pa_nil))
      (pss_cons (ps_for PassesOwn.never rfl (pi_range1 rfl e.x_range (pa_cons (pe_callB (k_len K) rfl e.x_len (by decide +kernel) (pa_cons (pv 3) pa_nil)) pa_nil)) (pg_name (i := 11) S.nd rfl (by first | exact Or.inl rfl | exact Or.inr rfl)) (pss_cons (ps_setLc (i := 12) (own := [("_law_row", 16)]) rfl S.nd rfl rfl (by rfl) (k_ilist K (pv 4)) (blkOk_by (by rfl)) (fun _ _ _ _ _ => (pg_name (i := 16) S.nd rfl (by first | exact Or.inl rfl | exact Or.inr rfl))) (fun _ _ _ _ _ => (pts_one (pt_cmpR op_eq (pe_ix (k_ix K) (pv 16) pe_int (fun _ _ => rfl)) (pe_op (k_add K) (pv 11) pe_int) (nomark _)))) (fun _ _ _ _ _ => (pv 16)))
      (pss_cons (ps_setLc (i := 13) (own := [("_law_row", 16)]) rfl S.nd rfl rfl (by rfl) (k_ilist K (pv 12)) (blkOk_by (by rfl)) (fun _ _ _ _ _ => (pg_name (i := 16) S.nd rfl (by first | exact Or.inl rfl | exact Or.inr rfl))) (fun _ _ _ _ _ => (pts_one (PW.pt (pw_and (pt_cmpR op_eq (pe_ix (k_ix K) (pv 16) pe_int (fun _ _ => rfl)) pe_str (nomark _)) (pw_and1 (pt_val (k_isi K (T := "int") rfl e.x_isinstance rfl e.x_int (by decide +kernel) (pe_ix (k_ix K) (pv 16) pe_int (fun _ _ => rfl))))))))) (fun _ _ _ _ _ => (pe_lst (pa_cons (pe_ix (k_ix K) (pv 16) pe_int (fun _ _ => rfl)) (pa_cons (pe_ix (k_ix K) (pv 16) pe_int (fun _ _ => rfl)) pa_nil)))))
      (pss_cons (ps_if (pt_cmpR op_gt (pe_callB (k_len K) rfl e.x_len (by decide +kernel) (pa_cons (pv 13) pa_nil)) pe_int (nomark _)) (pss_one (ps_expr (k_bm K PySem.F.plainAttrs_list PySem.F.slot_list_append PySem.F.type_list_append mt_append (pv 9) (pa_cons (pe_callTy (k_tup K) rfl e.x_tuple (by decide +kernel) (pa_cons (pe_ix (k_ix K) (pv 13) (k_cl K (o__law_take e) (hr.mono (by decide)) e.g__law_take (pa_cons (pv 0) (pa_cons (pe_callB (k_len K) rfl e.x_len (by decide +kernel) (pa_cons (pv 13) pa_nil)) pa_nil))) (fun _ _ => rfl)) pa_nil)) pa_nil)))) pss_nil)
      (pss_cons (ps_setLc (i := 12) (own := [("_law_row", 16)]) rfl S.nd rfl rfl (by rfl) (k_ilist K (pv 12)) (blkOk_by (by rfl)) (fun _ _ _ _ _ => (pg_name (i := 16) S.nd rfl (by first | exact Or.inl rfl | exact Or.inr rfl))) (fun _ _ _ _ _ => (pts_one (PW.pt (pw_and (pt_val (k_isi K (T := "tuple") rfl e.x_isinstance rfl e.x_tuple (by decide +kernel) (pe_ix (k_ix K) (pv 16) pe_int (fun _ _ => rfl)))) (pw_and1 (pt_cmpR op_eq (pe_callB (k_len K) rfl e.x_len (by decide +kernel) (pa_cons (pe_ix (k_ix K) (pv 16) pe_int (fun _ _ => rfl)) pa_nil)) pe_int (nomark _))))))) (fun _ _ _ _ _ => (pv 16)))
      (pss_cons (ps_setLc (i := 13) (own := [("_law_row", 16)]) rfl S.nd rfl rfl (by rfl) (k_ilist K (pv 12)) (blkOk_by (by rfl)) (fun _ _ _ _ _ => (pg_name (i := 16) S.nd rfl (by first | exact Or.inl rfl | exact Or.inr rfl))) (fun _ _ _ _ _ => (pts_one (pt_cmpR op_eq (pe_ix (k_ix K) (pv 16) pe_int (fun _ _ => rfl)) pe_str (nomark _)))) (fun _ _ _ _ _ => (pe_lst (pa_cons (pe_ix (k_ix K) (pv 16) pe_int (fun _ _ => rfl)) (pa_cons (pe_ix (k_ix K) (pv 16) pe_int (fun _ _ => rfl)) pa_nil)))))
      (pss_one (ps_if (pt_cmpR op_gt (pe_callB (k_len K) rfl e.x_len (by decide +kernel) (pa_cons (pv 13) pa_nil)) pe_int (nomark _)) (pss_one (ps_expr (k_bm K PySem.F.plainAttrs_list PySem.F.slot_list_append PySem.F.type_list_append mt_append (pv 10) (pa_cons (pe_callTy (k_tup K) rfl e.x_tuple (by decide +kernel) (pa_cons (pe_ix (k_ix K) (pv 13) (k_cl K (o__law_take e) (hr.mono (by decide)) e.g__law_take (pa_cons (pv 0) (pa_cons (pe_callB (k_len K) rfl e.x_len (by decide +kernel) (pa_cons (pv 13) pa_nil)) pa_nil))) (fun _ _ => rfl)) pa_nil)) pa_nil)))) pss_nil))))))))
      (pss_cons (ps_setLc (i := 14) (own := [("_law_row", 16)]) rfl S.nd rfl rfl (by rfl) (k_ilist K (pv 4)) (blkOk_by (by rfl)) (fun _ _ _ _ _ => (pg_name (i := 16) S.nd rfl (by first | exact Or.inl rfl | exact Or.inr rfl))) (fun _ _ _ _ _ => (pts_one (pt_cmpR op_eq (pe_ix (k_ix K) (pv 16) pe_int (fun _ _ => rfl)) pe_str (nomark _)))) (fun _ _ _ _ _ => (pe_ix (k_ix K) (pv 16) pe_int (fun _ _ => rfl))))
      (pss_cons (ps_if (PW.pt (pw_and (pt_cmpR op_eq (pv 8) pe_int (nomark _)) (pw_and1 (pt_cmpR op_gt (pe_callB (k_len K) rfl e.x_len (by decide +kernel) (pa_cons (pv 4) pa_nil)) pe_int (nomark _))))) (pss_one (ps_set (i := 6) S.nd rfl (by first | exact Or.inl rfl | exact Or.inr rfl) (pe_ix (k_ix K) (pe_ix (k_ix K) (pv 4) (k_cl K (o__law_take e) (hr.mono (by decide)) e.g__law_take (pa_cons (pv 0) (pa_cons (pe_callB (k_len K) rfl e.x_len (by decide +kernel) (pa_cons (pv 4) pa_nil)) pa_nil))) (fun _ _ => rfl)) pe_int (fun _ _ => rfl)))) pss_nil)
      (pss_cons (ps_if (PW.pt (pw_or (pt_cmpR op_eq (pv 8) pe_int (nomark _)) (pw_or1 (pt_cmpR op_eq (pv 8) pe_int (nomark _))))) (pss_cons (ps_set (i := 7) S.nd rfl (by first | exact Or.inl rfl | exact Or.inr rfl) pe_str)
      (pss_one (ps_set (i := 6) S.nd rfl (by first | exact Or.inl rfl | exact Or.inr rfl) (pe_callTy (k_tup K) rfl e.x_tuple (by decide +kernel) (pa_cons (pv 9) pa_nil))))) pss_nil)
      (pss_cons (ps_if (pt_cmpR op_eq (pv 8) pe_int (nomark _)) (pss_cons (ps_set (i := 7) S.nd rfl (by first | exact Or.inl rfl | exact Or.inr rfl) pe_str)
      (pss_one (ps_set (i := 6) S.nd rfl (by first | exact Or.inl rfl | exact Or.inr rfl) (pe_callTy (k_tup K) rfl e.x_tuple (by decide +kernel) (pa_cons (pv 10) pa_nil))))) pss_nil)
      (pss_cons (ps_if (PW.pt (pw_and (pt_cmpR op_eq (pv 8) pe_int (nomark _)) (pw_and1 (pt_cmpR op_gt (pv 2) pe_int (nomark _))))) (pss_cons (ps_set (i := 7) S.nd rfl (by first | exact Or.inl rfl | exact Or.inr rfl) pe_str)
      (pss_one (ps_set (i := 6) S.nd rfl (by first | exact Or.inl rfl | exact Or.inr rfl) (k_me K e.c_Notary e.h_Notary_number (o_Notary_number e) (hr.mono (by decide)) (k_fld K e.f_Net_notary (pv 1)) (pa_cons (pe_tup (pa_cons pe_str (pa_cons pe_str (pa_cons (k_cl K (o__law_take e) (hr.mono (by decide)) e.g__law_take (pa_cons (pv 0) (pa_cons pe_int pa_nil))) (pa_cons (pe_tup (pa_cons pe_int (pa_cons (pe_op (k_add K) pe_int (k_cl K (o__law_take e) (hr.mono (by decide)) e.g__law_take (pa_cons (pv 0) (pa_cons pe_int pa_nil)))) pa_nil))) pa_nil))))) pa_nil))))) pss_nil)
      (pss_cons (ps_if (PW.pt (pw_and (pt_cmpR op_eq (pv 8) pe_int (nomark _)) (pw_and1 (pt_cmpR op_gt (pe_callB (k_len K) rfl e.x_len (by decide +kernel) (pa_cons (pv 14) pa_nil)) pe_int (nomark _))))) (pss_cons (ps_set (i := 7) S.nd rfl (by first | exact Or.inl rfl | exact Or.inr rfl) pe_str)
      (pss_cons (ps_set (i := 15) S.nd rfl (by first | exact Or.inl rfl | exact Or.inr rfl) (k_me K e.c_Notary e.h_Notary_number (o_Notary_number e) (hr.mono (by decide)) (k_fld K e.f_Net_notary (pv 1)) (pa_cons (pe_tup (pa_cons pe_str (pa_cons (pe_ix (k_ix K) (pv 14) (k_cl K (o__law_take e) (hr.mono (by decide)) e.g__law_take (pa_cons (pv 0) (pa_cons (pe_callB (k_len K) rfl e.x_len (by decide +kernel) (pa_cons (pv 14) pa_nil)) pa_nil))) (fun _ _ => rfl)) pa_nil))) pa_nil)))
      (pss_one (ps_set (i := 6) S.nd rfl (by first | exact Or.inl rfl | exact Or.inr rfl) (pe_tup (pa_cons (pv 15) (pa_cons pe_str (pa_cons (k_cl K (o__law_take e) (hr.mono (by decide)) e.g__law_take (pa_cons (pv 0) (pa_cons pe_int pa_nil))) (pa_cons (pe_tup (pa_cons pe_int (pa_cons (pe_op (k_add K) pe_int (k_cl K (o__law_take e) (hr.mono (by decide)) e.g__law_take (pa_cons (pv 0) (pa_cons pe_int pa_nil)))) pa_nil))) pa_nil))))))))) pss_nil)
      (pss_one (ps_ret (k_me K e.c_Net e.h_Net_forge (o_Net_forge e) (hr.mono (by decide)) (pv 1) (pa_cons (pv 2) (pa_cons (pv 7) (pa_cons (pv 6) pa_nil)))))))))))))))))))), ?_⟩
  intro ds G Φ h
  try dsimp only [cxK, blkK]
  obtain ⟨x, y, z, u, rfl, d, f, st, B, m, rfl, hd, rfl, a, o, i, b, hB, rfl, hm, hbm, rfl, k⟩ := h
  have h1 := a.tt
  have hA3 := o.okA.n3
  have hsl := i.sl
  have hAm : ((f.A.map agD).length : Int) = (f.A.length : Int) := by rw [List.length_map]
  have hsm : ((st.sent.map ltD).length : Int) = (st.sent.length : Int) := by rw [List.length_map]
  with_reducible refine ws_seq ?_
  with_reducible refine ws_asg ?_
  fail "v"
  refine ⟨hsl, ?_⟩
  fail "v"
  fail "n"
  fail "n"
  intro bd hbd
  fail "n"
  intro kd hkd
  obtain ⟨kk, hkk, ekk⟩ := kind_at (r := kd) (by omega)
  refine dIx_l (atI_nat ekk) ?_
  fail "v"
  fail "n"
  intro wh hwh
  fail "n"
  intro c hc
  fail "n"
  intro q hq
  obtain ⟨hqc, hq⟩ := fresh_updG hq
  have hdc : d ≠ c := neG_none hd hc
  have hdq : d ≠ q := neG_none hd hq
  refine ws_cut (fun δ' G' => ∃ (L : List (Int × Int)) (O : List (Opn × Int)) (y11 y12 y13 : Option Dt), δ' = [some (.obj d), some (.obj f.t), some (.dat (.int ((m : Nat) : Int))), some (.dat (.list (f.A.map agD))), some (.dat (.list (st.sent.map ltD))), some (.dat (.list [.str "call", .str "commit", .str "list", .str "open", .str "book"])), some (.dat (.int ((bd : Nat) : Int))), some (.dat (.str kk)), some (.dat (.int ((wh : Nat) : Int))), some (.obj c), some (.obj q), y11, y12, y13, none, none, none] ∧
      G' = updG (updG G c (.lst (L.map prD2))) q (.lst (O.map obD)) ∧ L.length ≤ 3 ∧ O.length ≤ 3 ∧ ∀ p ∈ O, okO p.1) (ws_for (wi_rng1 ?_)) ?_
  · fail "v"
    rw [hAm]
    refine ⟨by omega, by omega, ?_⟩
    rw [Int.toNat_natCast]
    refine ⟨[11], fun j δ' G' => ∃ (L : List (Int × Int)) (O : List (Opn × Int)) (y11 y12 y13 : Option Dt), δ' = [some (.obj d), some (.obj f.t), some (.dat (.int ((m : Nat) : Int))), some (.dat (.list (f.A.map agD))), some (.dat (.list (st.sent.map ltD))), some (.dat (.list [.str "call", .str "commit", .str "list", .str "open", .str "book"])), some (.dat (.int ((bd : Nat) : Int))), some (.dat (.str kk)), some (.dat (.int ((wh : Nat) : Int))), some (.obj c), some (.obj q), y11, y12, y13, none, none, none] ∧
      G' = updG (updG G c (.lst (L.map prD2))) q (.lst (O.map obD)) ∧ L.length ≤ j ∧ O.length ≤ j ∧ ∀ p ∈ O, okO p.1, ⟨[], [], none, none, none, rfl, rfl, Nat.le_refl _, Nat.le_refl _, fun p hp => (by cases hp)⟩, ?_, ?_⟩
    · rintro j x δ' G' hx ⟨L, O, y11, y12, y13, rfl, rfl, hL, hO, hOk⟩
      obtain ⟨hj, rfl⟩ := upD_get.mp hx
      have hLm : (L.map prD2).length = L.length := List.length_map _
      have hOm : (O.map obD).length = O.length := List.length_map _
      rw [Int.zero_add]
      fail "v"
      refine ws_seq (ws_asg (we_filtL (wi_list ?_)))
      fail "v"
      refine ⟨[16], Lt, Lt, st.sent, ltD, fOwn ((j : Nat) + 1), ltD, rfl, by decide, by omega, fun l hl => ?_, ?_⟩
      · fail "x"
        refine ⟨fun hb => ?_, fun hb => ?_⟩
        · fail "x"
          exact ⟨l, if_pos (of_decide_eq_true hb), rfl, rfl⟩
        · exact ⟨if_neg (of_decide_eq_false hb), rfl⟩
      obtain ⟨ho1, ho2⟩ := own_ok (n := (j : Nat) + 1) (fun l hl => i.se l hl) hsl
      generalize st.sent.filterMap (fOwn ((j : Nat) + 1)) = own at ho1 ho2 ⊢
      refine ws_seq (ws_asg (we_filtL (wi_list ?_)))
      fail "v"
      refine ⟨[16], Lt, Int × Int, own, ltD, fCom, pL, rfl, by decide, by omega, fun l hl => ?_, ?_⟩
      · obtain ⟨k1, s1, b1, g1⟩ := l
        fail "x"
        refine ⟨fun hk1 => ?_, fun hk1 => ⟨fun z => (by cases z), fun _ => ⟨if_neg (of_decide_eq_false hk1), rfl⟩⟩⟩
        have hk1 : k1 = "commit" := of_decide_eq_true hk1
        subst hk1
        cases b1 with
        | num i0 =>
          fail "x"
          rfl
        | prs l =>
          fail "x"
          rfl
        | opn l =>
          fail "x"
          rfl
        | bks b0 l =>
          fail "x"
          rfl
      have hpl : (own.filterMap fCom).length ≤ 400 := Nat.le_trans (List.length_filterMap_le _ _) ho2
      generalize own.filterMap fCom = ps at hpl ⊢
      have hpm : ((ps.map pL).length : Int) = (ps.length : Int) := by rw [List.length_map]
      refine ws_cut (fun δ' G' => ∃ L : List (Int × Int), δ' = [some (.obj d), some (.obj f.t), some (.dat (.int ((m : Nat) : Int))), some (.dat (.list (f.A.map agD))), some (.dat (.list (st.sent.map ltD))), some (.dat (.list [.str "call", .str "commit", .str "list", .str "open", .str "book"])), some (.dat (.int ((bd : Nat) : Int))), some (.dat (.str kk)), some (.dat (.int ((wh : Nat) : Int))), some (.obj c), some (.obj q), some (.dat (.int ((j : Nat) : Int))), some (.dat (.list (own.map ltD))), some (.dat (.list (ps.map pL))), none, none, none] ∧
          G' = updG (updG G c (.lst (L.map prD2))) q (.lst (O.map obD)) ∧ L.length ≤ j + 1) (ws_if ?_) ?_
      · fail "v"
        rw [hpm]
        refine ⟨fun hb => ?_, fun hb => ?_⟩
        · have hb := of_decide_eq_true hb
          fail "x"
          rw [hpm]
          intro r hr
          have hpr : ps[r]? = some ps[r] := List.getElem?_eq_getElem (by omega)
          refine dIx_l (atI_nat (by rw [List.getElem?_map, hpr]; rfl)) ?_
          fail "x"
          exact ⟨L ++ [ps[r]], rfl, by rw [upd_comm hqc, updG_updG, List.map_append]; rfl, by rw [List.length_append]; show _ + 1 ≤ _; omega⟩
        · fail "x"
          exact ⟨L, rfl, rfl, by omega⟩
      rintro δ' G2 ⟨L2, rfl, rfl, hL2⟩
      refine ws_seq (ws_asg (we_filtL (wi_list ?_)))
      fail "v"
      refine ⟨[16], Lt, Lt, own, ltD, fTup, ltD, rfl, by decide, by omega, fun l hl => ?_, ?_⟩
      · have hlo := (ho1 l hl).2
        obtain ⟨k1, s1, b1, g1⟩ := l
        cases b1 with
        | num i0 =>
          fail "x"
          rfl
        | prs l =>
          have hl4 : ¬ ((l.map prD2).length : Int) = 4 := by
            rw [List.length_map]
            have : l.length ≤ 3 := hlo
            omega
          fail "x"
          rfl
        | opn l =>
          fail "x"
          rfl
        | bks b0 l =>
          have hl4 : ¬ (((b0 :: l).map obD).length : Int) = 4 := by
            rw [List.length_map, List.length_cons]
            have : l.length ≤ 2 := hlo.1
            omega
          fail "x"
          rfl
      obtain ⟨ht1, ht2⟩ := tup_ok ho1 ho2
      generalize own.filterMap fTup = own2 at ht1 ht2 ⊢
      refine ws_seq (ws_asg (we_filtL (wi_list ?_)))
      fail "v"
      refine ⟨[16], Lt, Opn × Int, own2, ltD, fOpn, oL, rfl, by decide, by omega, fun l hl => ?_, ?_⟩
      · obtain ⟨o2, eo2, _⟩ := ht1 l hl
        obtain ⟨k1, s1, b1, g1⟩ := l
        have eo2 : b1 = .opn o2 := eo2
        subst eo2
        fail "x"
        refine ⟨fun hk1 => ?_, fun hk1 => ⟨if_neg (of_decide_eq_false hk1), rfl⟩⟩
        have hk1 : k1 = "open" := of_decide_eq_true hk1
        subst hk1
        fail "x"
        rfl
      have hpl2 : (own2.filterMap fOpn).length ≤ 400 := Nat.le_trans (List.length_filterMap_le _ _) ht2
      have hpo := opn_ok ht1
      generalize own2.filterMap fOpn = ps2 at hpl2 hpo ⊢
      have hpm2 : ((ps2.map oL).length : Int) = (ps2.length : Int) := by rw [List.length_map]
      fail "v"
      with_reducible refine ws_if ?_
      fail "v"
      rw [hpm2]
      refine ⟨fun hb => ?_, fun hb => ?_⟩
      · have hb := of_decide_eq_true hb
        fail "x"
        rw [hpm2]
        intro r hr
        have hpr : ps2[r]? = some ps2[r] := List.getElem?_eq_getElem (by omega)
        refine dIx_l (atI_nat (by rw [List.getElem?_map, hpr]; rfl)) ?_
        fail "x"
        refine ⟨L2, O ++ [ps2[r]], _, _, _, rfl, by rw [updG_updG, List.map_append]; rfl, hL2, by rw [List.length_append]; show _ + 1 ≤ _; omega, fun p hp => ?_⟩
        rcases List.mem_append.mp hp with hp | hp
        · exact hOk p hp
        · rw [List.mem_singleton.mp hp]; exact hpo _ (List.mem_of_getElem? hpr)
      · fail "x"
        exact ⟨L2, O, _, _, _, rfl, rfl, hL2, by omega, hOk⟩
    · rintro δ' G' ⟨L, O, y11, y12, y13, rfl, rfl, hL, hO, hOk⟩
      rw [upD_length] at hL hO
      exact ⟨L, O, _, _, _, rfl, rfl, by omega, by omega, hOk⟩
  rintro δ' G' ⟨L, O, y11, y12, y13, rfl, rfl, hL, hO, hOk⟩
  refine ws_letS (i := 10) rfl updG_same ?_
  rw [drop_same, drop_ne hqc.symm, drop_none hq]
  refine ws_letS (i := 9) rfl updG_same ?_
  rw [drop_same, drop_none hc]
  refine ws_seq (ws_asg (we_filtL (wi_list ?_)))
  fail "v"
  refine ⟨[16], Lt, By, st.sent, ltD, fLst, By.d, rfl, by decide, by omega, fun l hl => ?_, ?_⟩
  · obtain ⟨k1, s1, b1, g1⟩ := l
    fail "x"
    refine ⟨fun hk1 => ?_, fun hk1 => ⟨if_neg (of_decide_eq_false hk1), rfl⟩⟩
    fail "x"
    exact ⟨b1, if_pos (of_decide_eq_true hk1), rfl, rfl⟩
  have hlo := lst_ok fun l hl => i.se l hl
  have hll : (st.sent.filterMap fLst).length ≤ 400 := Nat.le_trans (List.length_filterMap_le _ _) hsl
  generalize st.sent.filterMap fLst = ls at hlo hll ⊢
  have hlm : ((ls.map By.d).length : Int) = (ls.length : Int) := by rw [List.length_map]
  -- which == 0
  with_reducible refine ws_cut (fun δ' G' => ∃ (kk : Str) (bb : By), δ' = [some (.obj d), some (.obj f.t), some (.dat (.int ((m : Nat) : Int))), some (.dat (.list (f.A.map agD))), some (.dat (.list (st.sent.map ltD))), some (.dat (.list [.str "call", .str "commit", .str "list", .str "open", .str "book"])), some (.dat bb.d), some (.dat (.str kk)), some (.dat (.int ((wh : Nat) : Int))), some (.dat (.list (L.map prD2))), some (.dat (.list (O.map obD))), y11, y12, y13, some (.dat (.list (ls.map By.d))), none, none] ∧ G' = G ∧ kk ∈ kinds5 ∧ bb.ok) ?_ ?_
  · with_reducible refine ws_if ?_
    fail "v"
    refine ⟨fun _ => ?_, fun _ => ⟨fun z => (by cases z), fun _ => ?_⟩⟩
    · fail "v"
      rw [hsm]
      refine ⟨fun hb => ?_, fun _ => ?_⟩
      · have hb := of_decide_eq_true hb
        fail "x"
        rw [hsm]
        intro r hr
        have hlr : st.sent[r]? = some st.sent[r] := List.getElem?_eq_getElem (by omega)
        refine dIx_l (atI_nat (by rw [List.getElem?_map, hlr]; rfl)) ?_
        fail "x"
        exact ⟨hkk, (i.se _ (List.getElem_mem _)).2⟩
      · fail "x"
        exact ⟨kk, .num bd, rfl, rfl, hkk, trivial⟩
    · fail "x"
      exact ⟨kk, .num bd, rfl, rfl, hkk, trivial⟩
  clear hkk ekk hkd hbd
  rintro δ' G1 ⟨kk, bb, rfl, rfl, hkk, hbb⟩
  -- which == 1 or which == 2
  with_reducible refine ws_cut (fun δ' G' => ∃ (kk : Str) (bb : By), δ' = [some (.obj d), some (.obj f.t), some (.dat (.int ((m : Nat) : Int))), some (.dat (.list (f.A.map agD))), some (.dat (.list (st.sent.map ltD))), some (.dat (.list [.str "call", .str "commit", .str "list", .str "open", .str "book"])), some (.dat bb.d), some (.dat (.str kk)), some (.dat (.int ((wh : Nat) : Int))), some (.dat (.list (L.map prD2))), some (.dat (.list (O.map obD))), y11, y12, y13, some (.dat (.list (ls.map By.d))), none, none] ∧ G' = G1 ∧ kk ∈ kinds5 ∧ bb.ok) ?_ ?_
  · with_reducible refine ws_if ?_
    fail "v"
    refine ⟨fun _ => ?_, fun _ => ⟨fun _ => ?_, fun z => (by cases z)⟩⟩
    · fail "v"
      refine ⟨fun _ => ?_, fun _ => ?_⟩
      · fail "x"
        exact ⟨"list", .prs L, rfl, rfl, (by decide +kernel : ("list" : Str) ∈ kinds5), hL⟩
      · fail "v"
        exact ws_next ⟨kk, bb, rfl, rfl, hkk, hbb⟩
    · fail "x"
      exact ⟨"list", .prs L, rfl, rfl, (by decide +kernel : ("list" : Str) ∈ kinds5), hL⟩
  clear hkk hbb
  rintro δ' G2 ⟨kk, bb, rfl, rfl, hkk, hbb⟩
  -- which == 3
  with_reducible refine ws_cut (fun δ' G' => ∃ (kk : Str) (bb : By), δ' = [some (.obj d), some (.obj f.t), some (.dat (.int ((m : Nat) : Int))), some (.dat (.list (f.A.map agD))), some (.dat (.list (st.sent.map ltD))), some (.dat (.list [.str "call", .str "commit", .str "list", .str "open", .str "book"])), some (.dat bb.d), some (.dat (.str kk)), some (.dat (.int ((wh : Nat) : Int))), some (.dat (.list (L.map prD2))), some (.dat (.list (O.map obD))), y11, y12, y13, some (.dat (.list (ls.map By.d))), none, none] ∧ G' = G2 ∧ kk ∈ kinds5 ∧ bb.ok) ?_ ?_
  · with_reducible refine ws_if ?_
    fail "v"
    refine ⟨fun _ => ?_, fun _ => ?_⟩
    · fail "x"
      exact ⟨"book", byO O, by rw [byO_d]; rfl, rfl, (by decide +kernel : ("book" : Str) ∈ kinds5), byO_ok hO hOk⟩
    · fail "v"
      exact ws_next ⟨kk, bb, rfl, rfl, hkk, hbb⟩
  clear hkk hbb
  rintro δ' G3 ⟨kk, bb, rfl, rfl, hkk, hbb⟩
  -- which == 4 and member > 0
  with_reducible refine ws_cut (fun δ' G' => ∃ (kk : Str) (bb : By) (st2 : NSt) (y15 : Option Dt), δ' = [some (.obj d), some (.obj f.t), some (.dat (.int ((m : Nat) : Int))), some (.dat (.list (f.A.map agD))), some (.dat (.list (st.sent.map ltD))), some (.dat (.list [.str "call", .str "commit", .str "list", .str "open", .str "book"])), some (.dat bb.d), some (.dat (.str kk)), some (.dat (.int ((wh : Nat) : Int))), some (.dat (.list (L.map prD2))), some (.dat (.list (O.map obD))), y11, y12, y13, some (.dat (.list (ls.map By.d))), y15, none] ∧ NGo K f st G3 st2 G' ∧ NLe (B + 1) f st2 ∧ kk ∈ kinds5 ∧ bb.ok) ?_ ?_
  · with_reducible refine ws_if ?_
    fail "v"
    refine ⟨fun _ => ?_, fun _ => ⟨fun z => (by cases z), fun _ => ?_⟩⟩
    · fail "v"
      refine ⟨fun _ => ?_, fun _ => ?_⟩
      · have h2 := a.N.nt
        fail "x"
        intro r hr
        fail "x"
        intro r2 hr2
        fail "x"
        have hok : (Ct.rep "f" ((r : Nat) : Int) (1, 1 + ((r2 : Nat) : Int))).ok := (by decide +kernel : PyData.strOk "f" = true)
        have hc9 := b.c
        refine ⟨f.ks, f.n, f.c, f.s, st.cs, st.sg, .rep "f" ((r : Nat) : Int) (1, 1 + ((r2 : Nat) : Int)), rfl, a.N, rfl, hok, by omega, ?_⟩
        exact ⟨"commit", .num _, _, none, rfl, NGo.number a o i hok, b.number, (by decide +kernel : ("commit" : Str) ∈ kinds5), trivial⟩
      · fail "v"
        exact ws_next ⟨kk, bb, st, none, rfl, .refl a i, b.mono (by omega), hkk, hbb⟩
    · fail "v"
      exact ws_next ⟨kk, bb, st, none, rfl, .refl a i, b.mono (by omega), hkk, hbb⟩
  clear hkk hbb
  rintro δ' G4 ⟨kk, bb, st2, y15, rfl, go, b2, hkk, hbb⟩
  have hd4 := go.nums d hd
  have a4 := go.at_
  have h14 := a4.tt
  -- which == 5 and len(lists) > 0
  with_reducible refine ws_cut (fun δ' G' => ∃ (kk : Str) (bb : By) (st2 : NSt) (y15 : Option Dt), δ' = [some (.obj d), some (.obj f.t), some (.dat (.int ((m : Nat) : Int))), some (.dat (.list (f.A.map agD))), some (.dat (.list (st.sent.map ltD))), some (.dat (.list [.str "call", .str "commit", .str "list", .str "open", .str "book"])), some (.dat bb.d), some (.dat (.str kk)), some (.dat (.int ((wh : Nat) : Int))), some (.dat (.list (L.map prD2))), some (.dat (.list (O.map obD))), y11, y12, y13, some (.dat (.list (ls.map By.d))), y15, none] ∧ NGo K f st G3 st2 G' ∧ NLe (B + 2) f st2 ∧ kk ∈ kinds5 ∧ bb.ok) ?_ ?_
  · with_reducible refine ws_if ?_
    fail "v"
    refine ⟨fun _ => ?_, fun _ => ⟨fun z => (by cases z), fun _ => ?_⟩⟩
    · fail "v"
      rw [hlm]
      refine ⟨fun hb => ?_, fun _ => ?_⟩
      · have hb := of_decide_eq_true hb
        have h24 := a4.N.nt
        fail "x"
        rw [hlm]
        intro r hr
        have hlr : ls[r]? = some ls[r] := List.getElem?_eq_getElem (by omega)
        refine dIx_l (atI_nat (by rw [List.getElem?_map, hlr]; rfl)) ?_
        fail "x"
        have hok : (Ct.lst ls[r]).ok := hlo _ (List.mem_of_getElem? hlr)
        have hc9 := b2.c
        refine ⟨f.ks, f.n, f.c, f.s, st2.cs, st2.sg, .lst ls[r], rfl, a4.N, rfl, hok, by omega, ?_⟩
        have go' := go.trans (NGo.number a4 o go.inv hok)
        have hd5 := go'.nums d hd
        fail "x"
        intro r1 hr1
        fail "x"
        intro r2 hr2
        fail "x"
        have htk : ((1, 1 + ((r2 : Nat) : Int)) : Rt) ∈ ticks := by
          have : r2 = 0 ∨ r2 = 1 := by omega
          rcases this with rfl | rfl <;> decide
        exact ⟨"open", .opn (((ix (Ct.lst ls[r]) (addc (Ct.lst ls[r]) st2.cs) : Nat) : Int), "f", ((r1 : Nat) : Int), (1, 1 + ((r2 : Nat) : Int))), _, _, rfl, go', b2.number, (by decide +kernel : ("open" : Str) ∈ kinds5), ⟨(by decide +kernel : PyData.strOk "f" = true), htk⟩⟩
      · fail "v"
        exact ws_next ⟨kk, bb, st2, y15, rfl, go, b2.mono (by omega), hkk, hbb⟩
    · fail "v"
      exact ws_next ⟨kk, bb, st2, y15, rfl, go, b2.mono (by omega), hkk, hbb⟩
  clear hkk hbb
  rintro δ' G5 ⟨kk, bb, st3, y15, rfl, go5, b5, hkk, hbb⟩
  have a5 := go5.at_
  have h15 := a5.tt
  fail "x"
  exact ⟨f, st3, B + 2, m, kk, bb, rfl, a5, o, go5.inv, b5, by omega, rfl, hm, hbm, rfl, rfl, hkk, hbb, fun xs st' G' go6 b6 => k xs st' G' (go5.trans go6) b6⟩
theorem o__law_forge {P : Program} {w : World} {K : PySem.W.Frag} {mg : Str → Option Value} {base : Heap} (e : Ev P w K mg base) : OkD P w K mg base 19 (He.ga K "_law_forge") ["_law_draws_here", "_law_net", "_law_member", "_law_agents"] [] (F__law_forge K) := by
  obtain ⟨fd, FD⟩ := e.d__law_forge
  exact okN FD (n__law_forge e FD) fun _ _ _ _ _ _ us hl => match us, hl with | [_, _, _, _], _ => rfl
end DL
/-! (Lf) -/
namespace DL
open PySem PySem.Spec PyProof.Rows L2

local macro_rules | `(tactic| fail "l") => `(tactic| first | exact Nat.le_of_ble_eq_true rfl | omega | (simp only [List.length_map, List.length_append, List.length_cons, List.length_nil]; omega))
local macro_rules | `(tactic| fail "aS") => `(tactic| with_reducible first | refine ws_seq ?_ | refine ws_if ?_ | refine ws_ret ?_ | refine ws_asg ?_ | refine ws_drop ?_ | refine ws_next ?_ | refine ws_retN ?_ | refine ws_fldF ?_ | refine ws_fldN ?_ | refine ws_dput ?_ | refine ws_asgT5 ?_ | refine ws_asgT4 ?_ | refine ws_asgT3 ?_)
local macro_rules | `(tactic| fail "aO") => `(tactic| with_reducible first | refine we_ix ?_ | refine we_II ?_ | refine we_IB ?_ | refine we_eq ?_ | refine we_ne ?_ | refine we_add ?_ | refine we_addG ?_ | refine we_IC ?_ | refine we_eqD ?_ | refine we_neD ?_ | refine we_inD ?_ | refine we_notInD ?_ | refine we_in ?_ | refine we_inSg ?_)
local macro_rules | `(tactic| fail "aC") => `(tactic| with_reducible first | refine we_len ?_ | refine we_lenD ?_ | refine we_all ?_ | refine we_any ?_ | refine we_int1 ?_ | refine we_strI ?_ | refine we_listOf ?_ | refine we_tupOf ?_ | refine we_sum ?_ | refine we_abs ?_ | refine we_min2 ?_ | refine we_gcd ?_)
local macro_rules | `(tactic| fail "aE") => `(tactic| first
  | ((with_reducible apply we_var); rfl)
  | with_reducible refine we_int ?_ | with_reducible refine we_str ?_ | with_reducible refine we_non ?_ | with_reducible refine we_bl ?_
  | ((with_reducible show WE _ (tOp _ _ _) _ _ _); fail "aO")
  | ((with_reducible show WE _ (tCB _ _) _ _ _); fail "aC")
  | with_reducible refine we_call ?_ | with_reducible refine we_fld ?_ | with_reducible refine we_meth' ?_ | with_reducible refine we_tup ?_ | with_reducible refine we_isi (by decide) ?_ | with_reducible refine we_lst ?_ | with_reducible refine we_lstG ?_
  | with_reducible refine we_and ?_ | with_reducible refine we_or ?_ | with_reducible refine we_not ?_ | with_reducible refine we_chainI ?_ | with_reducible refine we_isN ?_ | with_reducible refine we_notN ?_ | with_reducible refine we_append ?_ | with_reducible refine we_extend ?_ | with_reducible refine we_index ?_
  | with_reducible refine we_slL ?_ | with_reducible refine we_slT ?_ | with_reducible refine we_dget ?_ | with_reducible refine we_din ?_ | with_reducible refine we_dnotin ?_ | with_reducible refine we_dictG ?_ | with_reducible refine we_prop ?_ | with_reducible refine we_join ?_ | with_reducible refine we_neg ?_ | with_reducible refine we_lenSet ?_)
local macro_rules | `(tactic| fail "aT") => `(tactic| with_reducible first | refine wt_val ?_ | refine wt_tst ?_ | refine wt_and ?_ | refine wt_or ?_ | refine wt_not ?_ | refine wt_yes ?_)
local macro_rules | `(tactic| fail "aD") => `(tactic| with_reducible first | refine dEq_ii ?_ | refine dEq_ss ?_ | refine dEq_bb ?_ | refine dEq_nn ?_ | refine dEq_ni ?_ | refine dEq_in ?_ | refine dAdd_ii ?_ | refine dInt_i ?_ | refine dInt_b ?_ | refine dLen_l ?_ | refine dLen_t ?_)
local macro_rules | `(tactic| fail "a") => `(tactic| first
  | ((with_reducible show WE _ _ _ _ _); fail "aE")
  | ((with_reducible show WA _ _ _ _ _); (with_reducible first | refine wa_cons ?_ | refine wa_nil ?_))
  | ((with_reducible show WS _ _ _ _ _); fail "aS")
  | ((with_reducible show WT _ _ _ _ _); fail "aT")
  | ((with_reducible show WG _ _ _ _ _ _ _); first | with_reducible refine wg_name ?_ | ((with_reducible refine wg_tup ?_ ?_); rfl))
  | ((with_reducible show WGs _ _ _ _ _ _ _); (with_reducible first | refine wgs_cons ?_ | refine wgs_nil ?_))
  | ((with_reducible show WO _ _ _ _ _); (with_reducible first | refine wo_none ?_ | refine wo_some ?_))
  | ((with_reducible show dIx _ _ _ _); first | ((with_reducible apply dIx_t); rfl) | ((with_reducible apply dIx_l); rfl))
  | ((with_reducible show dAdd _ _ _ _); first | with_reducible refine dAdd_ii ?_ | ((with_reducible refine dAdd_ll ?_ ?_); fail "l") | ((with_reducible apply dAdd_ol); (fail "h"); (fail "l")) | ((with_reducible refine dAdd_tt ?_ ?_); fail "l") | ((with_reducible refine dAdd_ss ?_ ?_); fail "l"))
  | fail "aD")
local macro_rules | `(tactic| fail "e") => `(tactic| ((fail_if_success (with_reducible show ∃ _ : NF, _)); (fail_if_success (with_reducible show ∃ _ : PF, _)); (fail_if_success (with_reducible show ∃ _ : DF, _)); (first | with_reducible refine ⟨_, _, rfl, rfl, ?_⟩ | with_reducible refine ⟨_, rfl, ?_⟩ | with_reducible refine ⟨rfl, ?_⟩ | with_reducible refine ⟨_, _, rfl, ?_⟩ | with_reducible refine ⟨_, _, _, rfl, ?_⟩ | with_reducible refine ⟨_, _, _, _, rfl, ?_⟩ | with_reducible refine ⟨_, _, _, _, _, rfl, ?_⟩ | ((refine ⟨?l, ?_⟩); (case l => (with_reducible show _ < 1000000); fail "l")) | ((refine ⟨?l, ?_⟩); (case l => (with_reducible show _ ≤ 1000000); fail "l")))))
local macro_rules | `(tactic| fail "g") => `(tactic| ((funext gb; simp only [updG, dropG]; repeat' split) <;> first | rfl | (exfalso; simp_all; done) | (simp_all; done)))
local macro_rules | `(tactic| fail "q") => `(tactic| first | assumption | exact Ne.symm (by assumption))
local macro_rules | `(tactic| fail "h") => `(tactic| first | assumption | exact updG_same | ((rw [updG_ne]); (fail "h"); (fail "q")))
local macro_rules | `(tactic| fail "z") => `(tactic| first | rfl | exact ⟨rfl, rfl⟩ | exact ⟨_, rfl, rfl⟩ | exact ⟨_, _, rfl, rfl⟩ | exact ⟨_, _, _, rfl, rfl⟩ | assumption)
local macro_rules | `(tactic| fail "t") => `(tactic| ((with_reducible refine ⟨_, _, rfl, ?h1, rfl, ?h2, ?tk⟩); (case h1 => fail "h"); (case h2 => first | decide | omega)))
local macro_rules | `(tactic| fail "f") => `(tactic| first
  | fail "t"
  | refine ⟨_, _, rfl, .inr (.inl rfl), ?_⟩ | refine ⟨_, _, rfl, .inl rfl, ?_⟩
  | (refine ⟨_, ?ds, rfl, .inr (.inr ⟨_, rfl, ?h1⟩), ?_⟩; (case h1 => fail "h"))
  | (refine ⟨_, ?ds, rfl, .inr ⟨_, rfl, ?h1⟩, ?_⟩; (case h1 => fail "h"))
  | ((with_reducible refine ⟨_, ?ds, ?d, rfl, ?h1, ?h2, ?_⟩); (case h1 => fail "h"); (case h2 => rfl))
  | ((with_reducible refine ⟨_, ?ds, rfl, ?h1, ?_⟩); (case h1 => fail "h"))
  | ((with_reducible refine ⟨_, ?ns, ?ds, rfl, ?h1, ?h2, ?_⟩); (case h1 => fail "h"); (case h2 => decide))
  | ((with_reducible refine ⟨_, ?ns, ?ds, rfl, (?h1 : _ = some (GO.ins _ ?ns ?ds)), ?_⟩); (case h1 => fail "h"))
  | ((with_reducible refine ⟨_, rfl, ⟨?ys, ?h1⟩, ?_⟩); (case h1 => fail "h"))
  | ((with_reducible refine ⟨_, ?xs, rfl, ?h1, ?h2, ?_⟩); (case h1 => fail "h"); (case h2 => omega)))
local macro_rules | `(tactic| fail "y") => `(tactic| first
  | ((with_reducible refine ⟨fun _ => ?_, fun hbb => ?nope⟩); (case nope => first | exact Bool.noConfusion (show true = false from hbb) | exact Bool.noConfusion (show false = true from hbb) | exact absurd (of_decide_eq_true hbb) (by omega) | exact absurd (of_decide_eq_false hbb) (by omega) | (simp at hbb; done) | (simp at hbb; omega)))
  | ((with_reducible refine ⟨fun hbb => ?nope, fun _ => ?_⟩); (case nope => first | exact Bool.noConfusion (show true = false from hbb) | exact Bool.noConfusion (show false = true from hbb) | exact absurd (of_decide_eq_true hbb) (by omega) | exact absurd (of_decide_eq_false hbb) (by omega) | (simp at hbb; done) | (simp at hbb; omega))))
local macro_rules | `(tactic| fail "w") => `(tactic| repeat fail "a")
local macro_rules | `(tactic| fail "x") => `(tactic| repeat (first | fail "a" | fail "f" | fail "e" | fail "y"))
local macro_rules | `(tactic| fail "b") => `(tactic| first
  | ((with_reducible show WE _ _ _ _ _); fail "aE")
  | ((with_reducible show WA _ _ _ _ _); (with_reducible first | refine wa_cons ?_ | refine wa_nil ?_))
  | ((with_reducible show WT _ _ _ _ _); fail "aT")
  | ((with_reducible show WG _ _ _ _ _ _ _); first | with_reducible refine wg_name ?_ | ((with_reducible refine wg_tup ?_ ?_); rfl))
  | ((with_reducible show WGs _ _ _ _ _ _ _); (with_reducible first | refine wgs_cons ?_ | refine wgs_nil ?_))
  | ((with_reducible show WO _ _ _ _ _); (with_reducible first | refine wo_none ?_ | refine wo_some ?_))
  | ((with_reducible show dIx _ _ _ _); first | ((with_reducible apply dIx_t); rfl) | ((with_reducible apply dIx_l); rfl))
  | ((with_reducible show dAdd _ _ _ _); first | with_reducible refine dAdd_ii ?_ | ((with_reducible refine dAdd_ll ?_ ?_); fail "l") | ((with_reducible apply dAdd_ol); (fail "h"); (fail "l")) | ((with_reducible refine dAdd_tt ?_ ?_); fail "l") | ((with_reducible refine dAdd_ss ?_ ?_); fail "l"))
  | fail "aD")
local macro_rules | `(tactic| fail "v") => `(tactic| repeat (first | fail "b" | fail "f" | fail "e" | fail "y"))
local macro_rules | `(tactic| fail "n") => `(tactic| ((with_reducible refine ws_seq ?_); (fail "aS"); (fail "v")))

theorem sc__law_act : FnScope ["_law_draws_here", "_law_net", "_law_honest", "_law_agents", "_law_count", "_law_member", "_law_which", "_law_number"] ["_law_draws_here", "_law_net", "_law_honest", "_law_agents"] (defScope (top 95)) := ⟨rfl, rfl, rfl, by decide +kernel, rfl, by decide +kernel, by decide +kernel⟩
theorem n__law_act {P : Program} {w : World} {K : PySem.W.Frag} {mg : Str → Option Value} {base : Heap} {fd : FuncData} {dvs : List V} {kws : List (Str × V)} (e : Ev P w K mg base) (FD : FunD K "_law_act" "_law_act" (defArgs (top 95)) (defBody (top 95)) (defScope (top 95)) dvs kws (He.ga K "_law_act") fd) : FnOk P w K mg base CX0 22 (He.ga K "_law_act") fd ["_law_draws_here", "_law_net", "_law_honest", "_law_agents"] (spD K (F__law_act K)) := by
  have S := sc__law_act
  refine okD FD S (fun _ _ _ h => len4 h) fun cdv A outer s H E hr => ⟨_, (pss_cons (ps_set (i := 4) S.nd rfl (by first | exact Or.inl rfl | exact Or.inr rfl) (pe_callB (k_len K) rfl e.x_len (by decide +kernel) (pa_cons (k_me0 K e.c_Net e.h_Net_letters (o_Net_letters e) (hr.mono (by decide)) (pv 1)) pa_nil)))
      (pss_cons (ps_set (i := 5) S.nd rfl (by first | exact Or.inl rfl | exact Or.inr rfl) (k_cl K (o__law_take e) (hr.mono (by decide)) e.g__law_take (pa_cons (pv 0) (pa_cons (pe_callB (k_len K) rfl e.x_len (by decide +kernel) (pa_cons (pv 2) pa_nil)) pa_nil))))
      (pss_cons (ps_set (i := 6) S.nd rfl (by first | exact Or.inl rfl | exact Or.inr rfl) (k_cl K (o__law_take e) (hr.mono (by decide)) e.g__law_take (pa_cons (pv 0) (pa_cons pe_int pa_nil))))
      (pss_cons (ps_if (PW.pt (pw_and (pt_cmpR op_eq (pv 6) pe_int (nomark _)) (pw_and1 (pt_not (pt_val (pe_ix (k_ix K) (pv 2) (pv 5) (fun _ _ => rfl))))))) (pss_one (ps_ret (k_cl K (o__law_forge e) (hr.mono (by decide)) e.g__law_forge (pa_cons (pv 0) (pa_cons (pv 1) (pa_cons (pv 5) (pa_cons (pv 3) pa_nil))))))) pss_nil)
      (pss_cons (ps_if (PW.pt (pw_or (pt_cmpR op_eq (pv 4) pe_int (nomark _)) (pw_or1 (pt_cmpR op_eq (k_cl K (o__law_take e) (hr.mono (by decide)) e.g__law_take (pa_cons (pv 0) (pa_cons pe_int pa_nil))) pe_int (nomark _))))) (pss_one (ps_ret (k_me0 K e.c_Net e.h_Net_begin (o_Net_begin e) (hr.mono (by decide)) (pv 1)))) pss_nil)
      (pss_cons (ps_set (i := 7) S.nd rfl (by first | exact Or.inl rfl | exact Or.inr rfl) (k_cl K (o__law_take e) (hr.mono (by decide)) e.g__law_take (pa_cons (pv 0) (pa_cons (pv 4) pa_nil))))
      (pss_cons (ps_if (pt_cmpR op_eq (pv 6) pe_int (nomark _)) (pss_one (ps_set (i := 7) S.nd rfl (by first | exact Or.inl rfl | exact Or.inr rfl) (pe_op op_sub (pe_op op_sub (pv 4) pe_int) (k_cl K (o__law_take e) (hr.mono (by decide)) e.g__law_take (pa_cons (pv 0) (pa_cons (pe_callB (call_minU rfl) rfl e.x_min (by decide +kernel) (pa_cons (pv 4) (pa_cons pe_int pa_nil))) pa_nil)))))) pss_nil)
      (pss_one (ps_ret (k_me K e.c_Net e.h_Net_deliver (o_Net_deliver e) (hr.mono (by decide)) (pv 1) (pa_cons (pv 7) (pa_cons (pv 5) pa_nil)))))))))))), ?_⟩
  intro ds G Φ h
  try dsimp only [cxK, blkK]
  obtain ⟨x, y, z, u, rfl, d, f, st, B, rfl, hd, rfl, a, o, i, b, hB, rfl, rfl, k⟩ := h
  have h1 := a.tt
  have hsl := i.sl
  have hhl := o.hlen
  have hsm : ((st.sent.map ltD).length : Int) = (st.sent.length : Int) := by rw [List.length_map]
  have hhm : ((f.hon.map PyData.bool).length : Int) = (f.A.length : Int) + 1 := by rw [List.length_map, hhl]; rfl
  with_reducible refine ws_seq ?_
  with_reducible refine ws_asg ?_
  fail "v"
  refine ⟨i.sl, ?_⟩
  fail "v"
  rw [hsm]
  with_reducible refine ws_seq ?_
  with_reducible refine ws_asg ?_
  fail "v"
  rw [hhm]
  intro m hm
  fail "n"
  intro wh hwh
  have hbm : f.hon[m]? = some (f.hb m) := NF.hb_at (by omega)
  with_reducible refine ws_cut (fun δ' G' => δ' = [some (.obj d), some (.obj f.t), some (.dat (.list (f.hon.map .bool))), some (.dat (.list (f.A.map agD))), some (.dat (.int (st.sent.length : Nat))), some (.dat (.int ((m : Nat) : Int))), some (.dat (.int ((wh : Nat) : Int))), none] ∧ G' = G) ?_ ?_
  · with_reducible refine ws_if ?_
    fail "v"
    refine ⟨fun _ => ?_, fun _ => ⟨fun z => (by cases z), fun _ => ?_⟩⟩
    · fail "v"
      refine dIx_l (atI_nat (by rw [List.getElem?_map, hbm]; rfl)) ?_
      fail "v"
      refine ⟨fun hf => ?_, fun _ => ?_⟩
      · fail "x"
        exact ⟨d, f, st, B, m, rfl, hd, rfl, a, o, i, b, hB, rfl, by omega, by simpa using hf, rfl, k⟩
      · fail "x"
        rfl
    · fail "x"
      rfl
  rintro δ' G1 ⟨rfl, rfl⟩
  with_reducible refine ws_cut (fun δ' G' => δ' = [some (.obj d), some (.obj f.t), some (.dat (.list (f.hon.map .bool))), some (.dat (.list (f.A.map agD))), some (.dat (.int (st.sent.length : Nat))), some (.dat (.int ((m : Nat) : Int))), some (.dat (.int ((wh : Nat) : Int))), none] ∧ G' = G1 ∧ 0 < st.sent.length) ?_ ?_
  · with_reducible refine ws_if ?_
    fail "v"
    refine ⟨fun hz => ?_, fun hz => ?_⟩
    · have hz := of_decide_eq_false hz
      fail "v"
      intro r hr
      fail "v"
      refine ⟨fun _ => ?_, fun _ => ?_⟩
      · fail "x"
        exact ⟨f, st, B, rfl, a, o, i, b, by omega, fun xs st' G' go b' => k xs st' G' go (b'.mono (by omega))⟩
      · fail "x"
        omega
    · fail "x"
      exact ⟨f, st, B, rfl, a, o, i, b, by omega, fun xs st' G' go b' => k xs st' G' go (b'.mono (by omega))⟩
  rintro δ' G2 ⟨rfl, rfl, hpos⟩
  fail "n"
  intro nu hnu
  with_reducible refine ws_cut (fun δ' G' => (∃ j : Nat, j < st.sent.length ∧ δ' = [some (.obj d), some (.obj f.t), some (.dat (.list (f.hon.map .bool))), some (.dat (.list (f.A.map agD))), some (.dat (.int (st.sent.length : Nat))), some (.dat (.int ((m : Nat) : Int))), some (.dat (.int ((wh : Nat) : Int))), some (.dat (.int ((j : Nat) : Int)))]) ∧ G' = G2) ?_ ?_
  · with_reducible refine ws_if ?_
    fail "v"
    refine ⟨fun _ => ?_, fun _ => ?_⟩
    · fail "x"
      intro r hr
      have hr2 : r < st.sent.length := by omega
      fail "x"
      refine ⟨⟨st.sent.length - 1 - r, by omega, ?_⟩, rfl⟩
      rw [show ((st.sent.length : Int) - 1 - (r : Nat)) = ((st.sent.length - 1 - r : Nat) : Int) by omega]
      rfl
    · fail "x"
      exact ⟨⟨nu, by omega, rfl⟩, rfl⟩
  rintro δ' G3 ⟨⟨j, hj, rfl⟩, rfl⟩
  fail "x"
  exact ⟨f, st, B, j, m, rfl, a, o, i, b, by omega, rfl, hj, rfl, by omega, fun xs st' G' go b' => k xs st' G' go (b'.mono (by omega))⟩
theorem o__law_act {P : Program} {w : World} {K : PySem.W.Frag} {mg : Str → Option Value} {base : Heap} (e : Ev P w K mg base) : OkD P w K mg base 22 (He.ga K "_law_act") ["_law_draws_here", "_law_net", "_law_honest", "_law_agents"] [] (F__law_act K) := by
  obtain ⟨fd, FD⟩ := e.d__law_act
  exact okN FD (n__law_act e FD) fun _ _ _ _ _ _ us hl => match us, hl with | [_, _, _, _], _ => rfl
theorem sc__law_course : FnScope ["_law_draws_here", "_law_net", "_law_honest", "_law_agents", "_law_most", "_law_k", "_law_added"] ["_law_draws_here", "_law_net", "_law_honest", "_law_agents", "_law_most"] (defScope (top 96)) := ⟨rfl, rfl, rfl, by decide +kernel, rfl, by decide +kernel, by decide +kernel⟩
theorem n__law_course {P : Program} {w : World} {K : PySem.W.Frag} {mg : Str → Option Value} {base : Heap} {fd : FuncData} {dvs : List V} {kws : List (Str × V)} (e : Ev P w K mg base) (FD : FunD K "_law_course" "_law_course" (defArgs (top 96)) (defBody (top 96)) (defScope (top 96)) dvs kws (He.ga K "_law_course") fd) : FnOk P w K mg base CX0 23 (He.ga K "_law_course") fd ["_law_draws_here", "_law_net", "_law_honest", "_law_agents", "_law_most"] (spD K (F__law_course K)) := by
  have S := sc__law_course
  refine okD FD S (fun _ _ _ h => len5 h) fun cdv A outer s H E hr => ⟨_, (pss_cons (ps_for PassesOwn.never rfl (pi_range1 rfl e.x_range (pa_cons (pv 4) pa_nil)) (pg_name (i := 5) S.nd rfl (by first | exact Or.inl rfl | exact Or.inr rfl)) (pss_cons (ps_set (i := 6) S.nd rfl (by first | exact Or.inl rfl | exact Or.inr rfl) (k_cl K (o__law_act e) (hr.mono (by decide)) e.g__law_act (pa_cons (pv 0) (pa_cons (pv 1) (pa_cons (pv 2) (pa_cons (pv 3) pa_nil))))))
      (pss_one (ps_if (pt_not (pt_val (k_isi K (T := "list") rfl e.x_isinstance rfl e.x_list (by decide +kernel) (pv 6)))) (pss_one (ps_ret pe_bl)) pss_nil))))
      (pss_one (ps_ret pe_bl))), ?_⟩
  intro ds G Φ h
  try dsimp only [cxK, blkK]
  obtain ⟨x, y, z, u, v, rfl, d, f, st, B, n, rfl, hd, rfl, a, o, i, b, hB, rfl, rfl, rfl, hn, k⟩ := h
  refine ws_seq (ws_for (wi_rng1 ?_))
  fail "v"
  refine ⟨by omega, by omega, ?_⟩
  rw [Int.toNat_natCast]
  refine ⟨[5], fun j δ' G' => ∃ (st' : NSt) (y5 y6 : Option Dt), δ' = [some (.obj d), some (.obj f.t), some (.dat (.list (f.hon.map .bool))), some (.dat (.list (f.A.map agD))), some (.dat (.int ((n : Nat) : Int))), y5, y6] ∧ NGo K f st G st' G' ∧ NLe (B + 4 * j) f st', ⟨st, none, none, rfl, .refl a i, b⟩, ?_, ?_⟩
  · rintro j x δ' G' hx ⟨st', y5, y6, rfl, go, b'⟩
    obtain ⟨hj, rfl⟩ := upD_get.mp hx
    fail "x"
    refine ⟨d, f, st', B + 4 * j, rfl, go.nums d hd, rfl, go.at_, o, go.inv, b', by omega, rfl, rfl, fun xs st2 G2 go2 b2 => ?_⟩
    fail "x"
    exact ⟨st2, _, _, rfl, go.trans go2, b2⟩
  · rintro δ' G' ⟨st', y5, y6, rfl, go, b'⟩
    rw [upD_length] at b'
    fail "x"
    exact k st' G' go b'
theorem o__law_course {P : Program} {w : World} {K : PySem.W.Frag} {mg : Str → Option Value} {base : Heap} (e : Ev P w K mg base) : OkD P w K mg base 23 (He.ga K "_law_course") ["_law_draws_here", "_law_net", "_law_honest", "_law_agents", "_law_most"] [] (F__law_course K) := by
  obtain ⟨fd, FD⟩ := e.d__law_course
  exact okN FD (n__law_course e FD) fun _ _ _ _ _ _ us hl => match us, hl with | [_, _, _, _, _], _ => rfl
theorem sc__law_rounds : FnScope ["_law_net", "_law_honest", "_law_most", "_law_start", "_law_turn", "_law_count", "_law_k", "_law_member"] ["_law_net", "_law_honest", "_law_most"] (defScope (top 97)) := ⟨rfl, rfl, rfl, by decide +kernel, rfl, by decide +kernel, by decide +kernel⟩
theorem n__law_rounds {P : Program} {w : World} {K : PySem.W.Frag} {mg : Str → Option Value} {base : Heap} {fd : FuncData} {dvs : List V} {kws : List (Str × V)} (e : Ev P w K mg base) (FD : FunD K "_law_rounds" "_law_rounds" (defArgs (top 97)) (defBody (top 97)) (defScope (top 97)) dvs kws (He.ga K "_law_rounds") fd) : FnOk P w K mg base CX0 22 (He.ga K "_law_rounds") fd ["_law_net", "_law_honest", "_law_most"] (spD K (F__law_rounds K)) := by
  have S := sc__law_rounds
  refine okD FD S (fun _ _ _ h => len3 h) fun cdv A outer s H E hr => ⟨_, (pss_cons (ps_set (i := 3) S.nd rfl (by first | exact Or.inl rfl | exact Or.inr rfl) pe_int)
      (pss_one (ps_for PassesOwn.never rfl (pi_range1 rfl e.x_range (pa_cons (pv 2) pa_nil)) (pg_name (i := 4) S.nd rfl (by first | exact Or.inl rfl | exact Or.inr rfl)) (pss_cons (ps_set (i := 5) S.nd rfl (by first | exact Or.inl rfl | exact Or.inr rfl) (pe_callB (k_len K) rfl e.x_len (by decide +kernel) (pa_cons (k_me0 K e.c_Net e.h_Net_letters (o_Net_letters e) (hr.mono (by decide)) (pv 0)) pa_nil)))
      (pss_cons (ps_if (pt_cmpR op_lt (pe_op op_sub (pv 5) (pv 3)) pe_int (nomark _)) (pss_one (ps_for PassesOwn.never rfl (pi_range2 rfl e.x_range (pa_cons (pv 3) (pa_cons (pv 5) pa_nil))) (pg_name (i := 6) S.nd rfl (by first | exact Or.inl rfl | exact Or.inr rfl)) (pss_one (ps_for PassesOwn.never rfl (pi_range1 rfl e.x_range (pa_cons (pe_callB (k_len K) rfl e.x_len (by decide +kernel) (pa_cons (pv 1) pa_nil)) pa_nil)) (pg_name (i := 7) S.nd rfl (by first | exact Or.inl rfl | exact Or.inr rfl)) (pss_one (ps_expr (k_me K e.c_Net e.h_Net_deliver (o_Net_deliver e) (hr.mono (by decide)) (pv 0) (pa_cons (pv 6) (pa_cons (pv 7) pa_nil))))))))) pss_nil)
      (pss_one (ps_set (i := 3) S.nd rfl (by first | exact Or.inl rfl | exact Or.inr rfl) (pv 5)))))))), ?_⟩
  intro ds G Φ h
  try dsimp only [cxK, blkK]
  obtain ⟨x, y, z, rfl, f, st, B, rfl, a, o, i, b, hB, rfl, rfl, k⟩ := h
  have hhl := o.hlen
  have h3 := o.okA.n3
  have hhm : ((f.hon.map PyData.bool).length : Int) = (f.A.length : Int) + 1 := by rw [List.length_map, hhl]; rfl
  fail "n"
  refine ws_for (wi_rng1 ?_)
  fail "v"
  refine ⟨by decide, by decide, ?_⟩
  refine ⟨[4], fun t δ' G' => ∃ (st' : NSt) (s : Nat) (y4 y5 y6 y7 : Option Dt), δ' = [some (.obj f.t), some (.dat (.list (f.hon.map .bool))), some (.dat (.int 6)), some (.dat (.int ((s : Nat) : Int))), y4, y5, y6, y7] ∧ NGo K f st G st' G' ∧ NLe (B + t * 320) f st' ∧ s ≤ st'.sent.length,
    ⟨st, 0, none, none, none, none, rfl, .refl a i, by simpa using b, Nat.zero_le _⟩, ?_, ?_⟩
  · rintro t x δ' G' hx ⟨st', s, y4, y5, y6, y7, rfl, go, b', hs⟩
    have ht : t < 6 := (upD_get.mp hx).1
    have a' := go.at_
    have h1 := a'.tt
    have hsl := go.inv.sl
    have hsm : ((st'.sent.map ltD).length : Int) = (st'.sent.length : Int) := by rw [List.length_map]
    fail "v"
    with_reducible refine ws_seq ?_
    with_reducible refine ws_asg ?_
    fail "v"
    refine ⟨hsl, ?_⟩
    fail "v"
    rw [hsm]
    with_reducible refine ws_cut (fun δ' G2 => ∃ (st2 : NSt) (y6 y7 : Option Dt), δ' = [some (.obj f.t), some (.dat (.list (f.hon.map .bool))), some (.dat (.int 6)), some (.dat (.int ((s : Nat) : Int))), some (.dat x), some (.dat (.int ((st'.sent.length : Nat) : Int))), y6, y7] ∧ NGo K f st G st2 G2 ∧ NLe (B + (t + 1) * 320) f st2 ∧ st'.sent.length ≤ st2.sent.length) ?_ ?_
    · with_reducible refine ws_if ?_
      fail "v"
      refine ⟨fun hb => ?_, fun _ => ?_⟩
      · have hb := of_decide_eq_true hb
        refine ws_for (wi_rng2 ?_)
        fail "v"
        refine ⟨by omega, ?_⟩
        have en : ((st'.sent.length : Int) - (s : Nat)).toNat = st'.sent.length - s := by omega
        rw [en]
        refine ⟨[6], fun j δ' G2 => ∃ (st2 : NSt) (y6 y7 : Option Dt), δ' = [some (.obj f.t), some (.dat (.list (f.hon.map .bool))), some (.dat (.int 6)), some (.dat (.int ((s : Nat) : Int))), some (.dat x), some (.dat (.int ((st'.sent.length : Nat) : Int))), y6, y7] ∧ NGo K f st G st2 G2 ∧ NLe (B + t * 320 + j * 8) f st2 ∧ st'.sent.length ≤ st2.sent.length,
          ⟨st', y6, y7, rfl, go, by simpa using b', Nat.le_refl _⟩, ?_, ?_⟩
        · rintro j x2 δ' G2 hx2 ⟨st2, y6, y7, rfl, go2, b2, hs2⟩
          obtain ⟨hj, rfl⟩ := upD_get.mp hx2
          fail "v"
          refine ws_for (wi_rng1 ?_)
          fail "v"
          rw [hhm]
          refine ⟨by omega, by omega, ?_⟩
          have en2 : ((f.A.length : Int) + 1).toNat = f.A.length + 1 := by omega
          rw [en2]
          refine ⟨[7], fun q δ' G3 => ∃ (st3 : NSt) (y7 : Option Dt), δ' = [some (.obj f.t), some (.dat (.list (f.hon.map .bool))), some (.dat (.int 6)), some (.dat (.int ((s : Nat) : Int))), some (.dat x), some (.dat (.int ((st'.sent.length : Nat) : Int))), some (.dat (.int (((s : Nat) : Int) + (j : Nat)))), y7] ∧ NGo K f st G st3 G3 ∧ NLe (B + t * 320 + j * 8 + q * 2) f st3 ∧ st'.sent.length ≤ st3.sent.length,
            ⟨st2, y7, rfl, go2, by simpa using b2, hs2⟩, ?_, ?_⟩
          · rintro q x3 δ' G3 hx3 ⟨st3, y7, rfl, go3, b3, hs3⟩
            obtain ⟨hq, rfl⟩ := upD_get.mp hx3
            have a3 := go3.at_
            have h13 := a3.tt
            rw [Int.zero_add]
            fail "x"
            refine ⟨f, st3, _, s + j, q, rfl, a3, o, go3.inv, b3, by omega, rfl, by omega, rfl, by omega, fun xs st4 G4 go4 b4 => ?_⟩
            fail "x"
            exact ⟨st4, _, rfl, go3.trans go4, b4.mono (by omega), Nat.le_trans hs3 go4.sl⟩
          · rintro δ' G3 ⟨st3, y7, rfl, go3, b3, hs3⟩
            rw [upD_length] at b3
            exact ⟨st3, _, _, rfl, go3, b3.mono (by omega), hs3⟩
        · rintro δ' G2 ⟨st2, y6, y7, rfl, go2, b2, hs2⟩
          rw [upD_length] at b2
          exact ⟨st2, _, _, rfl, go2, b2.mono (by omega), hs2⟩
      · fail "v"
        refine ws_next ?_
        exact ⟨st', _, _, rfl, go, b'.mono (by omega), Nat.le_refl _⟩
    rintro δ' G2 ⟨st2, y6, y7, rfl, go2, b2, hs2⟩
    fail "x"
    exact ⟨st2, _, _, _, _, _, rfl, go2, b2, hs2⟩
  · rintro δ' G' ⟨st', s, y4, y5, y6, y7, rfl, go, b', hs⟩
    exact k st' G' go
theorem o__law_rounds {P : Program} {w : World} {K : PySem.W.Frag} {mg : Str → Option Value} {base : Heap} (e : Ev P w K mg base) : OkD P w K mg base 22 (He.ga K "_law_rounds") ["_law_net", "_law_honest", "_law_most"] [] (F__law_rounds K) := by
  obtain ⟨fd, FD⟩ := e.d__law_rounds
  exact okN FD (n__law_rounds e FD) fun _ _ _ _ _ _ us hl => match us, hl with | [_, _, _], _ => rfl
end DL
/-! (Lg) -/
namespace DL
open PySem PySem.Spec PyProof.Rows L2

local macro_rules | `(tactic| fail "l") => `(tactic| first | exact Nat.le_of_ble_eq_true rfl | omega | (simp only [List.length_map, List.length_append, List.length_cons, List.length_nil]; omega))
local macro_rules | `(tactic| fail "aS") => `(tactic| with_reducible first | refine ws_seq ?_ | refine ws_if ?_ | refine ws_ret ?_ | refine ws_asg ?_ | refine ws_drop ?_ | refine ws_next ?_ | refine ws_retN ?_ | refine ws_fldF ?_ | refine ws_fldN ?_ | refine ws_dput ?_ | refine ws_asgT5 ?_ | refine ws_asgT4 ?_ | refine ws_asgT3 ?_)
local macro_rules | `(tactic| fail "aO") => `(tactic| with_reducible first | refine we_ix ?_ | refine we_II ?_ | refine we_IB ?_ | refine we_eq ?_ | refine we_ne ?_ | refine we_add ?_ | refine we_addG ?_ | refine we_IC ?_ | refine we_eqD ?_ | refine we_neD ?_ | refine we_inD ?_ | refine we_notInD ?_ | refine we_in ?_ | refine we_inSg ?_)
local macro_rules | `(tactic| fail "aC") => `(tactic| with_reducible first | refine we_len ?_ | refine we_lenD ?_ | refine we_all ?_ | refine we_any ?_ | refine we_int1 ?_ | refine we_strI ?_ | refine we_listOf ?_ | refine we_tupOf ?_ | refine we_sum ?_ | refine we_abs ?_ | refine we_min2 ?_ | refine we_gcd ?_)
local macro_rules | `(tactic| fail "aE") => `(tactic| first
  | ((with_reducible apply we_var); rfl)
  | with_reducible refine we_int ?_ | with_reducible refine we_str ?_ | with_reducible refine we_non ?_ | with_reducible refine we_bl ?_
  | ((with_reducible show WE _ (tOp _ _ _) _ _ _); fail "aO")
  | ((with_reducible show WE _ (tCB _ _) _ _ _); fail "aC")
  | with_reducible refine we_call ?_ | with_reducible refine we_fld ?_ | with_reducible refine we_meth' ?_ | with_reducible refine we_tup ?_ | with_reducible refine we_isi (by decide) ?_ | with_reducible refine we_lst ?_ | with_reducible refine we_lstG ?_
  | with_reducible refine we_and ?_ | with_reducible refine we_or ?_ | with_reducible refine we_not ?_ | with_reducible refine we_chainI ?_ | with_reducible refine we_isN ?_ | with_reducible refine we_notN ?_ | with_reducible refine we_append ?_ | with_reducible refine we_extend ?_ | with_reducible refine we_index ?_
  | with_reducible refine we_slL ?_ | with_reducible refine we_slT ?_ | with_reducible refine we_dget ?_ | with_reducible refine we_din ?_ | with_reducible refine we_dnotin ?_ | with_reducible refine we_dictG ?_ | with_reducible refine we_prop ?_ | with_reducible refine we_join ?_ | with_reducible refine we_neg ?_ | with_reducible refine we_lenSet ?_)
local macro_rules | `(tactic| fail "aT") => `(tactic| with_reducible first | refine wt_val ?_ | refine wt_tst ?_ | refine wt_and ?_ | refine wt_or ?_ | refine wt_not ?_ | refine wt_yes ?_)
local macro_rules | `(tactic| fail "aD") => `(tactic| with_reducible first | refine dEq_ii ?_ | refine dEq_ss ?_ | refine dEq_bb ?_ | refine dEq_nn ?_ | refine dEq_ni ?_ | refine dEq_in ?_ | refine dAdd_ii ?_ | refine dInt_i ?_ | refine dInt_b ?_ | refine dLen_l ?_ | refine dLen_t ?_)
local macro_rules | `(tactic| fail "a") => `(tactic| first
  | ((with_reducible show WE _ _ _ _ _); fail "aE")
  | ((with_reducible show WA _ _ _ _ _); (with_reducible first | refine wa_cons ?_ | refine wa_nil ?_))
  | ((with_reducible show WS _ _ _ _ _); fail "aS")
  | ((with_reducible show WT _ _ _ _ _); fail "aT")
  | ((with_reducible show WG _ _ _ _ _ _ _); first | with_reducible refine wg_name ?_ | ((with_reducible refine wg_tup ?_ ?_); rfl))
  | ((with_reducible show WGs _ _ _ _ _ _ _); (with_reducible first | refine wgs_cons ?_ | refine wgs_nil ?_))
  | ((with_reducible show WO _ _ _ _ _); (with_reducible first | refine wo_none ?_ | refine wo_some ?_))
  | ((with_reducible show dIx _ _ _ _); first | ((with_reducible apply dIx_t); rfl) | ((with_reducible apply dIx_l); rfl))
  | ((with_reducible show dAdd _ _ _ _); first | with_reducible refine dAdd_ii ?_ | ((with_reducible refine dAdd_ll ?_ ?_); fail "l") | ((with_reducible apply dAdd_ol); (fail "h"); (fail "l")) | ((with_reducible refine dAdd_tt ?_ ?_); fail "l") | ((with_reducible refine dAdd_ss ?_ ?_); fail "l"))
  | fail "aD")
local macro_rules | `(tactic| fail "e") => `(tactic| ((fail_if_success (with_reducible show ∃ _ : NF, _)); (fail_if_success (with_reducible show ∃ _ : PF, _)); (fail_if_success (with_reducible show ∃ _ : DF, _)); (first | with_reducible refine ⟨_, _, rfl, rfl, ?_⟩ | with_reducible refine ⟨_, rfl, ?_⟩ | with_reducible refine ⟨rfl, ?_⟩ | with_reducible refine ⟨_, _, rfl, ?_⟩ | with_reducible refine ⟨_, _, _, rfl, ?_⟩ | with_reducible refine ⟨_, _, _, _, rfl, ?_⟩ | with_reducible refine ⟨_, _, _, _, _, rfl, ?_⟩ | ((refine ⟨?l, ?_⟩); (case l => (with_reducible show _ < 1000000); fail "l")) | ((refine ⟨?l, ?_⟩); (case l => (with_reducible show _ ≤ 1000000); fail "l")))))
local macro_rules | `(tactic| fail "g") => `(tactic| ((funext gb; simp only [updG, dropG]; repeat' split) <;> first | rfl | (exfalso; simp_all; done) | (simp_all; done)))
local macro_rules | `(tactic| fail "q") => `(tactic| first | assumption | exact Ne.symm (by assumption))
local macro_rules | `(tactic| fail "h") => `(tactic| first | assumption | exact updG_same | ((rw [updG_ne]); (fail "h"); (fail "q")))
local macro_rules | `(tactic| fail "z") => `(tactic| first | rfl | exact ⟨rfl, rfl⟩ | exact ⟨_, rfl, rfl⟩ | exact ⟨_, _, rfl, rfl⟩ | exact ⟨_, _, _, rfl, rfl⟩ | assumption)
local macro_rules | `(tactic| fail "t") => `(tactic| ((with_reducible refine ⟨_, _, rfl, ?h1, rfl, ?h2, ?tk⟩); (case h1 => fail "h"); (case h2 => first | decide | omega)))
local macro_rules | `(tactic| fail "f") => `(tactic| first
  | fail "t"
  | refine ⟨_, _, rfl, .inr (.inl rfl), ?_⟩ | refine ⟨_, _, rfl, .inl rfl, ?_⟩
  | (refine ⟨_, ?ds, rfl, .inr (.inr ⟨_, rfl, ?h1⟩), ?_⟩; (case h1 => fail "h"))
  | (refine ⟨_, ?ds, rfl, .inr ⟨_, rfl, ?h1⟩, ?_⟩; (case h1 => fail "h"))
  | ((with_reducible refine ⟨_, ?ds, ?d, rfl, ?h1, ?h2, ?_⟩); (case h1 => fail "h"); (case h2 => rfl))
  | ((with_reducible refine ⟨_, ?ds, rfl, ?h1, ?_⟩); (case h1 => fail "h"))
  | ((with_reducible refine ⟨_, ?ns, ?ds, rfl, ?h1, ?h2, ?_⟩); (case h1 => fail "h"); (case h2 => decide))
  | ((with_reducible refine ⟨_, ?ns, ?ds, rfl, (?h1 : _ = some (GO.ins _ ?ns ?ds)), ?_⟩); (case h1 => fail "h"))
  | ((with_reducible refine ⟨_, rfl, ⟨?ys, ?h1⟩, ?_⟩); (case h1 => fail "h"))
  | ((with_reducible refine ⟨_, ?xs, rfl, ?h1, ?h2, ?_⟩); (case h1 => fail "h"); (case h2 => omega)))
local macro_rules | `(tactic| fail "y") => `(tactic| first
  | ((with_reducible refine ⟨fun _ => ?_, fun hbb => ?nope⟩); (case nope => first | exact Bool.noConfusion (show true = false from hbb) | exact Bool.noConfusion (show false = true from hbb) | exact absurd (of_decide_eq_true hbb) (by omega) | exact absurd (of_decide_eq_false hbb) (by omega) | (simp at hbb; done) | (simp at hbb; omega)))
  | ((with_reducible refine ⟨fun hbb => ?nope, fun _ => ?_⟩); (case nope => first | exact Bool.noConfusion (show true = false from hbb) | exact Bool.noConfusion (show false = true from hbb) | exact absurd (of_decide_eq_true hbb) (by omega) | exact absurd (of_decide_eq_false hbb) (by omega) | (simp at hbb; done) | (simp at hbb; omega))))
local macro_rules | `(tactic| fail "w") => `(tactic| repeat fail "a")
local macro_rules | `(tactic| fail "x") => `(tactic| repeat (first | fail "a" | fail "f" | fail "e" | fail "y"))
local macro_rules | `(tactic| fail "b") => `(tactic| first
  | ((with_reducible show WE _ _ _ _ _); fail "aE")
  | ((with_reducible show WA _ _ _ _ _); (with_reducible first | refine wa_cons ?_ | refine wa_nil ?_))
  | ((with_reducible show WT _ _ _ _ _); fail "aT")
  | ((with_reducible show WG _ _ _ _ _ _ _); first | with_reducible refine wg_name ?_ | ((with_reducible refine wg_tup ?_ ?_); rfl))
  | ((with_reducible show WGs _ _ _ _ _ _ _); (with_reducible first | refine wgs_cons ?_ | refine wgs_nil ?_))
  | ((with_reducible show WO _ _ _ _ _); (with_reducible first | refine wo_none ?_ | refine wo_some ?_))
  | ((with_reducible show dIx _ _ _ _); first | ((with_reducible apply dIx_t); rfl) | ((with_reducible apply dIx_l); rfl))
  | ((with_reducible show dAdd _ _ _ _); first | with_reducible refine dAdd_ii ?_ | ((with_reducible refine dAdd_ll ?_ ?_); fail "l") | ((with_reducible apply dAdd_ol); (fail "h"); (fail "l")) | ((with_reducible refine dAdd_tt ?_ ?_); fail "l") | ((with_reducible refine dAdd_ss ?_ ?_); fail "l"))
  | fail "aD")
local macro_rules | `(tactic| fail "v") => `(tactic| repeat (first | fail "b" | fail "f" | fail "e" | fail "y"))
local macro_rules | `(tactic| fail "n") => `(tactic| ((with_reducible refine ws_seq ?_); (fail "aS"); (fail "v")))

theorem profs_pnum {A : List Ag} (hA : okG A) {r : List Nat} (h : r ∈ profs (msOf A)) : (profs (msOf A))[pnum (msOf A) r]? = some r ∧ ix r (profs (msOf A)) = pnum (msOf A) r := pnum_all _ hA.ms r h
def okPr (r : List Nat) : Prop := r.length ≤ 3
theorem prD_inj : ∀ {a b : List Nat}, prD a = prD b → a = b := fun {a b} h => map_inj (f := fun k : Nat => PyData.int (k : Nat)) (fun x y e => Int.ofNat.inj (PyData.int.inj e)) (PyData.tuple.inj h)
theorem pr_tame' : Tame prD okPr 1 := ⟨fun _ _ => prD_inj, fun a h => cok_mk (by rw [List.length_map]; have : a.length ≤ 3 := h; omega) fun x hx => by
  obtain ⟨k, _, rfl⟩ := List.mem_map.mp hx
  exact cok_int, by decide⟩
theorem prof_len {A : List Ag} (hA : okG A) {r : List Nat} (h : r ∈ profs (msOf A)) : r.length = A.length := by
  have := (prof_ok h).1
  rw [this]
  unfold msOf; rw [List.length_map]
theorem inV_bl {l : List Bool} : inV (.bl false) (l.map V.bl) = l.any fun b => !b := by
  unfold inV
  rw [List.any_map]
  congr 1
  funext b
  cases b <;> rfl
theorem flVs_bl : ∀ {l : List Bool}, flVs (l.map PyData.bool) = some (l.map V.bl)
  | [] => rfl
  | c :: l => by
    show (match flV (.bool c), flVs (l.map PyData.bool) with | some v, some vs => some (v :: vs) | _, _ => none) = _
    rw [flVs_bl]; rfl

theorem sc__law_result_is_right : FnScope ["_law_result", "_law_agents", "_law_rule_here", "_law_reports_here", "_law_honest", "_law_k", "_law_lot_here"] ["_law_result", "_law_agents", "_law_rule_here", "_law_reports_here", "_law_honest"] (defScope (top 99)) := ⟨rfl, rfl, rfl, by decide +kernel, rfl, by decide +kernel, by decide +kernel⟩
theorem n__law_result_is_right {P : Program} {w : World} {K : PySem.W.Frag} {mg : Str → Option Value} {base : Heap} {fd : FuncData} {dvs : List V} {kws : List (Str × V)} (e : Ev P w K mg base) (FD : FunD K "_law_result_is_right" "_law_result_is_right" (defArgs (top 99)) (defBody (top 99)) (defScope (top 99)) dvs kws (He.ga K "_law_result_is_right") fd) : FnOk P w K mg base CX0 2 (He.ga K "_law_result_is_right") fd ["_law_result", "_law_agents", "_law_rule_here", "_law_reports_here", "_law_honest"] (spD K F__law_result_is_right) := by
  have S := sc__law_result_is_right
  refine okD FD S (fun _ _ _ h => len5 h) fun cdv A outer s H E hr => ⟨_, (pss_cons (ps_if (pt_cmp (pc_isN (pv 0))) (pss_one (ps_ret pe_bl)) pss_nil)
      (pss_cons (ps_if (PW.pt (pw_or (pt_not (pt_val (k_isi K (T := "tuple") rfl e.x_isinstance rfl e.x_tuple (by decide +kernel) (pv 0)))) (pw_or (pt_cmpR op_ne (pe_callB (k_len K) rfl e.x_len (by decide +kernel) (pa_cons (pv 0) pa_nil)) pe_int (nomark _)) (pw_or1 (pt_cmpR (k_notinD K hr) (pe_ix (k_ix K) (pv 0) pe_int (fun _ _ => rfl)) (k_cl K (o__law_profiles e) (hr.mono (by decide)) e.g__law_profiles (pa_cons (pv 1) pa_nil)) (by with_unfolding_all rfl)))))) (pss_one (ps_ret pe_bl)) pss_nil)
      (pss_cons (ps_for PassesOwn.never rfl (pi_range1 rfl e.x_range (pa_cons (pe_callB (k_len K) rfl e.x_len (by decide +kernel) (pa_cons (pv 1) pa_nil)) pa_nil)) (pg_name (i := 5) S.nd rfl (by first | exact Or.inl rfl | exact Or.inr rfl)) (pss_one (ps_if (PW.pt (pw_and (pt_val (pe_ix (k_ix K) (pv 4) (pe_op (k_add K) (pv 5) pe_int) (fun _ _ => rfl))) (pw_and1 (pt_not (pt_val (k_cl K (o__law_same e) (hr.mono (by decide)) e.g__law_same (pa_cons (pe_ix (k_ix K) (pe_ix (k_ix K) (pv 0) pe_int (fun _ _ => rfl)) (pv 5) (fun _ _ => rfl)) (pa_cons (pe_ix (k_ix K) (pe_ix (k_ix K) (pv 3) (pv 5) (fun _ _ => rfl)) pe_int (fun _ _ => rfl)) pa_nil)))))))) (pss_one (ps_ret pe_bl)) pss_nil)))
      (pss_cons (ps_set (i := 6) S.nd rfl (by first | exact Or.inl rfl | exact Or.inr rfl) (pe_ix (k_ix K) (pe_ix (k_ix K) (pv 2) (k_bm K PySem.F.plainAttrs_list PySem.F.slot_list_index PySem.F.type_list_index (k_index K hr) (k_cl K (o__law_profiles e) (hr.mono (by decide)) e.g__law_profiles (pa_cons (pv 1) pa_nil)) (pa_cons (pe_ix (k_ix K) (pv 0) pe_int (fun _ _ => rfl)) pa_nil)) (fun _ _ => rfl)) pe_int (fun _ _ => rfl)))
      (pss_cons (ps_if (PW.pt (pw_or (pt_not (pt_val (k_isi K (T := "int") rfl e.x_isinstance rfl e.x_int (by decide +kernel) (pe_ix (k_ix K) (pv 0) pe_int (fun _ _ => rfl))))) (pw_or (pt_val (k_isi K (T := "bool") rfl e.x_isinstance rfl e.x_bool (by decide +kernel) (pe_ix (k_ix K) (pv 0) pe_int (fun _ _ => rfl)))) (pw_or1 (pt_not (pt_chain op_le op_lt pe_int (pe_ix (k_ix K) (pv 0) pe_int (fun _ _ => rfl)) pe_int)))))) (pss_one (ps_ret pe_bl)) pss_nil)
      (pss_cons (ps_if (PW.pt (pw_and (pt_cmpR (k_notin K) pe_bl (pe_slice (k_slL K) (pv 4) (po_some pe_int) po_none) (by with_unfolding_all rfl)) (pw_and1 (pt_cmpR op_ne (pe_ix (k_ix K) (pv 0) pe_int (fun _ _ => rfl)) (k_cl K (o__law_drawn e) (hr.mono (by decide)) e.g__law_drawn (pa_cons (pv 6) (pa_cons (pv 3) pa_nil))) (nomark _))))) (pss_one (ps_ret pe_bl)) pss_nil)
      (pss_one (ps_ret (pe_cmpR op_gt (pe_ix (k_ix K) (pe_ix (k_ix K) (pv 6) (pe_ix (k_ix K) (pv 0) pe_int (fun _ _ => rfl)) (fun _ _ => rfl)) pe_int (fun _ _ => rfl)) pe_int (nomark _)))))))))), ?_⟩
  intro ds G Φ h
  try dsimp only [cxK, blkK]
  obtain ⟨x, ag, ru, re, ho, rfl, A, rl, reps, hon, rfl, hA, rfl, hR, rfl, hrl, hro, rfl, hhl, hx, k⟩ := h
  have h3 := hA.n3
  have h1 := hA.n1
  rcases hx with rfl | ⟨r, n, rfl, hr⟩
  · fail "x"
    exact k
  have hAm : ((A.map agD).length : Int) = (A.length : Int) := by rw [List.length_map]
  have hrlen := prof_len hA hr.prof
  have hpok : ∀ a ∈ profs (msOf A), okPr a := fun a ha => by show a.length ≤ 3; rw [prof_len hA ha]; exact h3
  obtain ⟨hp1, hp2⟩ := profs_pnum hA hr.prof
  fail "x"
  refine ⟨hA, ?_⟩
  have hok : okPr r := hpok r hr.prof
  have hany : ((profs (msOf A)).map prD).any (fun z => PyData.eqv z (prD r)) = true := (pr_tame'.any hpok hok).trans (by simp [hr.prof])
  fail "x"
  refine ⟨pr_tame'.shaped hok, pr_tame'.shapedL hpok, ?_⟩
  rw [hany]
  fail "v"
  refine ws_next ?_
  with_reducible refine ws_cut (fun δ' G' => ∃ (y5 : Option Dt), δ' = [some (.dat (.tuple [prD r, .int ((n : Nat) : Int)])), some (.dat (.list (A.map agD))), some (.dat (ruleD A.length rl)), some (.dat (.list (reps.map rpD))), some (.dat (.list (hon.map .bool))), y5, none] ∧ G' = G) ?_ ?_
  · with_reducible refine ws_for ?_
    with_reducible refine wi_rng1 ?_
    fail "v"
    rw [hAm]
    refine ⟨by omega, by omega, ?_⟩
    rw [Int.toNat_natCast]
    refine ⟨[5], fun j δ' G' => ∃ (y5 : Option Dt), δ' = [some (.dat (.tuple [prD r, .int ((n : Nat) : Int)])), some (.dat (.list (A.map agD))), some (.dat (ruleD A.length rl)), some (.dat (.list (reps.map rpD))), some (.dat (.list (hon.map .bool))), y5, none] ∧ G' = G, ⟨none, rfl, rfl⟩, ?_, ?_⟩
    · rintro j x δ' G' hx ⟨y5, rfl, rfl⟩
      obtain ⟨hj, rfl⟩ := upD_get.mp hx
      rw [Int.zero_add]
      fail "x"
      have hh : hon[j + 1]? = some hon[j + 1] := List.getElem?_eq_getElem (by omega)
      refine dIx_l (atI_int (k := j + 1) (by omega) (by rw [List.getElem?_map, hh]; rfl)) ?_
      fail "x"
      refine ⟨fun hh1 => ?_, fun _ => ⟨fun z => (by cases z), fun _ => ?_⟩⟩
      · have hr1 : r[j]? = some r[j] := List.getElem?_eq_getElem (by omega)
        have hp1 : reps[j]? = some reps[j] := List.getElem?_eq_getElem (by omega)
        have hown := hr.own j _ _ hp1 (by rw [hh, hh1]) hr1
        fail "x"
        refine dIx_t (atI_nat (by rw [List.getElem?_map, hr1]; rfl)) ?_
        fail "x"
        refine dIx_l (atI_nat (by rw [List.getElem?_map, hp1]; rfl)) ?_
        fail "x"
        rfl
      · fail "x"
        rfl
    · rintro δ' G' ⟨y5, rfl, rfl⟩
      exact ⟨_, rfl, rfl⟩
  rintro δ' G' ⟨y5, rfl, rfl⟩
  fail "x"
  obtain ⟨i1, i2, i3⟩ := pr_tame'.index hpok hok hr.prof
  rw [hp2] at i1 i3
  refine ⟨hA, .inl ⟨_, rfl⟩, ?_⟩
  fail "x"
  refine ⟨pr_tame'.shaped hok, pr_tame'.shapedL hpok, pnum (msOf A) r, prD r, i1, i2, i3, ?_⟩
  have hpl : pnum (msOf A) r < rl.length := by rw [hR.len]; exact (List.getElem?_eq_some_iff.mp hp1).1
  have hlot : rl[pnum (msOf A) r]? = some (rl.getD (pnum (msOf A) r) []) := by rw [List.getD_eq_getElem?_getD, List.getElem?_eq_getElem hpl]; rfl
  have hlin := hR.lots _ (List.mem_of_getElem? hlot)
  obtain ⟨l3, _, _, _⟩ := lots_all _ hlin
  have hn3 := hr.n3
  have hpos := hr.pos
  have hall := hr.all
  generalize rl.getD (pnum (msOf A) r) [] = lot at *
  refine dIx_l (atI_nat (by rw [List.getElem?_map, hlot]; rfl)) ?_
  fail "x"
  have hcut : cutD (hon.map PyData.bool) (some 1) none = (hon.drop 1).map PyData.bool := by
    have e1 : HT.sIx (hon.map PyData.bool).length 0 (some ((1 : Nat) : Int)) = 1 := by
      rw [HT.sIx_nat, List.length_map]; omega
    unfold cutD
    rw [show (some (1 : Int)) = some ((1 : Nat) : Int) from rfl, e1, HT.sIx_none, List.take_of_length_le (by rw [List.length_drop]; exact Nat.le_refl _), List.map_drop]
  have htk : ∀ q ∈ reps, q.2.2 ∈ ticks5 := fun q hq => by
    obtain ⟨j, hj, e1⟩ := List.mem_iff_getElem.mp hq
    have hqj : reps[j]? = some q := by rw [List.getElem?_eq_getElem hj, e1]
    obtain ⟨_, _, _, t1, t2⟩ := hro j q A[j] hqj (List.getElem?_eq_getElem (by omega))
    exact tick_of t1 t2
  have hlc : lot[n]? = some (lot.getD n (0, 1)) := by rw [List.getD_eq_getElem?_getD, List.getElem?_eq_getElem (by omega)]; rfl
  refine ⟨hon.map .bool, .inl rfl, ?_⟩
  rw [hcut]
  refine ⟨.bool false, (hon.drop 1).map .bool, .bl false, (hon.drop 1).map .bl, rfl, .inr (.inl rfl), rfl, flVs_bl, ?_⟩
  rw [inV_bl]
  refine ⟨_, rfl, fun hall1 => ?_, fun _ => ⟨fun z => (by cases z), fun _ => ?_⟩⟩
  · have hn := hall fun b hb => by
      have h2 : ((hon.drop 1).any fun b => !b) = false := by simpa using hall1
      have := List.any_eq_false.mp h2 b hb
      simpa using this
    fail "x"
    refine ⟨hlin, by omega, htk, ?_⟩
    rw [← hn]
    fail "x"
    refine dIx_l (atI_nat (by rw [List.getElem?_map, hlc]; rfl)) ?_
    fail "x"
    rw [decide_eq_true hpos]
    exact k
  · fail "x"
    refine dIx_l (atI_nat (by rw [List.getElem?_map, hlc]; rfl)) ?_
    fail "x"
    rw [decide_eq_true hpos]
    exact k
theorem o__law_result_is_right {P : Program} {w : World} {K : PySem.W.Frag} {mg : Str → Option Value} {base : Heap} (e : Ev P w K mg base) : OkD P w K mg base 2 (He.ga K "_law_result_is_right") ["_law_result", "_law_agents", "_law_rule_here", "_law_reports_here", "_law_honest"] [] F__law_result_is_right := by
  obtain ⟨fd, FD⟩ := e.d__law_result_is_right
  exact okN FD (n__law_result_is_right e FD) fun _ _ _ _ _ _ us hl => match us, hl with | [_, _, _, _, _], _ => rfl
end DL
/-! (Pl) -/
namespace DL
open PySem PySem.Spec PyProof.Rows L2

/-! ### the plain law: honest parties are not fooled -/
section
variable {f : NF} {st st' : NSt}
theorem rp_at (o : NOk f) {i : Nat} {p : Rp} (h : f.reps[i]? = some p) : f.rp (i + 1) = p := by
  unfold NF.rp
  rw [List.getD_eq_getElem?_getD, show i + 1 - 1 = i from rfl, h]; rfl
/-- what a book tells of the honest -/
theorem book_own (o : NOk f) (i : NInv f st) {m : Nat} (hm : f.H m) {q : (Opn × Int) × List (Opn × Int)} (e : (st.ps m).bb = some q) :
    ∃ L, (st.ps m).lb = some L ∧ BookP f.A st.cs st.sg L (q.1 :: q.2) ∧ ∀ j, f.H j → (st.ps j).lb = some L ∧ ∀ p, (q.1 :: q.2)[j - 1]? = some p → p.1.2.2.1 = (f.rp j).1 ∧ p.1.2.2.2 = (f.rp j).2.2 := by
  obtain ⟨_, L, hL, hB⟩ := (i.p m hm).bb q e
  refine ⟨L, hL, hB, fun j hj => ?_⟩
  have key : ∀ p, (q.1 :: q.2)[j - 1]? = some p → (st.ps j).lb = some L ∧ p.1.2.2.1 = (f.rp j).1 ∧ p.1.2.2.2 = (f.rp j).2.2 := fun p hp => by
    obtain ⟨hv, hF⟩ := hB.2 (j - 1) p hp
    have ej : (((j - 1 : Nat) : Int) + 1) = ((j : Nat) : Int) := by have := hj.1; omega
    rw [ej] at hv
    unfold validB at hv
    obtain ⟨_, hv⟩ := Bool.and_eq_true_iff.mp hv
    have hmem := List.mem_of_getElem? (of_decide_eq_true hv)
    rcases (i.p j hj).sg "open" (.opn p.1) hmem with ⟨z, _⟩ | ⟨_, Lj, hLj, n, hn, eb⟩
    · exact absurd z (by decide)
    · have eb : By.opn p.1 = .opn ((n : Int), (f.rp j).2.1, (f.rp j).1, (f.rp j).2.2) := eb
      have ep := By.opn.inj eb
      obtain ⟨n', e1, e2⟩ := hF.ls
      rw [ep] at e1
      have en : n = n' := Int.ofNat.inj e1
      subst en
      rw [hn] at e2
      have eL : Lj = L := By.prs.inj (Ct.lst.inj (Option.some.inj e2))
      subst eL
      refine ⟨hLj, ?_, ?_⟩ <;> rw [ep]
  have hlen : (q.1 :: q.2).length = f.A.length := hB.1
  have hj1 := hj.1
  have hj2 := hj.2.1
  have hp0 : (q.1 :: q.2)[j - 1]? = some (q.1 :: q.2)[j - 1] := List.getElem?_eq_getElem (by omega)
  exact ⟨(key _ hp0).1, fun p hp => (key p hp).2⟩
theorem ext_map {α β γ : Type} {g : α → γ} {h : β → γ} {xs : List α} {ys : List β} (hl : xs.length = ys.length) (k : ∀ (i : Nat) (x : α) (y : β), xs[i]? = some x → ys[i]? = some y → g x = h y) : xs.map g = ys.map h := by
  refine List.ext_getElem? fun i => ?_
  rw [List.getElem?_map, List.getElem?_map]
  by_cases z : i < xs.length
  · have e1 : xs[i]? = some xs[i] := List.getElem?_eq_getElem z
    have e2 : ys[i]? = some (ys[i]'(by omega)) := List.getElem?_eq_getElem (by omega)
    rw [e1, e2]
    exact congrArg some (k i _ _ e1 e2)
  · rw [List.getElem?_eq_none (by omega), List.getElem?_eq_none (by omega)]; rfl
theorem resD_congr {A : List Ag} {rl : List (List Rt)} {l1 l2 : List (Opn × Int)} (h : l1.map (fun p => p.1.2.2) = l2.map fun p => p.1.2.2) : resD A rl l1 = resD A rl l2 := by
  have e1 : kindsOf l1 = kindsOf l2 := by
    have := congrArg (List.map fun x : Int × Rt => x.1.toNat) h
    rw [List.map_map, List.map_map] at this
    exact this
  have e2 : (l1.map fun p => p.1.2.2.2) = l2.map fun p => p.1.2.2.2 := by
    have := congrArg (List.map fun x : Int × Rt => x.2) h
    rw [List.map_map, List.map_map] at this
    exact this
  have e3 : totOf l1 = totOf l2 := by unfold totOf; rw [e2]
  unfold resD resN
  rw [e1, e3]
/-- two honest parties that have a result have the same -/
theorem same_res (o : NOk f) (i : NInv f st) {m j : Nat} (hm : f.H m) (hj : f.H j) {q u : (Opn × Int) × List (Opn × Int)} (e : (st.ps m).bb = some q) (e2 : (st.ps j).bb = some u) : resD f.A f.rl (q.1 :: q.2) = resD f.A f.rl (u.1 :: u.2) := by
  obtain ⟨L, h1, hB, hO⟩ := book_own o i hm e
  obtain ⟨L2, h2, hB2, _⟩ := book_own o i hj e2
  have eL : L2 = L := Option.some.inj (h2.symm.trans (hO j hj).1)
  subst eL
  refine resD_congr (ext_map (by rw [hB.1, hB2.1]) fun n x y hx hy => ?_)
  obtain ⟨z, k, z1, z2, z3⟩ := (hB.2 n x hx).2.rp
  obtain ⟨z', k', z1', z2', z3'⟩ := (hB2.2 n y hy).2.rp
  rw [z1] at z1'
  have ez : z = z' := Option.some.inj z1'
  subst ez
  have ek : k = k' := Int.ofNat.inj (z2.symm.trans z2')
  subst ek
  rw [z3] at z3'
  have e4 := Option.some.inj z3'
  injection e4 with e5 e6 e7
  exact Prod.ext e6 e7
end
/-! what is drawn -/
def okDr (lot ts : List Rt) : Prop := drawnD lot (fracR (ts.foldl addR (0, 1))) < 3 ∧ 0 < (lot.getD (drawnD lot (fracR (ts.foldl addR (0, 1)))) (0, 1)).1 ∧ drawnD lot (fracR (ts.foldl addR (0, 1))) = lDrawn lot ts
instance (lot ts : List Rt) : Decidable (okDr lot ts) := by unfold okDr; infer_instance
theorem okDr1 : ∀ lot ∈ lots6, ∀ a ∈ ticks5, okDr lot [a] := by decide +kernel
theorem okDr2 : ∀ lot ∈ lots6, ∀ a ∈ ticks5, ∀ b ∈ ticks5, okDr lot [a, b] := by decide +kernel
theorem okDr3 : ∀ lot ∈ lots6, ∀ a ∈ ticks5, ∀ b ∈ ticks5, ∀ c ∈ ticks5, okDr lot [a, b, c] := by decide +kernel
theorem okDr_of {lot : List Rt} (hl : lot ∈ lots6) : ∀ {ts : List Rt}, 1 ≤ ts.length → ts.length ≤ 3 → (∀ a ∈ ts, a ∈ ticks5) → okDr lot ts
  | [], h, _, _ => by cases h
  | [a], _, _, h => okDr1 lot hl a (h a (by simp))
  | [a, b], _, _, h => okDr2 lot hl a (h a (by simp)) b (h b (by simp))
  | [a, b, c], _, _, h => okDr3 lot hl a (h a (by simp)) b (h b (by simp)) c (h c (by simp))
  | a :: b :: c :: d :: l, _, h, _ => by simp at h
section
variable {f : NF} {st st' : NSt}
/-- the result of an honest party is right -/
theorem res_right (o : NOk f) (i : NInv f st) {m : Nat} (hm : f.H m) {q : (Opn × Int) × List (Opn × Int)} (e : (st.ps m).bb = some q) : ResP f.A f.rl f.reps f.hon (kindsOf (q.1 :: q.2)) (resN f.A f.rl (q.1 :: q.2)) := by
  obtain ⟨L, h1, hB, hO⟩ := book_own o i hm e
  have hb := hB.ok
  have n1 := o.okA.n1
  have n3 := o.okA.n3
  have hlen : (q.1 :: q.2).length = f.A.length := hb.len
  have hrl := o.rlen
  have hhl := o.hlen
  have hpn : (profs (msOf f.A))[pnum (msOf f.A) (kindsOf (q.1 :: q.2))]? = some (kindsOf (q.1 :: q.2)) := (pnum_all _ o.okA.ms _ hb.prof).1
  have hpl : pnum (msOf f.A) (kindsOf (q.1 :: q.2)) < f.rl.length := by rw [o.okR.len]; exact (List.getElem?_eq_some_iff.mp hpn).1
  have hlot : f.rl.getD (pnum (msOf f.A) (kindsOf (q.1 :: q.2))) [] ∈ lots6 := by
    rw [List.getD_eq_getElem?_getD, List.getElem?_eq_getElem hpl]
    exact o.okR.lots _ (List.getElem_mem hpl)
  have hdr := okDr_of hlot (ts := (q.1 :: q.2).map fun p => p.1.2.2.2) (by rw [List.length_map]; omega) (by rw [List.length_map]; omega) fun a ha => by
    obtain ⟨p, hp, rfl⟩ := List.mem_map.mp ha
    exact hb.tk p hp
  have honest : ∀ n, f.hon[n + 1]? = some true → n < f.A.length → f.H (n + 1) := fun n h1 h2 => ⟨by omega, by omega, by
    unfold NF.hb
    rw [List.getD_eq_getElem?_getD, h1]; rfl⟩
  refine ⟨hb.prof, fun n p k hp hh hk => ?_, hdr.1, hdr.2.1, fun hall => ?_⟩
  · have hn : n < f.reps.length := (List.getElem?_eq_some_iff.mp hp).1
    obtain ⟨x, hx, ex⟩ := map_get hk
    have hH := honest n hh (by omega)
    obtain ⟨h2, _⟩ := (hO (n + 1) hH).2 x hx
    rw [rp_at o hp] at h2
    have h0 := hb.k0 x (List.mem_of_getElem? hx)
    rw [← ex, ← h2]
    exact Int.toNat_of_nonneg h0
  · have ets : ((q.1 :: q.2).map fun p => p.1.2.2.2) = f.reps.map fun r => r.2.2 := ext_map (by omega) fun n x y hx hy => by
      have hn : n < f.reps.length := (List.getElem?_eq_some_iff.mp hy).1
      have hh : f.hon[n + 1]? = some true := by
        have e1 : f.hon[n + 1]? = some f.hon[n + 1] := List.getElem?_eq_getElem (by omega)
        have e2 : f.hon[n + 1] ∈ f.hon.drop 1 := List.mem_of_getElem? (i := n) (by rw [List.getElem?_drop, Nat.add_comm 1 n]; exact e1)
        rw [e1, hall _ e2]
      obtain ⟨_, h2⟩ := (hO (n + 1) (honest n hh (by omega))).2 x hx
      rw [rp_at o hy] at h2
      exact h2
    have := hdr.2.2
    rw [ets] at this
    exact (show resN f.A f.rl (q.1 :: q.2) = drawnD (f.rl.getD (pnum (msOf f.A) (kindsOf (q.1 :: q.2))) []) (fracR (((q.1 :: q.2).map fun p => p.1.2.2.2).foldl addR (0, 1))) from rfl).trans (by rw [ets]; exact this)
theorem resO_none {m : Nat} : resO f st m = .none ∨ (f.H m ∧ ∃ q, (st.ps m).bb = some q ∧ resO f st m = resD f.A f.rl (q.1 :: q.2)) := by
  unfold resO
  by_cases h : m ∈ hons f.hb f.A.length
  · rw [if_pos h]
    cases e : (st.ps m).bb with
    | none => exact .inl rfl
    | some q => exact .inr ⟨hons_mem.mp h, q, rfl, rfl⟩
  · rw [if_neg h]; exact .inl rfl
/-- a result stays -/
theorem resO_stay (bb : ∀ m, f.H m → ∀ q, (st.ps m).bb = some q → (st'.ps m).bb = some q) {m : Nat} : resO f st m = .none ∨ resO f st' m = resO f st m := by
  rcases resO_none (f := f) (st := st) (m := m) with h | ⟨hm, q, e, h⟩
  · exact .inl h
  · refine .inr ?_
    rw [h]
    unfold resO
    rw [if_pos (hons_mem.mpr hm), bb m hm q e]
theorem resD_cok {A : List Ag} {rl : List (List Rt)} {l : List (Opn × Int)} (h : l.length ≤ 3) : cok 2 (resD A rl l) = true := cok_mk (Nat.le_of_ble_eq_true rfl) fun x hx => by
  simp only [List.mem_cons, List.not_mem_nil, or_false] at hx
  rcases hx with rfl | rfl
  · refine cok_mk (by rw [List.length_map, List.length_map]; omega) fun x hx => ?_
    obtain ⟨k, _, rfl⟩ := List.mem_map.mp hx
    exact cok_int
  · exact cok_int
theorem resO_data (o : NOk f) (i : NInv f st) {m : Nat} : resO f st m = .none ∨ ∃ d, resO f st m = d ∧ cok 2 d = true ∧ isN (.dat d) = false := by
  rcases resO_none (f := f) (st := st) (m := m) with h | ⟨hm, q, e, h⟩
  · exact .inl h
  · obtain ⟨L, _, hB, _⟩ := book_own o i hm e
    have n3 := o.okA.n3
    exact .inr ⟨_, h, resD_cok (by rw [hB.1]; exact n3), rfl⟩
theorem eqv_same {n : Nat} {d : PyData} (h : cok n d = true) : PyData.eqv d d = true := SeqAt.eqv_refl _ (cok_lay h).1
end

end DL
/-! (Lh) -/
namespace DL
open PySem PySem.Spec PyProof.Rows L2

local macro_rules | `(tactic| fail "l") => `(tactic| first | exact Nat.le_of_ble_eq_true rfl | omega | (simp only [List.length_map, List.length_append, List.length_cons, List.length_nil]; omega))
local macro_rules | `(tactic| fail "aS") => `(tactic| with_reducible first | refine ws_seq ?_ | refine ws_if ?_ | refine ws_ret ?_ | refine ws_asg ?_ | refine ws_drop ?_ | refine ws_next ?_ | refine ws_retN ?_ | refine ws_fldF ?_ | refine ws_fldN ?_ | refine ws_dput ?_ | refine ws_asgT5 ?_ | refine ws_asgT4 ?_ | refine ws_asgT3 ?_)
local macro_rules | `(tactic| fail "aO") => `(tactic| with_reducible first | refine we_ix ?_ | refine we_II ?_ | refine we_IB ?_ | refine we_eq ?_ | refine we_ne ?_ | refine we_add ?_ | refine we_addG ?_ | refine we_IC ?_ | refine we_eqD ?_ | refine we_neD ?_ | refine we_inD ?_ | refine we_notInD ?_ | refine we_in ?_ | refine we_inSg ?_)
local macro_rules | `(tactic| fail "aC") => `(tactic| with_reducible first | refine we_len ?_ | refine we_lenD ?_ | refine we_all ?_ | refine we_any ?_ | refine we_int1 ?_ | refine we_strI ?_ | refine we_listOf ?_ | refine we_tupOf ?_ | refine we_sum ?_ | refine we_abs ?_ | refine we_min2 ?_ | refine we_gcd ?_)
local macro_rules | `(tactic| fail "aE") => `(tactic| first
  | ((with_reducible apply we_var); rfl)
  | with_reducible refine we_int ?_ | with_reducible refine we_str ?_ | with_reducible refine we_non ?_ | with_reducible refine we_bl ?_
  | ((with_reducible show WE _ (tOp _ _ _) _ _ _); fail "aO")
  | ((with_reducible show WE _ (tCB _ _) _ _ _); fail "aC")
  | with_reducible refine we_call ?_ | with_reducible refine we_fld ?_ | with_reducible refine we_meth' ?_ | with_reducible refine we_tup ?_ | with_reducible refine we_isi (by decide) ?_ | with_reducible refine we_lst ?_ | with_reducible refine we_lstG ?_
  | with_reducible refine we_and ?_ | with_reducible refine we_or ?_ | with_reducible refine we_not ?_ | with_reducible refine we_chainI ?_ | with_reducible refine we_isN ?_ | with_reducible refine we_notN ?_ | with_reducible refine we_append ?_ | with_reducible refine we_extend ?_ | with_reducible refine we_index ?_
  | with_reducible refine we_slL ?_ | with_reducible refine we_slT ?_ | with_reducible refine we_dget ?_ | with_reducible refine we_din ?_ | with_reducible refine we_dnotin ?_ | with_reducible refine we_dictG ?_ | with_reducible refine we_prop ?_ | with_reducible refine we_join ?_ | with_reducible refine we_neg ?_ | with_reducible refine we_lenSet ?_)
local macro_rules | `(tactic| fail "aT") => `(tactic| with_reducible first | refine wt_val ?_ | refine wt_tst ?_ | refine wt_and ?_ | refine wt_or ?_ | refine wt_not ?_ | refine wt_yes ?_)
local macro_rules | `(tactic| fail "aD") => `(tactic| with_reducible first | refine dEq_ii ?_ | refine dEq_ss ?_ | refine dEq_bb ?_ | refine dEq_nn ?_ | refine dEq_ni ?_ | refine dEq_in ?_ | refine dAdd_ii ?_ | refine dInt_i ?_ | refine dInt_b ?_ | refine dLen_l ?_ | refine dLen_t ?_)
local macro_rules | `(tactic| fail "a") => `(tactic| first
  | ((with_reducible show WE _ _ _ _ _); fail "aE")
  | ((with_reducible show WA _ _ _ _ _); (with_reducible first | refine wa_cons ?_ | refine wa_nil ?_))
  | ((with_reducible show WS _ _ _ _ _); fail "aS")
  | ((with_reducible show WT _ _ _ _ _); fail "aT")
  | ((with_reducible show WG _ _ _ _ _ _ _); first | with_reducible refine wg_name ?_ | ((with_reducible refine wg_tup ?_ ?_); rfl))
  | ((with_reducible show WGs _ _ _ _ _ _ _); (with_reducible first | refine wgs_cons ?_ | refine wgs_nil ?_))
  | ((with_reducible show WO _ _ _ _ _); (with_reducible first | refine wo_none ?_ | refine wo_some ?_))
  | ((with_reducible show dIx _ _ _ _); first | ((with_reducible apply dIx_t); rfl) | ((with_reducible apply dIx_l); rfl))
  | ((with_reducible show dAdd _ _ _ _); first | with_reducible refine dAdd_ii ?_ | ((with_reducible refine dAdd_ll ?_ ?_); fail "l") | ((with_reducible apply dAdd_ol); (fail "h"); (fail "l")) | ((with_reducible refine dAdd_tt ?_ ?_); fail "l") | ((with_reducible refine dAdd_ss ?_ ?_); fail "l"))
  | fail "aD")
local macro_rules | `(tactic| fail "e") => `(tactic| ((fail_if_success (with_reducible show ∃ _ : NF, _)); (fail_if_success (with_reducible show ∃ _ : PF, _)); (fail_if_success (with_reducible show ∃ _ : DF, _)); (first | with_reducible refine ⟨_, _, rfl, rfl, ?_⟩ | with_reducible refine ⟨_, rfl, ?_⟩ | with_reducible refine ⟨rfl, ?_⟩ | with_reducible refine ⟨_, _, rfl, ?_⟩ | with_reducible refine ⟨_, _, _, rfl, ?_⟩ | with_reducible refine ⟨_, _, _, _, rfl, ?_⟩ | with_reducible refine ⟨_, _, _, _, _, rfl, ?_⟩ | ((refine ⟨?l, ?_⟩); (case l => (with_reducible show _ < 1000000); fail "l")) | ((refine ⟨?l, ?_⟩); (case l => (with_reducible show _ ≤ 1000000); fail "l")))))
local macro_rules | `(tactic| fail "g") => `(tactic| ((funext gb; simp only [updG, dropG]; repeat' split) <;> first | rfl | (exfalso; simp_all; done) | (simp_all; done)))
local macro_rules | `(tactic| fail "q") => `(tactic| first | assumption | exact Ne.symm (by assumption))
local macro_rules | `(tactic| fail "h") => `(tactic| first | assumption | exact updG_same | ((rw [updG_ne]); (fail "h"); (fail "q")))
local macro_rules | `(tactic| fail "z") => `(tactic| first | rfl | exact ⟨rfl, rfl⟩ | exact ⟨_, rfl, rfl⟩ | exact ⟨_, _, rfl, rfl⟩ | exact ⟨_, _, _, rfl, rfl⟩ | assumption)
local macro_rules | `(tactic| fail "t") => `(tactic| ((with_reducible refine ⟨_, _, rfl, ?h1, rfl, ?h2, ?tk⟩); (case h1 => fail "h"); (case h2 => first | decide | omega)))
local macro_rules | `(tactic| fail "f") => `(tactic| first
  | fail "t"
  | refine ⟨_, _, rfl, .inr (.inl rfl), ?_⟩ | refine ⟨_, _, rfl, .inl rfl, ?_⟩
  | (refine ⟨_, ?ds, rfl, .inr (.inr ⟨_, rfl, ?h1⟩), ?_⟩; (case h1 => fail "h"))
  | (refine ⟨_, ?ds, rfl, .inr ⟨_, rfl, ?h1⟩, ?_⟩; (case h1 => fail "h"))
  | ((with_reducible refine ⟨_, ?ds, ?d, rfl, ?h1, ?h2, ?_⟩); (case h1 => fail "h"); (case h2 => rfl))
  | ((with_reducible refine ⟨_, ?ds, rfl, ?h1, ?_⟩); (case h1 => fail "h"))
  | ((with_reducible refine ⟨_, ?ns, ?ds, rfl, ?h1, ?h2, ?_⟩); (case h1 => fail "h"); (case h2 => decide))
  | ((with_reducible refine ⟨_, ?ns, ?ds, rfl, (?h1 : _ = some (GO.ins _ ?ns ?ds)), ?_⟩); (case h1 => fail "h"))
  | ((with_reducible refine ⟨_, rfl, ⟨?ys, ?h1⟩, ?_⟩); (case h1 => fail "h"))
  | ((with_reducible refine ⟨_, ?xs, rfl, ?h1, ?h2, ?_⟩); (case h1 => fail "h"); (case h2 => omega)))
local macro_rules | `(tactic| fail "y") => `(tactic| first
  | ((with_reducible refine ⟨fun _ => ?_, fun hbb => ?nope⟩); (case nope => first | exact Bool.noConfusion (show true = false from hbb) | exact Bool.noConfusion (show false = true from hbb) | exact absurd (of_decide_eq_true hbb) (by omega) | exact absurd (of_decide_eq_false hbb) (by omega) | (simp at hbb; done) | (simp at hbb; omega)))
  | ((with_reducible refine ⟨fun hbb => ?nope, fun _ => ?_⟩); (case nope => first | exact Bool.noConfusion (show true = false from hbb) | exact Bool.noConfusion (show false = true from hbb) | exact absurd (of_decide_eq_true hbb) (by omega) | exact absurd (of_decide_eq_false hbb) (by omega) | (simp at hbb; done) | (simp at hbb; omega))))
local macro_rules | `(tactic| fail "w") => `(tactic| repeat fail "a")
local macro_rules | `(tactic| fail "x") => `(tactic| repeat (first | fail "a" | fail "f" | fail "e" | fail "y"))
local macro_rules | `(tactic| fail "b") => `(tactic| first
  | ((with_reducible show WE _ _ _ _ _); fail "aE")
  | ((with_reducible show WA _ _ _ _ _); (with_reducible first | refine wa_cons ?_ | refine wa_nil ?_))
  | ((with_reducible show WT _ _ _ _ _); fail "aT")
  | ((with_reducible show WG _ _ _ _ _ _ _); first | with_reducible refine wg_name ?_ | ((with_reducible refine wg_tup ?_ ?_); rfl))
  | ((with_reducible show WGs _ _ _ _ _ _ _); (with_reducible first | refine wgs_cons ?_ | refine wgs_nil ?_))
  | ((with_reducible show WO _ _ _ _ _); (with_reducible first | refine wo_none ?_ | refine wo_some ?_))
  | ((with_reducible show dIx _ _ _ _); first | ((with_reducible apply dIx_t); rfl) | ((with_reducible apply dIx_l); rfl))
  | ((with_reducible show dAdd _ _ _ _); first | with_reducible refine dAdd_ii ?_ | ((with_reducible refine dAdd_ll ?_ ?_); fail "l") | ((with_reducible apply dAdd_ol); (fail "h"); (fail "l")) | ((with_reducible refine dAdd_tt ?_ ?_); fail "l") | ((with_reducible refine dAdd_ss ?_ ?_); fail "l"))
  | fail "aD")
local macro_rules | `(tactic| fail "v") => `(tactic| repeat (first | fail "b" | fail "f" | fail "e" | fail "y"))
local macro_rules | `(tactic| fail "n") => `(tactic| ((with_reducible refine ws_seq ?_); (fail "aS"); (fail "v")))

abbrev F_law (K : PySem.W.Frag) : FT := F1 fun x G Φ => ∃ ns : List Int, x = .dat (.list (ns.map .int)) ∧ ns.length ≤ 63 ∧ ∀ G', Φ (.dat (.bool true)) G'
def keyN (k : Nat) : Str := ("k" : Str) ++ (Str.ofString (toString ((0 : Int) + ((k : Nat) : Int))))
instance (ks : List Str) : Decidable (okKeys ks) := by unfold okKeys; infer_instance
theorem keysN_ok {n : Nat} (h2 : 2 ≤ n) (h4 : n ≤ 4) : okKeys ((List.range n).map keyN) := by
  have : n = 2 ∨ n = 3 ∨ n = 4 := by omega
  rcases this with rfl | rfl | rfl <;> decide +kernel
theorem NAt.fresh {K : PySem.W.Frag} {f : NF} {st : NSt} {G : GH} {q : Addr} {X : GO} (a : NAt K f st G) (hq : G q = none) : NAt K f st (updG G q X) := by
  have up : ∀ {x : Addr} {o : GO}, G x = some o → updG G q X x = some o := fun e => by rw [updG_ne (neG_none e hq)]; exact e
  exact ⟨up a.gm, ⟨up a.N.nt, up a.N.hc, up a.N.hs, a.N.okc, a.N.oks⟩, up a.tt, up a.se, up a.pt, fun h => ⟨up (a.d h).1, up (a.d h).2.1, up (a.d h).2.2⟩, fun m h => ⟨up (a.p m h).1, up (a.p m h).2⟩⟩
theorem key_small {a : Nat} (h : a < 4) : ((0 : Int) + ((a : Nat) : Int)).natAbs.log2 < 1920 ∧ (("k" : Str)).length + (Str.ofString (toString ((0 : Int) + ((a : Nat) : Int)))).length ≤ 16777216 := by
  have : a = 0 ∨ a = 1 ∨ a = 2 ∨ a = 3 := by omega
  rcases this with rfl | rfl | rfl | rfl <;> decide +kernel

theorem sc_law : FnScope ["_law_script", "_law_draws_here", "_law_agents", "_law_rule_here", "_law_game_here", "_law_reports_here", "_law_honest", "_law_net", "_law_early", "_law_found", "_law_k", "_law_result"] ["_law_script"] (defScope (top 101)) := ⟨rfl, rfl, rfl, by decide +kernel, rfl, by decide +kernel, by decide +kernel⟩
theorem n_law {P : Program} {w : World} {K : PySem.W.Frag} {mg : Str → Option Value} {base : Heap} {fd : FuncData} {dvs : List V} {kws : List (Str × V)} (e : Ev P w K mg base) (FD : FunD K "law" "law" (defArgs (top 101)) (defBody (top 101)) (defScope (top 101)) dvs kws (He.ga K "law") fd) : FnOk P w K mg base CX0 24 (He.ga K "law") fd ["_law_script"] (spD K (F_law K)) := by
  have S := sc_law
  refine okD FD S (fun _ _ _ h => len1 h) fun cdv A outer s H E hr => ⟨_, (pss_cons (ps_set (i := 1) S.nd rfl (by first | exact Or.inl rfl | exact Or.inr rfl) (k_cl K (o__law_draws e) (hr.mono (by decide)) e.g__law_draws (pa_cons (pv 0) pa_nil)))
      (pss_cons (ps_set (i := 2) S.nd rfl (by first | exact Or.inl rfl | exact Or.inr rfl) (k_cl K (o__law_game e) (hr.mono (by decide)) e.g__law_game (pa_cons (pv 1) pa_nil)))
      (pss_cons (ps_set (i := 3) S.nd rfl (by first | exact Or.inl rfl | exact Or.inr rfl) (k_cl K (o__law_rule e) (hr.mono (by decide)) e.g__law_rule (pa_cons (pv 1) (pa_cons (pv 2) pa_nil))))
      (pss_cons (ps_set (i := 4) S.nd rfl (by first | exact Or.inl rfl | exact Or.inr rfl) (k_mkK K e.m_Game (o_Game_initK e) (hr.mono (by decide)) e.g_Game (pa_cons (k_cl K (o__law_copied e) (hr.mono (by decide)) e.g__law_copied (pa_cons (pv 2) pa_nil)) (pa_cons (pe_lst (pa_cons pe_str (pa_cons pe_str (pa_cons pe_str pa_nil)))) pa_nil)) (pk_cons pe_bl pk_nil)))
      (pss_cons (ps_set (i := 5) S.nd rfl (by first | exact Or.inl rfl | exact Or.inr rfl) (k_cl K (o__law_reports e) (hr.mono (by decide)) e.g__law_reports (pa_cons (pv 1) (pa_cons (pv 2) pa_nil))))
      (pss_cons (ps_set (i := 6) S.nd rfl (by first | exact Or.inl rfl | exact Or.inr rfl) (pe_op (k_addG K) (pe_lst (pa_cons (pe_cmpR op_eq (k_cl K (o__law_take e) (hr.mono (by decide)) e.g__law_take (pa_cons (pv 1) (pa_cons pe_int pa_nil))) pe_int (nomark _)) pa_nil)) (pe_lc (own := [("_law_k", 10)]) rfl S.nd (k_ilist K (pv 2)) (blkOk_by (by rfl)) (fun _ _ _ _ _ => (pg_name (i := 10) S.nd rfl (by first | exact Or.inl rfl | exact Or.inr rfl))) (fun _ _ _ _ _ => pts_nil) (fun _ _ _ _ _ => (pe_cmpR op_gt (k_cl K (o__law_take e) (hr.mono (by decide)) e.g__law_take (pa_cons (pv 1) (pa_cons pe_int pa_nil))) pe_int (nomark _))))))
      (pss_cons (ps_asg pe_bl (pg_sub (pv 6) (pe_op (k_add K) pe_int (k_cl K (o__law_take e) (hr.mono (by decide)) e.g__law_take (pa_cons (pv 1) (pa_cons (pe_callB (k_len K) rfl e.x_len (by decide +kernel) (pa_cons (pv 2) pa_nil)) pa_nil)))) set_list))
      (pss_cons (ps_set (i := 7) S.nd rfl (by first | exact Or.inl rfl | exact Or.inr rfl) (k_mkK K e.m_Net (o_Net_initK e) (hr.mono (by decide)) e.g_Net (pa_cons (pv 4) (pa_cons (pv 3) (pa_cons (pe_lc (own := [("_law_k", 10)]) rfl S.nd (pi_range1 rfl e.x_range (pa_cons (pe_callB (k_len K) rfl e.x_len (by decide +kernel) (pa_cons (pv 6) pa_nil)) pa_nil)) (blkOk_by (by rfl)) (fun _ _ _ _ _ => (pg_name (i := 10) S.nd rfl (by first | exact Or.inl rfl | exact Or.inr rfl))) (fun _ _ _ _ _ => pts_nil) (fun _ _ _ _ _ => (pe_op (k_add K) pe_str (pe_callTy call_strU rfl e.x_str (by decide +kernel) (pa_cons (pv 10) pa_nil))))) pa_nil))) (pk_cons (pe_callTy (k_list K) rfl e.x_list (by decide +kernel) (pa_cons (pv 6) pa_nil)) (pk_cons (pe_callTy (k_list K) rfl e.x_list (by decide +kernel) (pa_cons (pv 5) pa_nil)) pk_nil))))
      (pss_cons (ps_if (pt_not (pt_val (k_cl K (o__law_course e) (hr.mono (by decide)) e.g__law_course (pa_cons (pv 1) (pa_cons (pv 7) (pa_cons (pv 6) (pa_cons (pv 2) (pa_cons (k_cl K (o__law_take e) (hr.mono (by decide)) e.g__law_take (pa_cons (pv 1) (pa_cons pe_int pa_nil))) pa_nil)))))))) (pss_one (ps_ret pe_bl)) pss_nil)
      (pss_cons (ps_setLc (i := 8) (own := [("_law_k", 10)]) rfl S.nd rfl rfl (by rfl) (pi_range1 rfl e.x_range (pa_cons (pe_callB (k_len K) rfl e.x_len (by decide +kernel) (pa_cons (pv 6) pa_nil)) pa_nil)) (blkOk_by (by rfl)) (fun _ _ _ _ _ => (pg_name (i := 10) S.nd rfl (by first | exact Or.inl rfl | exact Or.inr rfl))) (fun _ _ _ _ _ => pts_nil) (fun _ _ _ _ _ => (k_me K e.c_Net e.h_Net_result_of (o_Net_result_of e) (hr.mono (by decide)) (pv 7) (pa_cons (pv 10) pa_nil))))
      (pss_cons (ps_if (pt_not (pt_val (k_cl K (o__law_course e) (hr.mono (by decide)) e.g__law_course (pa_cons (pv 1) (pa_cons (pv 7) (pa_cons (pv 6) (pa_cons (pv 2) (pa_cons (k_cl K (o__law_take e) (hr.mono (by decide)) e.g__law_take (pa_cons (pv 1) (pa_cons pe_int pa_nil))) pa_nil)))))))) (pss_one (ps_ret pe_bl)) pss_nil)
      (pss_cons (ps_if (pt_cmpR op_lt (pe_callB (k_len K) rfl e.x_len (by decide +kernel) (pa_cons (k_me0 K e.c_Net e.h_Net_letters (o_Net_letters e) (hr.mono (by decide)) (pv 7)) pa_nil)) pe_int (nomark _)) (pss_one (ps_expr (k_cl K (o__law_rounds e) (hr.mono (by decide)) e.g__law_rounds (pa_cons (pv 7) (pa_cons (pv 6) (pa_cons pe_int pa_nil)))))) pss_nil)
      (pss_cons (ps_set (i := 9) S.nd rfl (by first | exact Or.inl rfl | exact Or.inr rfl) (pe_lstG pa_nil))
      (pss_cons (ps_for PassesOwn.never rfl (pi_range2 rfl e.x_range (pa_cons pe_int (pa_cons (pe_callB (k_len K) rfl e.x_len (by decide +kernel) (pa_cons (pv 6) pa_nil)) pa_nil))) (pg_name (i := 10) S.nd rfl (by first | exact Or.inl rfl | exact Or.inr rfl)) (pss_cons (ps_set (i := 11) S.nd rfl (by first | exact Or.inl rfl | exact Or.inr rfl) (k_me K e.c_Net e.h_Net_result_of (o_Net_result_of e) (hr.mono (by decide)) (pv 7) (pa_cons (pv 10) pa_nil)))
      (pss_cons (ps_if (PW.pt (pw_and (pt_cmp (pc_notN (pe_ix (k_ix K) (pv 8) (pv 10) (fun _ _ => rfl)))) (pw_and1 (pt_cmpR (k_neD K hr) (pv 11) (pe_ix (k_ix K) (pv 8) (pv 10) (fun _ _ => rfl)) (nomark _))))) (pss_one (ps_ret pe_bl)) pss_nil)
      (pss_one (ps_if (pt_val (pe_ix (k_ix K) (pv 6) (pv 10) (fun _ _ => rfl))) (pss_cons (ps_if (PW.pt (pw_or (pt_not (pt_val (k_cl K (o__law_result_is_right e) (hr.mono (by decide)) e.g__law_result_is_right (pa_cons (pv 11) (pa_cons (pv 2) (pa_cons (pv 3) (pa_cons (pv 5) (pa_cons (pv 6) pa_nil)))))))) (pw_or1 (pt_not (pt_val (k_cl K (o__law_told_early e) (hr.mono (by decide)) e.g__law_told_early (pa_cons (pv 7) (pa_cons (pv 10) pa_nil)))))))) (pss_one (ps_ret pe_bl)) pss_nil)
      (pss_one (ps_if (pt_cmp (pc_notN (pv 11))) (pss_one (ps_expr (k_bm K PySem.F.plainAttrs_list PySem.F.slot_list_append PySem.F.type_list_append mt_append (pv 9) (pa_cons (pv 11) pa_nil)))) pss_nil))) pss_nil)))))
      (pss_one (ps_ret (pe_cmpR op_eq (pe_callB (k_len K) rfl e.x_len (by decide +kernel) (pa_cons (pe_lc (own := [("_law_result", 11)]) rfl S.nd (k_ilist K (pv 9)) (blkOk_by (by rfl)) (fun _ _ _ _ _ => (pg_name (i := 11) S.nd rfl (by first | exact Or.inl rfl | exact Or.inr rfl))) (fun _ _ _ _ _ => (pts_one (pt_cmpR (k_neD K hr) (pv 11) (pe_ix (k_ix K) (pv 9) pe_int (fun _ _ => rfl)) (nomark _)))) (fun _ _ _ _ _ => (pv 11))) pa_nil)) pe_int (nomark _)))))))))))))))))), ?_⟩
  intro ds G Φ h
  try dsimp only [cxK, blkK]
  obtain ⟨x, rfl, ns, rfl, hn, k⟩ := h
  with_reducible refine ws_seq ?_
  with_reducible refine ws_asg ?_
  fail "v"
  refine ⟨hn, fun d hd => ?_⟩
  have gd : updG G d .nums d = some .nums := updG_same
  generalize updG G d .nums = G1 at gd ⊢
  with_reducible refine ws_seq ?_
  with_reducible refine ws_asg ?_
  fail "v"
  refine ⟨gd, fun A hA => ?_⟩
  have n1 := hA.n1
  have n3 := hA.n3
  have hAm : ((A.map agD).length : Int) = (A.length : Int) := by rw [List.length_map]
  with_reducible refine ws_seq ?_
  with_reducible refine ws_asg ?_
  fail "v"
  intro rl hR
  with_reducible refine ws_seq ?_
  with_reducible refine ws_asg ?_
  refine we_makeK (god_Game e) ?_
  fail "v"
  refine ⟨hA, ?_⟩
  fail "v"
  intro g hg
  have hdg : d ≠ g := neG_none gd hg
  refine ⟨_, _, _, _, _, _, _, rfl, g, A, rfl, updG_same, hA, rfl, rfl, rfl, rfl, rfl, rfl, rfl, ?_⟩
  rw [updG_updG]
  have gd2 : updG G1 g (gameO K A) d = some .nums := by rw [updG_ne hdg]; exact gd
  have gg : updG G1 g (gameO K A) g = some (gameO K A) := updG_same
  generalize updG G1 g (gameO K A) = G2 at gd2 gg ⊢
  with_reducible refine ws_seq ?_
  with_reducible refine ws_asg ?_
  fail "v"
  intro reps hrl hro
  with_reducible refine ws_seq ?_
  with_reducible refine ws_asg ?_
  fail "v"
  intro r0 hr0
  fail "v"
  refine we_lc (wi_list ?_)
  fail "v"
  refine ⟨[10], fun i acc G' => (∃ bs : List Bool, acc = bs.map .bool ∧ bs.length = i) ∧ G' = G2, by rw [List.length_map]; omega, by decide, ⟨⟨[], rfl, rfl⟩, rfl⟩, ?_, ?_⟩
  · rintro i x acc G' hx hl ⟨⟨bs, rfl, hbl⟩, rfl⟩
    obtain ⟨a, ha, rfl⟩ := map_get hx
    fail "x"
    intro r hr
    fail "x"
    exact ⟨⟨bs ++ [_], by rw [List.map_append]; rfl, by rw [List.length_append, hbl]; rfl⟩, rfl⟩
  rintro acc G' hl ⟨⟨bs, rfl, hbl⟩, rfl⟩
  rw [List.length_map] at hbl
  refine ⟨[.bool (decide (((r0 : Nat) : Int) = 0))], bs.map .bool, .inl rfl, .inl rfl, by simp; omega, fun p hp => ?_⟩
  have hdp : d ≠ p := neG_none gd2 hp
  have hgp : g ≠ p := neG_none gg hp
  refine ws_seq (ws_setL ?_)
  fail "v"
  rw [hAm]
  intro r1 hr1
  fail "v"
  refine ⟨.bool true, p, _, 1 + r1, rfl, rfl, updG_same, congrArg (fun i => Dt.dat (.int i)) (by omega), by simp; omega, ?_⟩
  rw [updG_updG]
  refine ws_letS (i := 6) rfl updG_same ?_
  rw [drop_same, drop_none hp]
  have ehon : ([PyData.bool (decide (((r0 : Nat) : Int) = 0))] ++ bs.map PyData.bool).set (1 + r1) (.bool true) = ((decide (((r0 : Nat) : Int) = 0) :: bs).set (1 + r1) true).map .bool := by rw [List.map_set]; rfl
  rw [ehon]
  have hhl : ((decide (((r0 : Nat) : Int) = 0) :: bs).set (1 + r1) true).length = A.length + 1 := by rw [List.length_set, List.length_cons, hbl]
  generalize ((decide (((r0 : Nat) : Int) = 0) :: bs).set (1 + r1) true) = hon at hhl ⊢
  have hhm : ((hon.map PyData.bool).length : Int) = (A.length : Int) + 1 := by rw [List.length_map, hhl]; rfl
  refine ws_seq (ws_asg (we_makeK god_Net ?_))
  fail "v"
  refine we_mapL (wi_rng1 ?_)
  fail "v"
  rw [hhm]
  refine ⟨by omega, by omega, ?_⟩
  rw [show ((A.length : Int) + 1).toNat = A.length + 1 by omega]
  refine ⟨[10], Nat, List.range (A.length + 1), fun k => .int ((0 : Int) + ((k : Nat) : Int)), fun k => .str (keyN k), rfl, by decide, by rw [List.length_range]; omega, fun a ha => ?_, ?_⟩
  · have ha4 : a < 4 := by have := List.mem_range.mp ha; omega
    obtain ⟨k1, k2⟩ := key_small ha4
    fail "x"
    exact ⟨k1, dAdd_ss k2 ⟨rfl, rfl⟩⟩
  fail "v"
  intro t ht
  refine ⟨_, _, _, _, _, _, _, rfl, A, rl, (List.range (A.length + 1)).map keyN, hon, reps, g, t, rfl, updG_same, rfl, ?_, hA, hR, rfl, ?_, keysN_ok (by omega) (by omega), by rw [List.length_map, List.length_range], rfl, hhl, rfl, hrl, hro, rfl, fun f st G4 fA frl fks fhon freps ft o a i b hbb hnu => ⟨rfl, ?_⟩⟩
  · rw [updG_ne (neG_none gg ht)]; exact gg
  · rw [List.map_map]; rfl
  have gd4 := hnu d (by rw [updG_ne (neG_none gd2 ht)]; exact gd2)
  subst fA
  subst frl
  subst fhon
  subst freps
  subst ft
  clear hnu fks
  fail "v"
  with_reducible refine ws_cut (fun δ' G' => ∃ st2, NGo K f st G4 st2 G' ∧ NLe 90 f st2 ∧ δ' = [some (.dat (.list (ns.map .int))), some (.obj d), some (.dat (.list (f.A.map agD))), some (.dat (ruleD f.A.length f.rl)), some (.obj g), some (.dat (.list (f.reps.map rpD))), some (.dat (.list (f.hon.map .bool))), some (.obj f.t), none, none, none, none]) ?_ ?_
  · with_reducible refine ws_if ?_
    fail "v"
    intro r hr
    fail "v"
    refine ⟨d, f, st, 10, r, rfl, gd4, rfl, a, o, i, b, by omega, rfl, rfl, rfl, by omega, fun st2 G5 go b2 => ?_⟩
    fail "v"
    exact ws_next ⟨st2, go, b2.mono (by omega), rfl⟩
  clear hbb hhl hbl ehon
  rintro δ' G5 ⟨st2, go, b2, rfl⟩
  have hhl := o.hlen
  have a2 := go.at_
  have i2 := go.inv
  have gd5 := go.nums d gd4
  refine ws_seq (ws_asg (we_mapL (wi_rng1 ?_)))
  fail "v"
  rw [hhm]
  refine ⟨by omega, by omega, ?_⟩
  rw [show ((f.A.length : Int) + 1).toNat = f.A.length + 1 by omega]
  refine ⟨[10], Nat, List.range (f.A.length + 1), fun k => .int ((0 : Int) + ((k : Nat) : Int)), fun m => resO f st2 m, rfl, by decide, by rw [List.length_range]; omega, fun m hm => ?_, ?_⟩
  · show WG K _ _ (Dt.dat (PyData.int ((0 : Int) + ((m : Nat) : Int)))) _ _ _
    rw [Int.zero_add]
    have h1 := a2.tt
    fail "x"
    exact ⟨f, st2, m, rfl, a2, o, i2, rfl, rfl, rfl⟩
  -- the second course
  with_reducible refine ws_cut (fun δ' G' => ∃ st3, NGo K f st2 G5 st3 G' ∧ NLe 200 f st3 ∧ δ' = [some (.dat (.list (ns.map .int))), some (.obj d), some (.dat (.list (f.A.map agD))), some (.dat (ruleD f.A.length f.rl)), some (.obj g), some (.dat (.list (f.reps.map rpD))), some (.dat (.list (f.hon.map .bool))), some (.obj f.t), some (.dat (.list ((List.range (f.A.length + 1)).map fun m => resO f st2 m))), none, none, none]) ?_ ?_
  · with_reducible refine ws_if ?_
    fail "v"
    intro r hr
    fail "v"
    refine ⟨d, f, st2, 90, r, rfl, gd5, rfl, a2, o, i2, b2, by omega, rfl, rfl, rfl, by omega, fun st3 G6 go3 b3 => ?_⟩
    fail "v"
    exact ws_next ⟨st3, go3, b3.mono (by omega), rfl⟩
  rintro δ' G6 ⟨st3, go3, b3, rfl⟩
  have a3 := go3.at_
  have i3 := go3.inv
  -- the passes
  with_reducible refine ws_cut (fun δ' G' => ∃ st4, NGo K f st2 G5 st4 G' ∧ δ' = [some (.dat (.list (ns.map .int))), some (.obj d), some (.dat (.list (f.A.map agD))), some (.dat (ruleD f.A.length f.rl)), some (.obj g), some (.dat (.list (f.reps.map rpD))), some (.dat (.list (f.hon.map .bool))), some (.obj f.t), some (.dat (.list ((List.range (f.A.length + 1)).map fun m => resO f st2 m))), none, none, none]) ?_ ?_
  · with_reducible refine ws_if ?_
    have h1 := a3.tt
    fail "v"
    refine ⟨i3.sl, ?_⟩
    fail "v"
    refine ⟨fun _ => ?_, fun _ => ?_⟩
    · refine ws_drop ?_
      fail "v"
      refine ⟨f, st3, 200, rfl, a3, o, i3, b3, by omega, rfl, rfl, fun st4 G7 go4 => ?_⟩
      exact ⟨st4, go3.trans go4, rfl⟩
    · exact ws_next ⟨st3, go3, rfl⟩
  rintro δ' G7 ⟨st4, go4, rfl⟩
  have a4 := go4.at_
  have i4 := go4.inv
  clear a3 i3 b3 go3
  fail "n"
  intro q hq
  with_reducible refine ws_cut (fun δ' G' => ∃ (xs : List PyData) (y10 y11 : Option Dt), δ' = [some (.dat (.list (ns.map .int))), some (.obj d), some (.dat (.list (f.A.map agD))), some (.dat (ruleD f.A.length f.rl)), some (.obj g), some (.dat (.list (f.reps.map rpD))), some (.dat (.list (f.hon.map .bool))), some (.obj f.t), some (.dat (.list ((List.range (f.A.length + 1)).map fun m => resO f st2 m))), some (.obj q), y10, y11] ∧ G' = updG G7 q (.lst xs) ∧ xs.length ≤ 3 ∧ ∀ x ∈ xs, ∃ j u, f.H j ∧ (st4.ps j).bb = some u ∧ x = resD f.A f.rl (u.1 :: u.2)) ?_ ?_
  · with_reducible refine ws_for ?_
    with_reducible refine wi_rng2 ?_
    fail "v"
    rw [hhm]
    refine ⟨by omega, ?_⟩
    rw [show ((f.A.length : Int) + 1 - 1).toNat = f.A.length by omega]
    refine ⟨[10], fun j δ' G' => ∃ (xs : List PyData) (y10 y11 : Option Dt), δ' = [some (.dat (.list (ns.map .int))), some (.obj d), some (.dat (.list (f.A.map agD))), some (.dat (ruleD f.A.length f.rl)), some (.obj g), some (.dat (.list (f.reps.map rpD))), some (.dat (.list (f.hon.map .bool))), some (.obj f.t), some (.dat (.list ((List.range (f.A.length + 1)).map fun m => resO f st2 m))), some (.obj q), y10, y11] ∧ G' = updG G7 q (.lst xs) ∧ xs.length ≤ j ∧ ∀ x ∈ xs, ∃ j u, f.H j ∧ (st4.ps j).bb = some u ∧ x = resD f.A f.rl (u.1 :: u.2), ⟨[], none, none, rfl, rfl, Nat.le_refl _, fun x hx => (by cases hx)⟩, ?_, ?_⟩
    · rintro j x δ' G' hx ⟨xs, y10, y11, rfl, rfl, hxl, hxo⟩
      obtain ⟨hj, rfl⟩ := upD_get.mp hx
      have e1 : (1 : Int) + (j : Nat) = ((j + 1 : Nat) : Int) := by omega
      rw [e1]
      have a8 := a4.fresh (X := .lst xs) hq
      have h1 := a8.tt
      fail "v"
      with_reducible refine ws_seq ?_
      with_reducible refine ws_asg ?_
      fail "v"
      refine ⟨f, st4, j + 1, rfl, a8, o, i4, rfl, ?_⟩
      have hea : ((List.range (f.A.length + 1)).map fun m => resO f st2 m)[j + 1]? = some (resO f st2 (j + 1)) := by rw [List.getElem?_map, List.getElem?_range (by omega)]; rfl
      have hst := resO_stay (f := f) (st := st2) (st' := st4) go4.bb (m := j + 1)
      with_reducible refine ws_cut (fun δ' G' => δ' = [some (.dat (.list (ns.map .int))), some (.obj d), some (.dat (.list (f.A.map agD))), some (.dat (ruleD f.A.length f.rl)), some (.obj g), some (.dat (.list (f.reps.map rpD))), some (.dat (.list (f.hon.map .bool))), some (.obj f.t), some (.dat (.list ((List.range (f.A.length + 1)).map fun m => resO f st2 m))), some (.obj q), some (.dat (.int ((j + 1 : Nat) : Int))), some (.dat (resO f st4 (j + 1)))] ∧ G' = updG G7 q (.lst xs)) ?_ ?_
      · with_reducible refine ws_if ?_
        fail "v"
        rcases resO_data o i2 (m := j + 1) with hN | ⟨dd, hD, hC, hI⟩
        · rw [hN] at hea
          refine dIx_l (atI_nat hea) ?_
          fail "v"
          exact ws_next ⟨rfl, rfl⟩
        · rw [hD] at hea
          have hS : resO f st4 (j + 1) = dd := by
            rcases hst with z | z
            · rw [hD] at z
              rw [z] at hI
              cases hI
            · exact z.trans hD
          have hsh := cok_shaped hC (by decide)
          have heq := eqv_same hC
          rw [hS]
          refine dIx_l (atI_nat hea) ?_
          fail "v"
          refine ⟨fun _ => ?_, fun hb => absurd hb (by rw [hI]; decide)⟩
          fail "v"
          refine dIx_l (atI_nat hea) ?_
          fail "v"
          refine ⟨hsh, hsh, ?_⟩
          rw [heq]
          fail "v"
          exact ws_next ⟨rfl, rfl⟩
      rintro δ' G8 ⟨rfl, rfl⟩
      clear hst hea
      have hbj : f.hon[j + 1]? = some (f.hb (j + 1)) := NF.hb_at (by omega)
      with_reducible refine ws_if ?_
      fail "v"
      refine dIx_l (atI_nat (by rw [List.getElem?_map, hbj]; rfl)) ?_
      fail "v"
      refine ⟨fun hb => ?_, fun _ => ?_⟩
      · have hH : f.H (j + 1) := ⟨by omega, by omega, hb⟩
        rcases resO_none (f := f) (st := st4) (m := j + 1) with hN | ⟨_, u, hu, hU⟩
        · rw [hN]
          fail "x"
          refine ⟨f.A, f.rl, f.reps, f.hon, rfl, o.okA, rfl, o.okR, rfl, o.rlen, hro, rfl, o.hlen, .inl rfl, ?_⟩
          fail "x"
          refine ⟨f, st4, j + 1, rfl, a8, o, i4, rfl, hH, ?_⟩
          fail "x"
          exact ⟨xs, _, _, rfl, rfl, by omega, hxo⟩
        · have hR2 := res_right o i4 hH hu
          rw [hU]
          fail "x"
          refine ⟨f.A, f.rl, f.reps, f.hon, rfl, o.okA, rfl, o.okR, rfl, o.rlen, hro, rfl, o.hlen, .inr ⟨_, _, rfl, hR2⟩, ?_⟩
          fail "x"
          refine ⟨f, st4, j + 1, rfl, a8, o, i4, rfl, hH, ?_⟩
          fail "x"
          refine ⟨xs ++ [resD f.A f.rl (u.1 :: u.2)], _, _, rfl, by rw [updG_updG], by rw [List.length_append]; show _ + 1 ≤ _; omega, fun x hx => ?_⟩
          rcases List.mem_append.mp hx with hx | hx
          · exact hxo x hx
          · rw [List.mem_singleton.mp hx]; exact ⟨_, u, hH, hu, rfl⟩
      · exact ws_next ⟨xs, _, _, rfl, rfl, by omega, hxo⟩
    · rintro δ' G' ⟨xs, y10, y11, rfl, rfl, hxl, hxo⟩
      rw [upD_length] at hxl
      exact ⟨xs, _, _, rfl, rfl, by omega, hxo⟩
  rintro δ' G' ⟨xs, y10, y11, rfl, rfl, hxl, hxo⟩
  refine ws_letS (i := 9) rfl updG_same ?_
  rw [drop_same, drop_none hq]
  with_reducible refine ws_ret ?_
  fail "v"
  refine we_filtL (wi_list ?_)
  fail "v"
  have hall : ∀ x ∈ xs, ∀ y ∈ xs, x = y ∧ cok 2 x = true := fun x hx y hy => by
    obtain ⟨j1, u1, h1, h2, h3⟩ := hxo x hx
    obtain ⟨j2, u2, h4, h5, h6⟩ := hxo y hy
    obtain ⟨L, _, hB, _⟩ := book_own o i4 h1 h2
    refine ⟨by rw [h3, h6]; exact same_res o i4 h1 h4 h2 h5, ?_⟩
    rw [h3]
    exact resD_cok (by rw [hB.1]; exact n3)
  refine ⟨[11], PyData, PyData, xs, id, fun _ => none, id, (List.map_id xs).symm, by decide, by omega, fun x hx => ?_, ?_⟩
  · have hpos : 0 < xs.length := List.length_pos_of_mem hx
    have hx0 : xs[0]? = some xs[0] := List.getElem?_eq_getElem hpos
    obtain ⟨ex, hc⟩ := hall x hx _ (List.mem_of_getElem? hx0)
    rw [← ex] at hx0
    have hsh := cok_shaped hc (by decide)
    have heq := eqv_same hc
    fail "v"
    refine dIx_l (atI_nat (k := 0) hx0) ?_
    fail "v"
    refine ⟨hsh, hsh, _, rfl, fun hb => ?_, fun _ => ⟨rfl, rfl⟩⟩
    rw [show PyData.eqv (id x) x = true from heq] at hb
    cases hb
  fail "v"
  have enil : ((xs.filterMap fun _ => (none : Option PyData)).map id).length = 0 := by simp
  rw [enil]
  exact k _
theorem o_law {P : Program} {w : World} {K : PySem.W.Frag} {mg : Str → Option Value} {base : Heap} (e : Ev P w K mg base) : OkD P w K mg base 24 (He.ga K "law") ["_law_script"] [] (F_law K) := by
  obtain ⟨fd, FD⟩ := e.d_law
  exact okN FD (n_law e FD) fun _ _ _ _ _ _ us hl => match us, hl with | [_], _ => rfl
end DL
/-! (J) -/
namespace DL
open PySem PySem.Spec PyProof.Rows L2
theorem law_start {K : PySem.W.Frag} (nl : NoL K) {H : Hp} {a : Addr} {ns : List Int} (hl : ns.length ≤ 63) (hS : SqL K H a (ns.map V.int)) : spD K (F_law K) [.ref a] H (fun v _ => v = .bl true) fun _ _ _ => False := by
  have hR : Rd H a (.lst (ns.map V.int)) := by
    rcases hS with q | ⟨o, its, n, lk, hc, _⟩
    · exact q
    · have z := nl a o lk
      unfold noList at z
      rw [hc] at z
      cases z
  have nb : ¬ Bk (fun _ => False) (fun _ => none) a := fun b => by
    rcases b with b | ⟨o, b⟩
    · exact b
    · cases b
  refine ⟨fun _ => False, [.dat (.list (ns.map .int))], fun _ => none, fun d _ => d = .dat (.bool true), .cons (Dq.lst nb hR (dqa_nums ns)) .nil, ⟨fun b o e => (by cases e), fun b e => e.elim⟩, ⟨_, rfl, ns, rfl, hl, fun _ => rfl⟩, fun v d G' H' s1 r1 v1 e => ?_⟩
  subst e
  cases v1
  rfl
theorem law_facts {P : Program} {w : World} {K : PySem.W.Frag} {h : Heap} {mg : Str → Option Value} {f : Addr} (X : K.In h) (G : h.Ns mainGlobals mg) (hfa : mg ("law" : Str) = some (.ref f)) (c : SaysX fas dAs tps prs K) :
    ∃ fd : FuncData, (∀ (s : Shared) (v : Value), BindsTo s fd ⟨[v], []⟩ [("_law_script", v)]) ∧ ∀ base : Heap, K.In base → base.Ns mainGlobals mg → FnOk P w K mg base CX0 24 f fd ["_law_script"] (spD K (F_law K)) := by
  obtain ⟨fd, FD⟩ := (ev_of (P := P) (w := w) (base := h) X G c).d_law
  have e := hfa.symm.trans (ev_of (P := P) (w := w) (base := h) X G c).g_law
  cases e
  have b := FunD.bindsA (ps := ["_law_script"]) FD fun _ _ _ _ _ _ us hl => match us, hl with | [_], _ => rfl
  exact ⟨fd, fun s v => b s [v] rfl, fun base _ _ => n_law (ev_of X G c) FD⟩
end DL
open PySem PySem.W PySem.Calls PyProof.Rows
theorem PySem.Challenge.cw_unbent_k68_whole_honest_parties_are_not_holds : PySem.Challenge.rw_unbent_k68_whole_honest_parties_are_not.Holds := by
  w_on; o_law
  refine HandSHeadRun.head_imp (r := OpenLaw.row PySem.Challenge.rw_unbent_k68_whole_honest_parties_are_not) (q := view (OpenLaw.row PySem.Challenge.rw_unbent_k68_whole_honest_parties_are_not).prog [0, 101]) (H := DL.hk) (ob := DL.ob) (M := 20000) (loose := DL.nms) (d := HandSHeadRun.topDef (OpenLaw.row PySem.Challenge.rw_unbent_k68_whole_honest_parties_are_not).prog 101) (kwd := []) DL.ob_eq
    DL.run (by kernel_rfl) (by kernel_rfl) (by kernel_rfl) (by rfl) (by first | assumption | decide +kernel) (by decide +kernel) ⟨rfl, rfl, rfl, rfl, rfl, by decide +kernel⟩ ?hw ?hc
  case hw => w_witness2
  case hc =>
    refine L2.walk_ofE (l := PySem.Challenge.rw_unbent_k68_whole_honest_parties_are_not) (n := 63) (k := 24) (x := "_law_script") (CX := L2.CX0) rfl (by decide) (by kernel_rfl) ⟨rfl, by decide, by decide⟩ ?F (fun _ _ _ _ z => z)
    intro w mg fa h Y G hmg0
    obtain ⟨K, KX, nl, c⟩ := Y
    have hmg : mg ("law" : PySem.Str) = some (.ref fa) := by
      have e : (HandSHeadRun.topDef (OpenLaw.row PySem.Challenge.rw_unbent_k68_whole_honest_parties_are_not).prog 101).name = ("law" : PySem.Str) := by kernel_rfl
      rw [← e]
      exact hmg0
    obtain ⟨fd, hb, hF⟩ := DL.law_facts (P := (PySem.Challenge.rw_unbent_k68_whole_honest_parties_are_not).prog) (w := w) KX G hmg c
    exact ⟨K, fd, DL.spD K (DL.F_law K), KX, hb, fun H a ns hl _ hS => DL.law_start nl hl hS, hF⟩
